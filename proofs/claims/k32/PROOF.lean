import PyProof.Rows.All
import Wide.All
import OpenK.AllK
import Wide.FinOn
import HandS.ForMost
import HandS.Wide
import HandS.TupAny
import HandS.IsInst
import HandS.Conv
import HandS.Deep
import HandS.ClsMeth
import PyProof.ListRange
import PyProof.WalksMore
import HandS.Exc
import HandS.Style
import HandS.Sort
import HandS.Small
import HandS.More
import HandS.ExcOwn
import HandS.ExcIs
import HandS.TryOnly
import HandS.WordsExc
import HandS.Lambda
import KE.GoesEnum
import HandS.Flt
import KE.KRevIter
import KE.GoesRev
import HandS.Zip
import HandS.Rev
import PyProof.CollectIter
import PySem.Challenge.RW_oneroom_k32_whole_rings
set_option Elab.async false
set_option linter.all false
set_option maxRecDepth 100000
set_option maxHeartbeats 4000000
/-! DCore: a deep-data calculus over the hand layer. -/
namespace DL
open PySem L2

/-! ### deep data -/
inductive D where
  | non
  | bl (b : Bool)
  | int (i : Int)
  | str (s : Str)
  | ty (n : String)
  | fn (a : Addr)
  | lst (xs : List D)
  | scr (xs : List D)
  | tup (xs : List D)
  | obj (C : Addr) (ns : List Str) (xs : List D)

def Ex (H H' : Hp) : Prop := ∀ a o, H a = some o → H' a = some o
theorem Ex.refl (H : Hp) : Ex H H := fun _ _ h => h
theorem Ex.trans {H H1 H2 : Hp} (a : Ex H H1) (b : Ex H1 H2) : Ex H H2 := fun x o h => b x o (a x o h)
theorem Ex.new {H : Hp} {p : Addr} {o : HO} (h : H p = none) : Ex H (upd H p o) := fun a u e => by
  rw [upd_ne (ne_of_none e h)]
  exact e
theorem Ex.rd {H H' : Hp} {a : Addr} {u : HO} (e : Ex H H') (h : Rd H a u) : Rd H' a u := by
  rcases h with h | ⟨o, h⟩
  · exact Or.inl (e a _ h)
  · exact Or.inr ⟨o, e a _ h⟩
theorem Ex.sl {K : PySem.W.Frag} {H H' : Hp} {a : Addr} {xs : List V} (e : Ex H H') (h : SqL K H a xs) : SqL K H' a xs := by
  rcases h with h | h
  · exact Or.inl (e.rd h)
  · exact Or.inr h
theorem Ex.st {K : PySem.W.Frag} {H H' : Hp} {a : Addr} {xs : List V} (e : Ex H H') (h : SqT K H a xs) : SqT K H' a xs := by
  rcases h with h | h
  · exact Or.inl (e.rd h)
  · exact Or.inr h

mutual
inductive Rep (K : PySem.W.Frag) (H : Hp) : V → D → Prop
  | non : Rep K H .non .non
  | bl (b : Bool) : Rep K H (.bl b) (.bl b)
  | int (i : Int) : Rep K H (.int i) (.int i)
  | str (x : Str) : Rep K H (.str x) (.str x)
  | ty (n : String) : Rep K H (.ty n) (.ty n)
  | fn (a : Addr) : Rep K H (.ref a) (.fn a)
  | lst {a : Addr} {vs : List V} {ds : List D} : H a = some (.lst vs) → RepL K H vs ds → Rep K H (.ref a) (.lst ds)
  | scr {a : Addr} {vs : List V} {ds : List D} : SqL K H a vs → RepL K H vs ds → Rep K H (.ref a) (.scr ds)
  | tup {a : Addr} {vs : List V} {ds : List D} : H a = some (.tup vs) → RepL K H vs ds → Rep K H (.ref a) (.tup ds)
  | obj {a C dx : Addr} {ns : List Str} {vs : List V} {ds : List D} : H a = some (.ins C dx (ns.zip vs)) → RepL K H vs ds → Rep K H (.ref a) (.obj C ns ds)
inductive RepL (K : PySem.W.Frag) (H : Hp) : List V → List D → Prop
  | nil : RepL K H [] []
  | cons {v : V} {vs : List V} {d : D} {ds : List D} : Rep K H v d → RepL K H vs ds → RepL K H (v :: vs) (d :: ds)
end

section
variable {K : PySem.W.Frag} {H H' : Hp}
mutual
theorem Rep.mono (e : Ex H H') : ∀ {v : V} {d : D}, Rep K H v d → Rep K H' v d
  | _, _, .non => .non
  | _, _, .bl b => .bl b
  | _, _, .int i => .int i
  | _, _, .str x => .str x
  | _, _, .ty n => .ty n
  | _, _, .fn a => .fn a
  | _, _, .lst h r => .lst (e _ _ h) (RepL.mono e r)
  | _, _, .scr h r => .scr (e.sl h) (RepL.mono e r)
  | _, _, .tup h r => .tup (e _ _ h) (RepL.mono e r)
  | _, _, .obj h r => .obj (e _ _ h) (RepL.mono e r)
theorem RepL.mono (e : Ex H H') : ∀ {vs : List V} {ds : List D}, RepL K H vs ds → RepL K H' vs ds
  | _, _, .nil => .nil
  | _, _, .cons h r => .cons (Rep.mono e h) (RepL.mono e r)
end
theorem RepL.length : ∀ {vs : List V} {ds : List D}, RepL K H vs ds → vs.length = ds.length
  | _, _, .nil => rfl
  | _, _, .cons _ r => by rw [List.length_cons, List.length_cons, RepL.length r]
theorem RepL.get : ∀ {vs : List V} {ds : List D} {i : Nat} {v : V}, RepL K H vs ds → vs[i]? = some v → ∃ d, ds[i]? = some d ∧ Rep K H v d
  | _, _, _, _, .nil, e => by simp at e
  | _, _, 0, _, .cons h _, e => by
    have e' := Option.some.inj e
    subst e'
    exact ⟨_, rfl, h⟩
  | _, _, i + 1, v, .cons _ r, e => RepL.get (i := i) (v := v) r e
theorem RepL.at : ∀ {vs : List V} {ds : List D} {i : Nat} {d : D}, RepL K H vs ds → ds[i]? = some d → ∃ v, vs[i]? = some v ∧ Rep K H v d
  | _, _, _, _, .nil, e => by simp at e
  | _, _, 0, _, .cons h _, e => by
    have e' := Option.some.inj e
    subst e'
    exact ⟨_, rfl, h⟩
  | _, _, i + 1, d, .cons _ r, e => RepL.at (i := i) (d := d) r e
theorem RepL.append : ∀ {vs ws : List V} {ds es : List D}, RepL K H vs ds → RepL K H ws es → RepL K H (vs ++ ws) (ds ++ es)
  | _, _, _, _, .nil, q => q
  | _, _, _, _, .cons h r, q => .cons h (RepL.append r q)
theorem RepL.take : ∀ {vs : List V} {ds : List D} (n : Nat), RepL K H vs ds → RepL K H (vs.take n) (ds.take n)
  | _, _, 0, _ => .nil
  | _, _, _ + 1, .nil => .nil
  | _, _, n + 1, .cons h r => .cons h (RepL.take n r)
theorem RepL.drop : ∀ {vs : List V} {ds : List D} (n : Nat), RepL K H vs ds → RepL K H (vs.drop n) (ds.drop n)
  | _, _, 0, r => r
  | _, _, _ + 1, .nil => .nil
  | _, _, n + 1, .cons _ r => RepL.drop n r
theorem RepL.set {v : V} {d : D} (h : Rep K H v d) : ∀ {vs : List V} {ds : List D} (i : Nat), RepL K H vs ds → RepL K H (vs.set i v) (ds.set i d)
  | _, _, _, .nil => .nil
  | _, _, 0, .cons _ r => .cons h r
  | _, _, i + 1, .cons q r => .cons q (RepL.set h i r)
theorem RepL.erase : ∀ {vs : List V} {ds : List D} (i : Nat), RepL K H vs ds → RepL K H (vs.eraseIdx i) (ds.eraseIdx i)
  | _, _, _, .nil => .nil
  | _, _, 0, .cons _ r => r
  | _, _, i + 1, .cons q r => .cons q (RepL.erase i r)
theorem RepL.rev {vs : List V} {ds : List D} (h : RepL K H vs ds) : RepL K H vs.reverse ds.reverse := by
  induction vs generalizing ds with
  | nil => cases h; exact .nil
  | cons v vs ih =>
    cases h with
    | cons a b =>
      rw [List.reverse_cons, List.reverse_cons]
      exact (ih b).append (.cons a .nil)
theorem RepL.rep {vs : List V} {ds : List D} (h : RepL K H vs ds) : ∀ n : Nat, RepL K H (List.replicate n vs).flatten (List.replicate n ds).flatten
  | 0 => .nil
  | n + 1 => by
    rw [List.replicate_succ, List.replicate_succ, List.flatten_cons, List.flatten_cons]
    exact h.append (RepL.rep h n)
theorem RepL.ints : ∀ {vs : List V} {ns : List Int}, RepL K H vs (ns.map D.int) → vs = ns.map V.int
  | [], [], _ => rfl
  | [], _ :: _, h => by cases h
  | v :: vs, [], h => by cases h
  | v :: vs, n :: ns, h => by
    cases h with
    | cons a b =>
      cases a
      rw [RepL.ints b] <;> rfl
theorem RepL.ofInts : ∀ (ns : List Int), RepL K H (ns.map V.int) (ns.map D.int)
  | [] => .nil
  | n :: ns => .cons (.int n) (RepL.ofInts ns)
theorem RepL.bls : ∀ {vs : List V} {bs : List Bool}, RepL K H vs (bs.map D.bl) → vs = bs.map V.bl
  | [], [], _ => rfl
  | [], _ :: _, h => by cases h
  | v :: vs, [], h => by cases h
  | v :: vs, n :: ns, h => by
    cases h with
    | cons a b =>
      cases a
      rw [RepL.bls b] <;> rfl
theorem RepL.strs : ∀ {vs : List V} {bs : List Str}, RepL K H vs (bs.map D.str) → vs = bs.map V.str
  | [], [], _ => rfl
  | [], _ :: _, h => by cases h
  | v :: vs, [], h => by cases h
  | v :: vs, n :: ns, h => by
    cases h with
    | cons a b =>
      cases a
      rw [RepL.strs b] <;> rfl
end

/-- scalars: what needs no heap -/
def D.scal : D → Bool
  | .non => true | .bl _ => true | .int _ => true | .str _ => true | .ty _ => true | .fn _ => true
  | _ => false
theorem Rep.scal {K : PySem.W.Frag} {H H' : Hp} {v : V} {d : D} (h : Rep K H v d) (s : d.scal = true) : Rep K H' v d := by
  cases h with
  | non => exact .non
  | bl b => exact .bl b
  | int i => exact .int i
  | str x => exact .str x
  | ty n => exact .ty n
  | fn a => exact .fn a
  | lst _ _ => cases s
  | scr _ _ => cases s
  | tup _ _ => cases s
  | obj _ _ => cases s
theorem RepL.scal {K : PySem.W.Frag} {H H' : Hp} : ∀ {vs : List V} {ds : List D}, RepL K H vs ds → ds.all D.scal = true → RepL K H' vs ds
  | _, _, .nil, _ => .nil
  | _, _, .cons h r, s => by
    rw [List.all_cons, Bool.and_eq_true] at s
    exact .cons (h.scal s.1) (RepL.scal r s.2)

/-! ### growth: Hs is what is shared for good, H the heap, Hf what must be kept -/
structure Gr (Hs Hf H Hs' H' : Hp) : Prop where
  fr : Ex Hf H'
  sh : Ex Hs Hs'
  lv : Ex Hs' H'
  nw : ∀ a, H a ≠ none → Hs' a = Hs a
  dm : ∀ a, H a ≠ none → H' a ≠ none
theorem Gr.refl {Hs H : Hp} (e : Ex Hs H) : Gr Hs H H Hs H := ⟨Ex.refl H, Ex.refl Hs, e, fun _ _ => rfl, fun _ h => h⟩
theorem Gr.trans {Hs Hf H Hs1 H1 Hs2 H2 : Hp} (a : Gr Hs Hf H Hs1 H1) (b : Gr Hs1 H1 H1 Hs2 H2) : Gr Hs Hf H Hs2 H2 :=
  ⟨a.fr.trans b.fr, a.sh.trans b.sh, b.lv, fun x h => (b.nw x (a.dm x h)).trans (a.nw x h), fun x h => b.dm x (a.dm x h)⟩
/-- a new object that is shared at once -/
theorem Gr.new {Hs H : Hp} {p : Addr} {o : HO} (e : Ex Hs H) (h : H p = none) : Gr Hs H H (upd Hs p o) (upd H p o) := by
  have hs : Hs p = none := by
    cases q : Hs p with
    | none => rfl
    | some u =>
      rw [e p u q] at h
      cases h
  refine ⟨Ex.new h, Ex.new hs, fun a u x => ?_, fun a x => upd_ne (fun q => x (by rw [q]; exact h)), fun a x => ?_⟩
  · by_cases q : a = p
    · rw [q, upd_same] at x ⊢
      exact x
    · rw [upd_ne q] at x ⊢
      exact e a u x
  · rw [upd_ne (fun q => x (by rw [q]; exact h))]
    exact x
/-- a new object that nobody else knows -/
theorem Gr.newO {Hs H : Hp} {p : Addr} {o : HO} (e : Ex Hs H) (h : H p = none) : Gr Hs H H Hs (upd H p o) := by
  refine ⟨Ex.new h, Ex.refl Hs, e.trans (Ex.new h), fun a x => rfl, fun a x => ?_⟩
  rw [upd_ne (fun q => x (by rw [q]; exact h))]
  exact x
/-- an object that was new is shared from now on -/
theorem Gr.share {Hs H Hs' H' : Hp} {p : Addr} {o : HO} (g : Gr Hs H H Hs' H') (n : H p = none) (ns : Hs' p = none) (h : H' p = some o) : Gr Hs H H (upd Hs' p o) H' := by
  refine ⟨g.fr, g.sh.trans (Ex.new ns), fun a u x => ?_, fun a x => ?_, g.dm⟩
  · by_cases q : a = p
    · rw [q, upd_same] at x
      cases x
      rw [q]
      exact h
    · rw [upd_ne q] at x
      exact g.lv a u x
  · rw [upd_ne (fun q => x (by rw [q]; exact n))]
    exact g.nw a x

/-! ### what a frame's slots hold -/
inductive SV where
  | sh (d : D)
  | ol (ds : List D)
  | ow (nw : Bool) (Φ : Hp → V → Hp → Prop)
/-- made in this frame -/
def SV.nw : SV → Bool
  | .sh _ => true
  | .ol _ => true
  | .ow b _ => b

/-- what slot i holds; R is its own region -/
def Holds (K : PySem.W.Frag) (Hs : Hp) (R : Hp) (v : V) : SV → Prop
  | .sh d => Rep K Hs v d ∧ ∀ a, R a = none
  | .ol ds => ∃ (p : Addr) (vs : List V), v = .ref p ∧ R = (fun a => if a = p then some (.lst vs) else none) ∧ RepL K Hs vs ds
  | .ow _ Φ => ∀ Hs1, Ex Hs Hs1 → Φ Hs1 v R

abbrev Env := List (Option SV)
structure Base where
  s : Hp
  f : Hp
  h : Hp

structure RS (K : PySem.W.Frag) (B : Base) (Hs H : Hp) (σ : St) (ρ : Env) : Prop where
  gr : Gr B.s B.f B.h Hs H
  len : σ.length = ρ.length
  reg : ∃ R : Nat → Hp, (∀ i sv, ρ[i]? = some (some sv) → ∃ v, σ[i]? = some (some v) ∧ Holds K Hs (R i) v sv) ∧
    (∀ i a o, R i a = some o → H a = some o ∧ Hs a = none ∧ B.f a = none) ∧ (∀ i j a, R i a ≠ none → R j a ≠ none → i = j) ∧
    ∀ i sv a, ρ[i]? = some (some sv) → sv.nw = true → R i a ≠ none → B.h a = none

section
variable {K : PySem.W.Frag} {B : Base} {Hs H Hs' H' : Hp} {σ : St} {ρ : Env}
theorem Holds.mono {R : Hp} {v : V} {sv : SV} (e : Ex Hs Hs') (h : Holds K Hs R v sv) : Holds K Hs' R v sv := by
  cases sv with
  | sh d => exact ⟨h.1.mono e, h.2⟩
  | ol ds =>
    obtain ⟨p, vs, e1, e2, r⟩ := h
    exact ⟨p, vs, e1, e2, r.mono e⟩
  | ow _ Φ => exact fun Hs1 x => h Hs1 (e.trans x)
theorem RS.ex (r : RS K B Hs H σ ρ) : Ex Hs H := r.gr.lv
theorem RS.get (r : RS K B Hs H σ ρ) {i : Nat} {d : D} (h : ρ[i]? = some (some (.sh d))) : ∃ v, σ[i]? = some (some v) ∧ Rep K Hs v d := by
  obtain ⟨R, h1, _⟩ := r.reg
  obtain ⟨v, e, q⟩ := h1 i _ h
  exact ⟨v, e, q.1⟩
theorem RS.grow (r : RS K B Hs H σ ρ) (g : Gr Hs H H Hs' H') : RS K B Hs' H' σ ρ := by
  obtain ⟨R, h1, h2, h3, h4⟩ := r.reg
  refine ⟨r.gr.trans g, r.len, R, fun i sv e => ?_, fun i a o e => ?_, h3, h4⟩
  · obtain ⟨v, e1, q⟩ := h1 i sv e
    exact ⟨v, e1, q.mono g.sh⟩
  · obtain ⟨e1, e2, e3⟩ := h2 i a o e
    refine ⟨g.fr a o e1, ?_, e3⟩
    rw [g.nw a (by rw [e1]; exact fun z => nomatch z)]
    exact e2
/-- a slot gets a shared value -/
theorem RS.set (r : RS K B Hs H σ ρ) (i : Nat) {v : V} {d : D} (h : Rep K Hs v d) : RS K B Hs H (σ.set i (some v)) (ρ.set i (some (.sh d))) := by
  obtain ⟨R, h1, h2, h3, h4⟩ := r.reg
  refine ⟨r.gr, by rw [List.length_set, List.length_set, r.len], fun j => if j = i then (fun _ => none) else R j, fun j sv e => ?_, fun j a o e => ?_, fun j k a e1 e2 => ?_, fun j ds a e1 e0 e2 => ?_⟩
  · by_cases q : j = i
    · subst q
      have hl : j < ρ.length := by
        have := (List.getElem?_eq_some_iff.mp e).1
        rwa [List.length_set] at this
      rw [List.getElem?_set_self hl] at e
      cases e
      refine ⟨v, List.getElem?_set_self (by rw [r.len]; exact hl), h, fun a => ?_⟩
      simp
    · rw [List.getElem?_set_ne (Ne.symm q)] at e ⊢
      dsimp only
      rw [if_neg q]
      exact h1 j sv e
  · dsimp only at e
    by_cases q : j = i
    · rw [if_pos q] at e
      cases e
    · rw [if_neg q] at e
      exact h2 j a o e
  · dsimp only at e1 e2
    by_cases q : j = i
    · rw [if_pos q] at e1
      exact absurd rfl e1
    · rw [if_neg q] at e1
      by_cases q' : k = i
      · rw [if_pos q'] at e2
        exact absurd rfl e2
      · rw [if_neg q'] at e2
        exact h3 j k a e1 e2
  · dsimp only at e2
    by_cases q : j = i
    · rw [if_pos q] at e2
      exact absurd rfl e2
    · rw [if_neg q] at e2
      rw [List.getElem?_set_ne (Ne.symm q)] at e1
      exact h4 j ds a e1 e0 e2
/-- a slot gets what is its own: a region of new objects -/
theorem RS.setR (r : RS K B Hs H σ ρ) (g : Gr Hs H H Hs' H') (i : Nat) {v : V} {sv : SV} {T : Hp} (hT : ∀ a o, T a = some o → H a = none ∧ H' a = some o ∧ Hs' a = none) (h : Holds K Hs' T v sv) :
    RS K B Hs' H' (σ.set i (some v)) (ρ.set i (some sv)) := by
  have r' := r.grow g
  obtain ⟨R, h1, h2, h3, h4⟩ := r.reg
  have nT : ∀ j a, R j a ≠ none → T a = none := fun j a x => by
    cases q : T a with
    | none => rfl
    | some o =>
      cases q' : R j a with
      | none => exact absurd q' x
      | some u =>
        have z := (h2 j a u q').1
        rw [(hT a o q).1] at z
        cases z
  refine ⟨r'.gr, by rw [List.length_set, List.length_set, r.len], fun j => if j = i then T else R j, fun j sv' e => ?_, fun j a o e => ?_, fun j k a e1 e2 => ?_, fun j ds a e1 e0 e2 => ?_⟩
  · by_cases q : j = i
    · subst q
      have hl : j < ρ.length := by
        have := (List.getElem?_eq_some_iff.mp e).1
        rwa [List.length_set] at this
      rw [List.getElem?_set_self hl] at e
      cases e
      refine ⟨v, List.getElem?_set_self (by rw [r.len]; exact hl), ?_⟩
      dsimp only
      rw [if_pos rfl]
      exact h
    · rw [List.getElem?_set_ne (Ne.symm q)] at e ⊢
      dsimp only
      rw [if_neg q]
      obtain ⟨v', e1, q1⟩ := h1 j sv' e
      exact ⟨v', e1, q1.mono g.sh⟩
  · dsimp only at e
    by_cases q : j = i
    · rw [if_pos q] at e
      obtain ⟨e1, e2, e3⟩ := hT a o e
      refine ⟨e2, e3, ?_⟩
      cases z : B.f a with
      | none => rfl
      | some u =>
        rw [r.gr.fr a u z] at e1
        cases e1
    · rw [if_neg q] at e
      obtain ⟨e1, e2, e3⟩ := h2 j a o e
      refine ⟨g.fr a o e1, ?_, e3⟩
      rw [g.nw a (by rw [e1]; exact fun z => nomatch z)]
      exact e2
  · dsimp only at e1 e2
    by_cases q : j = i
    · rw [if_pos q] at e1
      by_cases q' : k = i
      · rw [q, q']
      · rw [if_neg q'] at e2
        exact absurd (nT k a e2) e1
    · rw [if_neg q] at e1
      by_cases q' : k = i
      · rw [if_pos q'] at e2
        exact absurd (nT j a e1) e2
      · rw [if_neg q'] at e2
        exact h3 j k a e1 e2
  · dsimp only at e2
    by_cases q : j = i
    · rw [if_pos q] at e2
      cases z : T a with
      | none => exact absurd z e2
      | some o =>
        cases y : B.h a with
        | none => rfl
        | some u => exact absurd (hT a o z).1 (r.gr.dm a (by rw [y]; exact fun z => nomatch z))
    · rw [if_neg q] at e2
      rw [List.getElem?_set_ne (Ne.symm q)] at e1
      exact h4 j ds a e1 e0 e2
/-- a slot gets a new list that is its own -/
theorem RS.setO (r : RS K B Hs H σ ρ) (g : Gr Hs H H Hs' H') (i : Nat) {p : Addr} {vs : List V} {ds : List D} (hn : H p = none) (hp : H' p = some (.lst vs)) (hs : Hs' p = none) (h : RepL K Hs' vs ds) :
    RS K B Hs' H' (σ.set i (some (.ref p))) (ρ.set i (some (.ol ds))) := by
  refine r.setR g i (T := fun a => if a = p then some (.lst vs) else none) (fun a o e => ?_) ⟨p, vs, rfl, rfl, h⟩
  by_cases q : a = p
  · rw [if_pos q] at e
    cases e
    subst q
    exact ⟨hn, hp, hs⟩
  · rw [if_neg q] at e
    cases e
/-- the slots' own regions are R -/
def Reg (K : PySem.W.Frag) (B : Base) (Hs H : Hp) (σ : St) (ρ : Env) (R : Nat → Hp) : Prop :=
  (∀ i sv, ρ[i]? = some (some sv) → ∃ v, σ[i]? = some (some v) ∧ Holds K Hs (R i) v sv) ∧
    (∀ i a o, R i a = some o → H a = some o ∧ Hs a = none ∧ B.f a = none) ∧ (∀ i j a, R i a ≠ none → R j a ≠ none → i = j) ∧
    ∀ i sv a, ρ[i]? = some (some sv) → sv.nw = true → R i a ≠ none → B.h a = none
def Fresh (B : Base) (Hs : Hp) (R : Nat → Hp) (a : Addr) : Prop := (∀ j, R j a = none) ∧ Hs a = none ∧ B.f a = none ∧ B.h a = none
theorem Reg.grow {R : Nat → Hp} (rg : Reg K B Hs H σ ρ R) (g : Gr Hs H H Hs' H') : Reg K B Hs' H' σ ρ R := by
  obtain ⟨h1, h2, h3, h4⟩ := rg
  refine ⟨fun i sv e => ?_, fun i a o e => ?_, h3, h4⟩
  · obtain ⟨v, e1, q⟩ := h1 i sv e
    exact ⟨v, e1, q.mono g.sh⟩
  · obtain ⟨e1, e2, e3⟩ := h2 i a o e
    refine ⟨g.fr a o e1, ?_, e3⟩
    rw [g.nw a (by rw [e1]; exact fun z => nomatch z)]
    exact e2
theorem RS.fresh (r : RS K B Hs H σ ρ) {R : Nat → Hp} (rg : Reg K B Hs H σ ρ R) {a : Addr} (n : H a = none) : Fresh B Hs R a := by
  refine ⟨fun j => ?_, ?_, ?_, ?_⟩
  · cases z : R j a with
    | none => rfl
    | some o =>
      rw [(rg.2.1 j a o z).1] at n
      cases n
  · cases z : Hs a with
    | none => rfl
    | some o =>
      rw [r.ex a o z] at n
      cases n
  · cases z : B.f a with
    | none => rfl
    | some o =>
      rw [r.gr.fr a o z] at n
      cases n
  · cases z : B.h a with
    | none => rfl
    | some o => exact absurd n (r.gr.dm a (by rw [z]; exact fun y => nomatch y))
theorem Fresh.grow {R : Nat → Hp} {a : Addr} (f : Fresh B Hs R a) (n : Hs' a = none) : Fresh B Hs' R a := ⟨f.1, n, f.2.2⟩
/-- a slot's own region is changed (new objects may come to it) -/
theorem RS.mutR (r : RS K B Hs H σ ρ) {R : Nat → Hp} (rg : Reg K B Hs H σ ρ R) (i : Nat) {sv sv' : SV} (hi : ρ[i]? = some (some sv)) (nsh : sv'.nw = true → sv.nw = true)
    {v : V} (hv : σ[i]? = some (some v)) {T : Hp} (t1 : Holds K Hs T v sv') (t2 : ∀ a o, T a = some o → H' a = some o ∧ (R i a ≠ none ∨ Fresh B Hs R a))
    (t3 : ∀ a o, R i a = none → H a = some o → H' a = some o) (t4 : ∀ a, H a ≠ none → H' a ≠ none) : RS K B Hs H' σ (ρ.set i (some sv')) := by
  obtain ⟨h1, h2, h3, h4⟩ := rg
  have hl : i < ρ.length := (List.getElem?_eq_some_iff.mp hi).1
  have keep : ∀ a o, Hs a = some o → H' a = some o := fun a o e => t3 a o (by
    cases q : R i a with
    | none => rfl
    | some u =>
      rw [(h2 i a u q).2.1] at e
      cases e) (r.ex a o e)
  have nT : ∀ j a, j ≠ i → R j a ≠ none → T a = none := fun j a nj x => by
    cases q : T a with
    | none => rfl
    | some o =>
      rcases (t2 a o q).2 with z | z
      · exact absurd (h3 j i a x z) nj
      · exact absurd (z.1 j) x
  refine ⟨⟨fun a o e => t3 a o ?_ (r.gr.fr a o e), r.gr.sh, keep, r.gr.nw, fun a x => t4 a (r.gr.dm a x)⟩, by rw [List.length_set, r.len], fun j => if j = i then T else R j, fun j sv2 e => ?_, fun j a o e => ?_, fun j l a e1 e2 => ?_, fun j ds a e1 e0 e2 => ?_⟩
  · cases q : R i a with
    | none => rfl
    | some u =>
      rw [(h2 i a u q).2.2] at e
      cases e
  · by_cases q : j = i
    · subst q
      rw [List.getElem?_set_self hl] at e
      cases e
      refine ⟨v, hv, ?_⟩
      dsimp only
      rw [if_pos rfl]
      exact t1
    · rw [List.getElem?_set_ne (Ne.symm q)] at e
      dsimp only
      rw [if_neg q]
      obtain ⟨v', e1, q1⟩ := h1 j sv2 e
      exact ⟨v', e1, q1⟩
  · dsimp only at e
    by_cases q : j = i
    · rw [if_pos q] at e
      obtain ⟨e1, e2⟩ := t2 a o e
      refine ⟨e1, ?_, ?_⟩
      · cases z : Hs a with
        | none => rfl
        | some u =>
          rcases e2 with e2 | e2
          · cases q' : R i a with
            | none => exact absurd q' e2
            | some w =>
              rw [(h2 i a w q').2.1] at z
              cases z
          · rw [e2.2.1] at z
            cases z
      · cases z : B.f a with
        | none => rfl
        | some u =>
          rcases e2 with e2 | e2
          · cases q' : R i a with
            | none => exact absurd q' e2
            | some w =>
              rw [(h2 i a w q').2.2] at z
              cases z
          · rw [e2.2.2.1] at z
            cases z
    · rw [if_neg q] at e
      obtain ⟨e1, e2, e3⟩ := h2 j a o e
      refine ⟨t3 a o ?_ e1, e2, e3⟩
      cases z : R i a with
      | none => rfl
      | some u => exact absurd (h3 j i a (by rw [e]; exact fun z => nomatch z) (by rw [z]; exact fun z => nomatch z)) q
  · dsimp only at e1 e2
    by_cases q : j = i
    · rw [if_pos q] at e1
      by_cases q' : l = i
      · rw [q, q']
      · rw [if_neg q'] at e2
        exact absurd (nT l a q' e2) e1
    · rw [if_neg q] at e1
      by_cases q' : l = i
      · rw [if_pos q'] at e2
        exact absurd (nT j a q e1) e2
      · rw [if_neg q'] at e2
        exact h3 j l a e1 e2
  · dsimp only at e2
    by_cases q : j = i
    · subst q
      rw [if_pos rfl] at e2
      rw [List.getElem?_set_self hl] at e1
      have e3 : sv' = ds := Option.some.inj (Option.some.inj e1)
      have e4 : sv.nw = true := nsh (by rw [e3]; exact e0)
      cases z : T a with
      | none => exact absurd z e2
      | some o =>
        rcases (t2 a o z).2 with y | y
        · exact h4 j sv a hi e4 y
        · exact y.2.2.2
    · rw [if_neg q] at e2
      rw [List.getElem?_set_ne (Ne.symm q)] at e1
      exact h4 j ds a e1 e0 e2
theorem RS.mut (r : RS K B Hs H σ ρ) (i : Nat) {sv sv' : SV} (hi : ρ[i]? = some (some sv)) (nsh : sv'.nw = true → sv.nw = true)
    (k : ∀ v R, σ[i]? = some (some v) → Holds K Hs R v sv → (∀ a o, R a = some o → H a = some o ∧ Hs a = none) → ∃ T : Hp, Holds K Hs T v sv' ∧ (∀ a o, T a = some o → H' a = some o ∧ (R a ≠ none ∨ H a = none)) ∧
      (∀ a o, R a = none → H a = some o → H' a = some o) ∧ ∀ a, H a ≠ none → H' a ≠ none) : RS K B Hs H' σ (ρ.set i (some sv')) := by
  obtain ⟨R, h1, h2, h3, h4⟩ := id r.reg
  obtain ⟨v, hv, hh⟩ := h1 i sv hi
  obtain ⟨T, t1, t2, t3, t4⟩ := k v (R i) hv hh fun a o e => ⟨(h2 i a o e).1, (h2 i a o e).2.1⟩
  exact r.mutR ⟨h1, h2, h3, h4⟩ i hi nsh hv t1 (fun a o e => ⟨(t2 a o e).1, (t2 a o e).2.imp id fun z => r.fresh ⟨h1, h2, h3, h4⟩ z⟩) t3 t4
/-- an own list is changed in place -/
theorem RS.mutL (r : RS K B Hs H σ ρ) (i : Nat) {ds : List D} (hi : ρ[i]? = some (some (.ol ds))) :
    ∃ p vs, σ[i]? = some (some (.ref p)) ∧ H p = some (.lst vs) ∧ RepL K Hs vs ds ∧ ∀ ws es, RepL K Hs ws es → RS K B Hs (upd H p (.lst ws)) σ (ρ.set i (some (.ol es))) := by
  obtain ⟨R, h1, h2, h3, h4⟩ := id r.reg
  obtain ⟨v, hv, p, vs, e1, e2, q⟩ := h1 i _ hi
  subst e1
  have hp : R i p = some (.lst vs) := by rw [e2]; exact if_pos rfl
  refine ⟨p, vs, hv, (h2 i p _ hp).1, q, fun ws es h => r.mut i hi (fun _ => rfl) fun v' R' hv' hh hR => ?_⟩
  obtain ⟨p', vs', e3, e4, _⟩ := hh
  rw [hv] at hv'
  have e5 := Option.some.inj (Option.some.inj hv')
  rw [e3] at e5
  cases e5
  subst e3
  refine ⟨fun a => if a = p then some (.lst ws) else none, ⟨p, ws, rfl, rfl, h⟩, fun a o e => ?_, fun a o e e' => ?_, fun a x => ?_⟩
  · dsimp only at e
    by_cases z : a = p
    · rw [if_pos z] at e
      cases e
      subst z
      refine ⟨upd_same, .inl ?_⟩
      rw [e4]
      show (if a = a then some (HO.lst vs') else none) ≠ none
      rw [if_pos rfl]
      exact fun z => nomatch z
    · rw [if_neg z] at e
      cases e
  · have z : a ≠ p := fun z => by
      subst z
      rw [e4] at e
      have e'' : (if a = a then some (HO.lst vs') else none) = none := e
      rw [if_pos rfl] at e''
      cases e''
    rw [upd_ne z]
    exact e'
  · by_cases z : a = p
    · rw [z, upd_same]
      exact fun z => nomatch z
    · rw [upd_ne z]
      exact x
/-- two heaps as one -/
def jn (R S : Hp) : Hp := fun a => match R a with
  | some o => some o
  | none => S a
theorem jn_l {R S : Hp} {a : Addr} {o : HO} (h : R a = some o) : jn R S a = some o := by unfold jn; rw [h]
theorem jn_r {R S : Hp} {a : Addr} (h : R a = none) : jn R S a = S a := by unfold jn; rw [h]
/-- what is a slot's own is shared from now on -/
theorem RS.fzR (r : RS K B Hs H σ ρ) (i : Nat) {sv : SV} (hi : ρ[i]? = some (some sv)) (hn : sv.nw = true ∨ ∀ a, B.h a = none) {d : D} (k : ∀ v R, Holds K Hs R v sv → (∀ a o, R a = some o → Hs a = none) → Rep K (jn R Hs) v d) :
    ∃ Hs2, Ex Hs Hs2 ∧ Ex Hs2 H ∧ RS K B Hs2 H σ (ρ.set i (some (.sh d))) := by
  obtain ⟨R, h1, h2, h3, h4⟩ := r.reg
  obtain ⟨v, hv, hh⟩ := h1 i _ hi
  have q := k v (R i) hh fun a o e => (h2 i a o e).2.1
  have exs : Ex Hs (jn (R i) Hs) := fun a o e => by
    rw [jn_r]
    · exact e
    · cases z : R i a with
      | none => rfl
      | some u =>
        rw [(h2 i a u z).2.1] at e
        cases e
  have lv : Ex (jn (R i) Hs) H := fun a o e => by
    cases z : R i a with
    | some u =>
      rw [jn_l z] at e
      exact (h2 i a o (z.trans e)).1
    | none =>
      rw [jn_r z] at e
      exact r.ex a o e
  have hl : i < ρ.length := (List.getElem?_eq_some_iff.mp hi).1
  refine ⟨jn (R i) Hs, exs, lv, ⟨r.gr.fr, r.gr.sh.trans exs, lv, fun a x => ?_, r.gr.dm⟩, by rw [List.length_set, r.len], fun j => if j = i then (fun _ => none) else R j, fun j sv e => ?_, fun j a o e => ?_, fun j k a e1 e2 => ?_, fun j ds a e1 e0 e2 => ?_⟩
  · cases z : R i a with
    | some u =>
      rcases hn with hn | hn
      · exact absurd (h4 i _ a hi hn (by rw [z]; exact fun y => nomatch y)) x
      · exact absurd (hn a) x
    | none =>
      rw [jn_r z]
      exact r.gr.nw a x
  · by_cases y : j = i
    · subst y
      rw [List.getElem?_set_self hl] at e
      cases e
      refine ⟨v, hv, q, fun a => ?_⟩
      dsimp only
      rw [if_pos rfl]
    · rw [List.getElem?_set_ne (Ne.symm y)] at e
      obtain ⟨v', e3, q'⟩ := h1 j sv e
      dsimp only
      rw [if_neg y]
      exact ⟨v', e3, q'.mono exs⟩
  · dsimp only at e
    by_cases y : j = i
    · rw [if_pos y] at e
      cases e
    · rw [if_neg y] at e
      obtain ⟨e3, e4, e5⟩ := h2 j a o e
      refine ⟨e3, ?_, e5⟩
      rw [jn_r]
      · exact e4
      · cases z : R i a with
        | none => rfl
        | some u => exact absurd (h3 j i a (by rw [e]; exact fun z => nomatch z) (by rw [z]; exact fun z => nomatch z)) y
  · dsimp only at e1 e2
    by_cases y : j = i
    · rw [if_pos y] at e1
      exact absurd rfl e1
    · rw [if_neg y] at e1
      by_cases y' : k = i
      · rw [if_pos y'] at e2
        exact absurd rfl e2
      · rw [if_neg y'] at e2
        exact h3 j k a e1 e2
  · dsimp only at e2
    by_cases y : j = i
    · rw [if_pos y] at e2
      exact absurd rfl e2
    · rw [if_neg y] at e2
      rw [List.getElem?_set_ne (Ne.symm y)] at e1
      exact h4 j ds a e1 e0 e2
/-- an own list is shared from now on -/
theorem RS.fz (r : RS K B Hs H σ ρ) (i : Nat) {ds : List D} (hi : ρ[i]? = some (some (.ol ds))) : ∃ Hs2, Ex Hs Hs2 ∧ Ex Hs2 H ∧ RS K B Hs2 H σ (ρ.set i (some (.sh (.lst ds)))) :=
  r.fzR i hi (.inl rfl) fun v R hh n => by
    obtain ⟨p, vs, rfl, e2, q⟩ := hh
    have hp : R p = some (.lst vs) := by rw [e2]; exact if_pos rfl
    refine .lst (jn_l hp) (q.mono fun a o e => ?_)
    rw [jn_r]
    · exact e
    · cases z : R a with
      | none => rfl
      | some u =>
        rw [n a u z] at e
        cases e
end
end DL

/-! DOwn: trees of objects that nobody else knows: lists, instances, dicts of numbers; what is done with them. -/
namespace DL
open PySem L2

inductive O where
  | sh (d : D)
  | ol (xs : List O)
  | ob (C : Addr) (ns : List Str) (xs : List O)
  | dg (Φ : List (Key × V) → Prop) (n : Nat)
/-- a dict of numbers, told by its keys -/
abbrev O.dk (P : Int → Bool) (n : Nat) : O := .dg (fun kvs => ∀ i : Int, (valV kvs (Sum.inl i : Key)).isSome = P i) n
/-- a dict from numbers to numbers -/
abbrev O.dv (f : Int → Option Int) (n : Nat) : O := .dg (fun kvs => ∀ i : Int, valV kvs (Sum.inl i : Key) = (f i).map V.int) n

def em : Hp := fun _ => none

mutual
inductive Own (K : PySem.W.Frag) (Hs : Hp) : V → O → Hp → Prop
  | sh {v : V} {d : D} : Rep K Hs v d → Own K Hs v (.sh d) em
  | ol {p : Addr} {vs : List V} {xs : List O} {R : Hp} : R p = none → OwnL K Hs vs xs R → Own K Hs (.ref p) (.ol xs) (upd R p (.lst vs))
  | ob {p C dx : Addr} {ns : List Str} {vs : List V} {xs : List O} {R : Hp} : R p = none → ns.length = xs.length → OwnL K Hs vs xs R → Own K Hs (.ref p) (.ob C ns xs) (upd R p (.ins C dx (ns.zip vs)))
  | dg {p : Addr} {Φ : List (Key × V) → Prop} {n : Nat} {kvs : List (Key × V)} : kvs.length ≤ n ∧ Φ kvs → Own K Hs (.ref p) (.dg Φ n) (upd em p (.dK kvs))
inductive OwnL (K : PySem.W.Frag) (Hs : Hp) : List V → List O → Hp → Prop
  | nil : OwnL K Hs [] [] em
  | cons {v : V} {o : O} {vs : List V} {os : List O} {R S : Hp} : Own K Hs v o R → OwnL K Hs vs os S → (∀ a, R a ≠ none → S a = none) → OwnL K Hs (v :: vs) (o :: os) (jn R S)
end

section
variable {K : PySem.W.Frag} {Hs Hs' : Hp}
mutual
theorem Own.mono (e : Ex Hs Hs') : ∀ {v : V} {o : O} {R : Hp}, Own K Hs v o R → Own K Hs' v o R
  | _, _, _, .sh h => .sh (h.mono e)
  | _, _, _, .ol n h => .ol n (OwnL.mono e h)
  | _, _, _, .ob n l h => .ob n l (OwnL.mono e h)
  | _, _, _, .dg h => .dg h
theorem OwnL.mono (e : Ex Hs Hs') : ∀ {vs : List V} {os : List O} {R : Hp}, OwnL K Hs vs os R → OwnL K Hs' vs os R
  | _, _, _, .nil => .nil
  | _, _, _, .cons h r d => .cons (Own.mono e h) (OwnL.mono e r) d
end
theorem OwnL.length : ∀ {vs : List V} {os : List O} {R : Hp}, OwnL K Hs vs os R → vs.length = os.length
  | _, _, _, .nil => rfl
  | _, _, _, .cons _ r _ => by rw [List.length_cons, List.length_cons, r.length]
theorem jn_em (R : Hp) : jn em R = R := funext fun a => rfl
theorem jn_em' (R : Hp) : jn R em = R := funext fun a => by
  unfold jn em
  cases R a <;> rfl
theorem jn_none {R S : Hp} {a : Addr} : jn R S a = none ↔ R a = none ∧ S a = none := by
  unfold jn
  cases h : R a with
  | some o => simp
  | none => simp
theorem ownL_sh {vs : List V} {ds : List D} (h : RepL K Hs vs ds) : OwnL K Hs vs (ds.map .sh) em := by
  induction vs generalizing ds with
  | nil => cases h; exact .nil
  | cons v vs ih =>
    cases h with
    | cons a b =>
      have := OwnL.cons (Own.sh a) (ih b) (fun x hx => absurd rfl hx)
      rw [jn_em] at this
      exact this
theorem OwnL.reps : ∀ {vs : List V} {ds : List D} {R : Hp}, OwnL K Hs vs (ds.map .sh) R → RepL K Hs vs ds ∧ R = em
  | vs, [], R, h => by cases h; exact ⟨.nil, rfl⟩
  | vs, d :: ds, R, h => by
    cases h with
    | cons a b c =>
      cases a with
      | sh q =>
        obtain ⟨r, e⟩ := OwnL.reps (ds := ds) b
        subst e
        exact ⟨.cons q r, jn_em _⟩
/-- a list's item with its part of the region -/
theorem OwnL.split : ∀ {vs : List V} {os : List O} {R : Hp} {j : Nat} {o : O}, OwnL K Hs vs os R → os[j]? = some o → ∃ v S T, vs[j]? = some v ∧ Own K Hs v o S ∧ (∀ a, S a ≠ none → T a = none) ∧ (∀ a, R a = jn S T a) ∧
    ∀ {G : Hp}, Ex Hs G → ∀ {v' : V} {o' : O} {S' : Hp}, Own K G v' o' S' → (∀ a, S' a ≠ none → T a = none) → OwnL K G (vs.set j v') (os.set j o') (jn S' T)
  | _, _, _, j, o, .nil, e => by simp at e
  | _, _, _, 0, o, .cons (v := v) (R := R1) (S := R2) h r d, e => by
    have e' := Option.some.inj e
    subst e'
    exact ⟨v, R1, R2, rfl, h, d, fun a => rfl, fun {G} eg {v' o' S'} h' d' => .cons h' (r.mono eg) d'⟩
  | _, _, _, j + 1, o, .cons (v := v) (R := R1) (S := R2) h r d, e => by
    obtain ⟨u, S, T, e1, h1, d1, e2, k⟩ := OwnL.split (j := j) (o := o) r e
    refine ⟨u, S, jn R1 T, e1, h1, fun a ha => ?_, fun a => ?_, fun {G} eg {v' o' S'} h' d' => ?_⟩
    · have hS : R2 a ≠ none := by
        rw [e2]
        intro z
        exact ha (jn_none.mp z).1
      refine jn_none.mpr ⟨?_, d1 a ha⟩
      cases z : R1 a with
      | none => rfl
      | some o => exact absurd (d a (by rw [z]; exact fun y => nomatch y)) hS
    · show jn R1 R2 a = jn S (jn R1 T) a
      cases z : R1 a with
      | some o =>
        have hS : S a = none := by
          cases y : S a with
          | none => rfl
          | some u =>
            have := d a (by rw [z]; exact fun y => nomatch y)
            rw [e2, jn_l y] at this
            cases this
        rw [jn_l z, jn_r hS, jn_l z]
      | none =>
        rw [jn_r z, e2]
        cases y : S a with
        | some u => rw [jn_l y, jn_l y]
        | none => rw [jn_r y, jn_r y, jn_r z]
    · have q := k eg (v' := v') (o' := o') (S' := S') h' (fun a ha => (jn_none.mp (d' a ha)).2)
      have c := OwnL.cons (h.mono eg) q (fun a ha => by
        refine jn_none.mpr ⟨?_, ?_⟩
        · cases y : S' a with
          | none => rfl
          | some u => exact absurd (jn_none.mp (d' a (by rw [y]; exact fun z => nomatch z))).1 ha
        · have := d a ha
          rw [e2] at this
          exact (jn_none.mp this).2)
      have e3 : jn S' (jn R1 T) = jn R1 (jn S' T) := funext fun a => by
        cases z : R1 a with
        | some o =>
          have hS : S' a = none := by
            cases y : S' a with
            | none => rfl
            | some u =>
              have := (jn_none.mp (d' a (by rw [y]; exact fun z => nomatch z))).1
              rw [z] at this
              cases this
          rw [jn_r hS, jn_l z, jn_l z]
        | none =>
          rw [jn_r z]
          cases y : S' a with
          | some u => rw [jn_l y, jn_l y]
          | none => rw [jn_r y, jn_r y, jn_r z]
      rw [e3]
      exact c
theorem OwnL.snoc {v : V} {o : O} {S : Hp} (h : Own K Hs v o S) : ∀ {vs : List V} {os : List O} {R : Hp}, OwnL K Hs vs os R → (∀ a, S a ≠ none → R a = none) → OwnL K Hs (vs ++ [v]) (os ++ [o]) (jn S R)
  | _, _, _, .nil, d => by
    exact .cons h .nil (fun _ _ => rfl)
  | _, _, _, .cons (R := R1) (S := R2) h1 r d1, d => by
    have q := OwnL.snoc h r fun a ha => (jn_none.mp (d a ha)).2
    have c := OwnL.cons h1 q fun a ha => jn_none.mpr ⟨by
      cases y : S a with
      | none => rfl
      | some u => exact absurd (jn_none.mp (d a (by rw [y]; exact fun z => nomatch z))).1 ha, d1 a ha⟩
    have e3 : jn S (jn R1 R2) = jn R1 (jn S R2) := funext fun a => by
      cases z : R1 a with
      | some o =>
        have hS : S a = none := by
          cases y : S a with
          | none => rfl
          | some u =>
            have := (jn_none.mp (d a (by rw [y]; exact fun z => nomatch z))).1
            rw [z] at this
            cases this
        rw [jn_r hS, jn_l z, jn_l z]
      | none =>
        rw [jn_r z]
        cases y : S a with
        | some u => rw [jn_l y, jn_l y]
        | none => rw [jn_r y, jn_r y, jn_r z]
    rw [e3]
    exact c

/-! ### paths -/
def O.kids : O → List O
  | .sh _ => []
  | .ol xs => xs
  | .ob _ _ xs => xs
  | .dg _ _ => []
def O.wk : O → List O → O
  | .sh d, _ => .sh d
  | .ol _, ys => .ol ys
  | .ob C ns _, ys => .ob C ns ys
  | .dg P n, _ => .dg P n
def O.at_ : O → List Nat → Option O
  | o, [] => some o
  | o, j :: p => (o.kids[j]?).bind fun x => x.at_ p
def O.put : O → List Nat → O → O
  | _, [], o' => o'
  | o, j :: p, o' => match o.kids[j]? with
    | none => o
    | some x => o.wk (o.kids.set j (x.put p o'))
/-- the value at a path -/
inductive VAt (H : Hp) : V → List Nat → V → Prop
  | nil {v : V} : VAt H v [] v
  | lst {a : Addr} {vs : List V} {j : Nat} {u w : V} {p : List Nat} : H a = some (.lst vs) → vs[j]? = some u → VAt H u p w → VAt H (.ref a) (j :: p) w
  | ins {a C dx : Addr} {fs : List (Str × V)} {f : Str} {j : Nat} {u w : V} {p : List Nat} : H a = some (.ins C dx fs) → fs[j]? = some (f, u) → VAt H u p w → VAt H (.ref a) (j :: p) w
theorem VAt.mono {H H' : Hp} (e : Ex H H') : ∀ {v : V} {p : List Nat} {w : V}, VAt H v p w → VAt H' v p w
  | _, _, _, .nil => .nil
  | _, _, _, .lst h g r => .lst (e _ _ h) g (VAt.mono e r)
  | _, _, _, .ins h g r => .ins (e _ _ h) g (VAt.mono e r)
theorem VAt.app {H : Hp} {q : List Nat} {u : V} : ∀ {v : V} {p : List Nat} {w : V}, VAt H v p w → VAt H w q u → VAt H v (p ++ q) u
  | _, _, _, .nil, r => r
  | _, _, _, .lst h g r, s => .lst h g (VAt.app r s)
  | _, _, _, .ins h g r, s => .ins h g (VAt.app r s)
theorem VAt.det {H : Hp} : ∀ {v : V} {p : List Nat} {w u : V}, VAt H v p w → VAt H v p u → w = u
  | _, _, _, _, .nil, .nil => rfl
  | _, _, _, _, .lst h g r, .lst h' g' r' => by
    rw [h] at h'
    cases h'
    rw [g] at g'
    cases g'
    exact VAt.det r r'
  | _, _, _, _, .ins h g r, .ins h' g' r' => by
    rw [h] at h'
    cases h'
    rw [g] at g'
    cases g'
    exact VAt.det r r'
  | _, _, _, _, .lst h g r, .ins h' g' r' => by rw [h] at h'; cases h'
  | _, _, _, _, .ins h g r, .lst h' g' r' => by rw [h] at h'; cases h'
theorem zip_get {ns : List Str} {vs : List V} {j : Nat} {u : V} (hl : ns.length = vs.length) (h : vs[j]? = some u) : ∃ f, (ns.zip vs)[j]? = some (f, u) := by
  have hj := (List.getElem?_eq_some_iff.mp h).1
  refine ⟨ns[j]'(by omega), ?_⟩
  rw [List.getElem?_zip_eq_some]
  exact ⟨List.getElem?_eq_getElem _, h⟩
theorem zip_set {ns : List Str} {vs : List V} {j : Nat} {u : V} : vs[j]? = some u → ns.zip (vs.set j u) = ns.zip vs := fun h => by
  have e : vs.set j u = vs := by
    apply List.ext_getElem?
    intro i
    by_cases q : i = j
    · subst q
      rw [List.getElem?_set_self (List.getElem?_eq_some_iff.mp h).1, h]
    · rw [List.getElem?_set_ne (Ne.symm q)]
  rw [e]
/-- what lies at a path, and what may be put there in its stead (its address stays) -/
theorem Own.part : ∀ {p : List Nat} {v : V} {o o1 : O} {R : Hp}, Own K Hs v o R → o.at_ p = some o1 → ∃ v1 S T, VAt R v p v1 ∧ Own K Hs v1 o1 S ∧ (∀ a, S a ≠ none → T a = none) ∧ (∀ a, R a = jn S T a) ∧
    ∀ {G : Hp}, Ex Hs G → ∀ {o' : O} {S' : Hp}, Own K G v1 o' S' → (∀ a, S' a ≠ none → T a = none) → Own K G v (o.put p o') (jn S' T)
  | [], v, o, o1, R, h, e => by
    have e' := Option.some.inj e
    subst e'
    exact ⟨v, R, em, .nil, h, fun _ _ => rfl, fun a => by rw [jn_em'], fun {G} eg {o' S'} h' _ => by
      rw [jn_em']
      exact h'⟩
  | j :: p, v, o, o1, R, h, e => by
    obtain ⟨x, hx, e⟩ := Option.bind_eq_some_iff.mp e
    have shape : ∃ (q : Addr) (vs : List V) (xs : List O) (R1 : Hp) (mk : List V → HO), v = .ref q ∧ o.kids = xs ∧ R1 q = none ∧ OwnL K Hs vs xs R1 ∧ R = upd R1 q (mk vs) ∧
        (∀ (G : Hp) (vs' : List V) (xs' : List O) (R' : Hp), R' q = none → xs'.length = xs.length → OwnL K G vs' xs' R' → Own K G (.ref q) (o.wk xs') (upd R' q (mk vs'))) ∧
        (∀ (G : Hp) (vs' : List V) (u w : V), vs'.length = vs.length → G q = some (mk vs') → vs'[j]? = some u → VAt G u p w → VAt G (.ref q) (j :: p) w) := by
      cases h with
      | sh _ => simp [O.kids] at hx
      | dg _ => simp [O.kids] at hx
      | @ol q vs xs R1 hn hl =>
        exact ⟨q, vs, xs, R1, fun vs => .lst vs, rfl, rfl, hn, hl, rfl, fun G vs' xs' R' hn' _ hl' => .ol hn' hl', fun G vs' u w _ hg hu r => .lst hg hu r⟩
      | @ob q C dx ns vs xs R1 hn hlen hl =>
        refine ⟨q, vs, xs, R1, fun vs => .ins C dx (ns.zip vs), rfl, rfl, hn, hl, rfl, fun G vs' xs' R' hn' hlen' hl' => .ob hn' (by omega) hl', fun G vs' u w hlen' hg hu r => ?_⟩
        obtain ⟨f, hf⟩ := zip_get (ns := ns) (by rw [hlen', hl.length]; exact hlen) hu
        exact .ins hg hf r
    obtain ⟨q, vs, xs, R1, mk, rfl, ek, hn, hl, rfl, build, step⟩ := shape
    rw [ek] at hx
    obtain ⟨u, S1, T1, hu, ho, d1, e1, k1⟩ := hl.split hx
    obtain ⟨v1, S, T, va, h1, d2, e2, k2⟩ := Own.part (p := p) ho e
    have qS1 : S1 q = none ∧ T1 q = none := jn_none.mp (by rw [← e1]; exact hn)
    have qST : S q = none ∧ T q = none := jn_none.mp (by rw [← e2]; exact qS1.1)
    refine ⟨v1, S, upd (jn T T1) q (mk vs), ?_, h1, fun a ha => ?_, fun a => ?_, fun {G} eg {o' S'} h' d' => ?_⟩
    · refine step _ vs u v1 rfl upd_same hu (va.mono fun a o ea => ?_)
      have na : a ≠ q := fun z => by rw [z, qS1.1] at ea; cases ea
      rw [upd_ne na, e1, jn_l ea]
    · have na : a ≠ q := fun z => by rw [z] at ha; exact ha qST.1
      rw [upd_ne na]
      refine jn_none.mpr ⟨d2 a ha, d1 a ?_⟩
      rw [e2]
      intro z
      exact ha (jn_none.mp z).1
    · by_cases na : a = q
      · subst na
        rw [upd_same, jn_r qST.1, upd_same]
      · rw [upd_ne na, e1]
        cases y : S a with
        | some o =>
          have y1 : S1 a = some o := by rw [e2, jn_l y]
          rw [jn_l y1, jn_l y]
        | none =>
          rw [jn_r y, upd_ne na]
          cases z : T a with
          | some o =>
            have y1 : S1 a = some o := by rw [e2, jn_r y, z]
            rw [jn_l y1, jn_l z]
          | none =>
            have y1 : S1 a = none := by rw [e2, jn_r y, z]
            rw [jn_r y1, jn_r z]
    · have c2 := k2 eg h' fun a ha => by
        have := d' a ha
        by_cases na : a = q
        · subst na
          exact qST.2
        · rw [upd_ne na] at this
          exact (jn_none.mp this).1
      have c1 := k1 eg c2 fun a ha => by
        by_cases hS' : S' a = none
        · have hT : T a ≠ none := fun z => ha (jn_none.mpr ⟨hS', z⟩)
          refine d1 a ?_
          rw [e2]
          intro z
          exact hT (jn_none.mp z).2
        · have := d' a hS'
          by_cases na : a = q
          · subst na
            exact qS1.2
          · rw [upd_ne na] at this
            exact (jn_none.mp this).2
      have hq' : S' q = none := by
        cases y : S' q with
        | none => rfl
        | some w =>
          have := d' q (by rw [y]; exact fun z => nomatch z)
          rw [upd_same] at this
          cases this
      have eput : o.put (j :: p) o' = o.wk (xs.set j (x.put p o')) := by
        show (match o.kids[j]? with
          | none => o
          | some x => o.wk (o.kids.set j (x.put p o'))) = _
        rw [ek, hx]
      rw [eput]
      have b := build G (vs.set j u) (xs.set j (x.put p o')) (jn (jn S' T) T1) (jn_none.mpr ⟨jn_none.mpr ⟨hq', qST.2⟩, qS1.2⟩) (by rw [List.length_set]) c1
      have ev : vs.set j u = vs := by
        apply List.ext_getElem?
        intro i
        by_cases qi : i = j
        · subst qi
          rw [List.getElem?_set_self (List.getElem?_eq_some_iff.mp hu).1, hu]
        · rw [List.getElem?_set_ne (Ne.symm qi)]
      rw [ev] at b
      have er : jn S' (upd (jn T T1) q (mk vs)) = upd (jn (jn S' T) T1) q (mk vs) := funext fun a => by
        by_cases na : a = q
        · subst na
          rw [jn_r hq', upd_same, upd_same]
        · rw [upd_ne na]
          cases y : S' a with
          | some w => rw [jn_l y, jn_l (show jn S' T a = some w by rw [jn_l y])]
          | none =>
            rw [jn_r y, upd_ne na]
            cases z : T a with
            | some w => rw [jn_l z, jn_l (show jn S' T a = some w by rw [jn_r y, z])]
            | none => rw [jn_r z, jn_r (show jn S' T a = none from jn_none.mpr ⟨y, z⟩)]
      rw [er]
      exact b
end
end DL

/-! DRules: what readings do on deep data. -/
namespace DL
open PySem L2

theorem SqT_of {K : PySem.W.Frag} {H : Hp} {a : Addr} {vs : List V} (h : H a = some (.tup vs)) : SqT K H a vs := .of h
/-! ### judgements -/
/-- te gives d -/
def EvD (K : PySem.W.Frag) (te : TE) (ρ : Env) (d : D) : Prop := ∀ B Hs H σ, RS K B Hs H σ ρ → ∀ Q : VK, (∀ Hs' H' v, Gr Hs H H Hs' H' → Rep K Hs' v d → Q v H') → te σ H Q
/-- te gives a new list that nobody else knows -/
def EvF (K : PySem.W.Frag) (te : TE) (ρ : Env) (ds : List D) : Prop := ∀ B Hs H σ, RS K B Hs H σ ρ → ∀ Q : VK, (∀ Hs' H' p vs, Gr Hs H H Hs' H' → H p = none → Hs' p = none → H' p = some (.lst vs) → RepL K Hs' vs ds → Q (.ref p) H') → te σ H Q
/-- te gives a list that may be read now -/
def EvB (K : PySem.W.Frag) (te : TE) (ρ : Env) (ds : List D) : Prop := ∀ B Hs H σ, RS K B Hs H σ ρ → ∀ Q : VK, (∀ Hs' H' p vs, Gr Hs H H Hs' H' → SqL K H' p vs → RepL K Hs' vs ds → Q (.ref p) H') → te σ H Q
/-- .. a list that is tracked (not the script) -/
def EvM (K : PySem.W.Frag) (te : TE) (ρ : Env) (ds : List D) : Prop := ∀ B Hs H σ, RS K B Hs H σ ρ → ∀ Q : VK, (∀ Hs' H' p vs, Gr Hs H H Hs' H' → H' p = some (.lst vs) → RepL K Hs' vs ds → Q (.ref p) H') → te σ H Q
/-- te gives what may be read now as d -/
def EvR (K : PySem.W.Frag) (te : TE) (ρ : Env) (d : D) : Prop := ∀ B Hs H σ, RS K B Hs H σ ρ → ∀ Q : VK, (∀ Hs' H' v, Gr Hs H H Hs' H' → Rep K H' v d → Q v H') → te σ H Q
/-- a test -/
def EvT (K : PySem.W.Frag) (tt : TT) (ρ : Env) (b : Bool) : Prop := ∀ B Hs H σ, RS K B Hs H σ ρ → ∀ Q : Bool → Hp → Prop, (∀ Hs' H', Gr Hs H H Hs' H' → Q b H') → tt σ H Q
/-- arguments -/
def EvA (K : PySem.W.Frag) (ta : TA) (ρ : Env) (ds : List D) : Prop := ∀ B Hs H σ, RS K B Hs H σ ρ → ∀ Q : List V → Hp → Prop, (∀ Hs' H' vs, Gr Hs H H Hs' H' → RepL K Hs' vs ds → Q vs H') → ta σ H Q
/-- a part of a slice -/
def EvO (K : PySem.W.Frag) (to : TO) (ρ : Env) (o : Option Int) : Prop := ∀ B Hs H σ, RS K B Hs H σ ρ → ∀ Q : Option Int → Hp → Prop, (∀ Hs' H', Gr Hs H H Hs' H' → Q o H') → to σ H Q
/-- what an iterator yields -/
def ItD (K : PySem.W.Frag) (J : It) (Hs1 : Hp) (ds : List D) : Prop := ∀ i Hs2 H2, Ex Hs1 Hs2 → Ex Hs2 H2 →
  (∀ d, ds[i]? = some d → J.go i H2 ∧ ∀ x H3, J.yld i H2 x H3 → ∃ Hs3, Gr Hs2 H2 H2 Hs3 H3 ∧ Rep K Hs3 x d) ∧ (i = ds.length → J.stop i H2)
def EvI (K : PySem.W.Frag) (wi : TI) (ρ : Env) (ds : List D) : Prop := ∀ B Hs H σ, RS K B Hs H σ ρ → ∀ R : It → Hp → Prop, (∀ J Hs1 H1, Gr Hs H H Hs1 H1 → ItD K J Hs1 ds → R J H1) → wi σ H R
/-- a target takes d -/
def EvG (K : PySem.W.Frag) (g : TG) (d : D) (ρ ρ' : Env) : Prop := ∀ B Hs H σ x, RS K B Hs H σ ρ → Rep K Hs x d → ∀ Q : St → Hp → Prop, (∀ Hs' H' σ', Gr Hs H H Hs' H' → RS K B Hs' H' σ' ρ' → Q σ' H') → g x σ H Q
def EvGs (K : PySem.W.Frag) (g : TGs) (ds : List D) (ρ ρ' : Env) : Prop := ∀ B Hs H σ xs, RS K B Hs H σ ρ → RepL K Hs xs ds → ∀ Q : St → Hp → Prop, (∀ Hs' H' σ', Gr Hs H H Hs' H' → RS K B Hs' H' σ' ρ' → Q σ' H') → g xs σ H Q

section
variable {K : PySem.W.Frag} {ρ : Env} {te ta tb tx : TE} {d e : D} {ds es : List D} {tt tu : TT}

theorem EvD.is (h : EvD K te ρ d) (q : d = e) : EvD K te ρ e := q ▸ h
theorem EvF.is (h : EvF K te ρ ds) (q : ds = es) : EvF K te ρ es := q ▸ h
theorem EvT.is {a b : Bool} (h : EvT K tt ρ a) (q : a = b) : EvT K tt ρ b := q ▸ h
theorem EvD.r (h : EvD K te ρ d) : EvR K te ρ d := fun B Hs H σ r Q q => h B Hs H σ r Q fun Hs' H' v g x => q Hs' H' v g (x.mono g.lv)
theorem EvF.m (h : EvF K te ρ ds) : EvM K te ρ ds := fun B Hs H σ r Q q => h B Hs H σ r Q fun Hs' H' p vs g _ _ e x => q Hs' H' p vs g e x
theorem EvM.b (h : EvM K te ρ ds) : EvB K te ρ ds := fun B Hs H σ r Q q => h B Hs H σ r Q fun Hs' H' p vs g e x => q Hs' H' p vs g (.of e) x
theorem EvF.b (h : EvF K te ρ ds) : EvB K te ρ ds := h.m.b
theorem EvF.v (h : EvF K te ρ ds) : EvD K te ρ (.lst ds) := fun B Hs H σ r Q q => h B Hs H σ r Q fun Hs' H' p vs g n ns e x =>
  q (upd Hs' p (.lst vs)) H' (.ref p) (g.share n ns e) (.lst upd_same (x.mono (Ex.new ns)))
theorem EvD.m (h : EvD K te ρ (.lst ds)) : EvM K te ρ ds := fun B Hs H σ r Q q => h B Hs H σ r Q fun Hs' H' v g x => by
  cases x with
  | lst hs hr => exact q Hs' H' _ _ g (g.lv _ _ hs) hr
theorem EvD.s (h : EvD K te ρ (.scr ds)) : EvB K te ρ ds := fun B Hs H σ r Q q => h B Hs H σ r Q fun Hs' H' v g x => by
  cases x with
  | scr hs hr => exact q Hs' H' _ _ g (g.lv.sl hs) hr
theorem EvM.r (h : EvM K te ρ ds) : EvR K te ρ (.lst ds) := fun B Hs H σ r Q q => h B Hs H σ r Q fun Hs' H' p vs g e x => q Hs' H' (.ref p) g (.lst e (x.mono g.lv))

/-! ### names and constants -/
theorem ev_var {i : Nat} (h : ρ[i]? = some (some (.sh d))) : EvD K (tVar i) ρ d := fun B Hs H σ r Q q => by
  obtain ⟨v, e, x⟩ := r.get h
  exact ⟨v, e, q Hs H v (Gr.refl r.ex) x⟩
theorem em_var {i : Nat} (h : ρ[i]? = some (some (.ol ds))) : EvM K (tVar i) ρ ds := fun B Hs H σ r Q q => by
  obtain ⟨p, vs, e, hp, x, _⟩ := r.mutL i h
  exact ⟨.ref p, e, q Hs H p vs (Gr.refl r.ex) hp x⟩
theorem ev_ci {i : Int} : EvD K (tC (.int i)) ρ (.int i) := fun B Hs H σ r Q q => q Hs H _ (Gr.refl r.ex) (.int i)
theorem ev_cs {s : Str} : EvD K (tC (.str s)) ρ (.str s) := fun B Hs H σ r Q q => q Hs H _ (Gr.refl r.ex) (.str s)
theorem ev_cb {b : Bool} : EvD K (tC (.bl b)) ρ (.bl b) := fun B Hs H σ r Q q => q Hs H _ (Gr.refl r.ex) (.bl b)
theorem ev_cn : EvD K (tC .non) ρ .non := fun B Hs H σ r Q q => q Hs H _ (Gr.refl r.ex) .non
theorem ev_cf {a : Addr} : EvD K (tC (.ref a)) ρ (.fn a) := fun B Hs H σ r Q q => q Hs H _ (Gr.refl r.ex) (.fn a)
theorem ev_ct {n : String} : EvD K (tC (.ty n)) ρ (.ty n) := fun B Hs H σ r Q q => q Hs H _ (Gr.refl r.ex) (.ty n)

/-! ### operators on ints -/
theorem ev_I {g : Int → Int → Int} {i j : Int} (ha : EvD K ta ρ (.int i)) (hb : EvD K tb ρ (.int j)) : EvD K (tOp (rI0 fun i j => .int (g i j)) ta tb) ρ (.int (g i j)) := fun B Hs H σ r Q q =>
  ha B Hs H σ r _ fun Hs1 H1 x g1 x1 => hb B Hs1 H1 σ (r.grow g1) _ fun Hs2 H2 y g2 y2 => by
    cases x1
    cases y2
    exact ⟨i, j, rfl, rfl, q Hs2 H2 _ (g1.trans g2) (.int _)⟩
theorem ev_Ib {g : Int → Int → Bool} {i j : Int} (ha : EvD K ta ρ (.int i)) (hb : EvD K tb ρ (.int j)) : EvD K (tOp (rI0 fun i j => .bl (g i j)) ta tb) ρ (.bl (g i j)) := fun B Hs H σ r Q q =>
  ha B Hs H σ r _ fun Hs1 H1 x g1 x1 => hb B Hs1 H1 σ (r.grow g1) _ fun Hs2 H2 y g2 y2 => by
    cases x1
    cases y2
    exact ⟨i, j, rfl, rfl, q Hs2 H2 _ (g1.trans g2) (.bl _)⟩
theorem ev_IC {C : Int → Int → Prop} {g : Int → Int → Int} {i j : Int} (ha : EvD K ta ρ (.int i)) (hb : EvD K tb ρ (.int j)) (hc : C i j) : EvD K (tOp (rI C fun i j => .int (g i j)) ta tb) ρ (.int (g i j)) := fun B Hs H σ r Q q =>
  ha B Hs H σ r _ fun Hs1 H1 x g1 x1 => hb B Hs1 H1 σ (r.grow g1) _ fun Hs2 H2 y g2 y2 => by
    cases x1
    cases y2
    exact ⟨i, j, rfl, rfl, hc, q Hs2 H2 _ (g1.trans g2) (.int _)⟩
theorem ev_U {g : Int → Int} {i : Int} (ha : EvD K ta ρ (.int i)) : EvD K (tUn (rU fun i => .int (g i)) ta) ρ (.int (g i)) := fun B Hs H σ r Q q =>
  ha B Hs H σ r _ fun Hs1 H1 x g1 x1 => by
    cases x1
    exact ⟨i, rfl, q Hs1 H1 _ g1 (.int _)⟩

/-! ### == of data -/
mutual
def D.pd : D → PyData
  | .non => .none | .bl b => .bool b | .int i => .int i | .str s => .str s
  | .lst xs => .list (D.pds xs) | .scr xs => .list (D.pds xs) | .tup xs => .tuple (D.pds xs)
  | .ty _ => .none | .fn _ => .none | .obj _ _ _ => .none
def D.pds : List D → List PyData
  | [] => []
  | x :: xs => D.pd x :: D.pds xs
end
mutual
/-- data that == compares as data -/
def D.pl : D → Bool
  | .non => true | .bl _ => true | .int _ => true | .str _ => true
  | .lst xs => D.pls xs | .scr xs => D.pls xs | .tup xs => D.pls xs
  | .ty _ => false | .fn _ => false | .obj _ _ _ => false
def D.pls : List D → Bool
  | [] => true
  | x :: xs => D.pl x && D.pls xs
end
mutual
theorem Rep.dp {H : Hp} : ∀ {v : V} {d : D}, Rep K H v d → d.pl = true → Dp K H v d.pd
  | _, _, .non, _ => .non
  | _, _, .bl b, _ => .bl b
  | _, _, .int i, _ => .int i
  | _, _, .str x, _ => .str x
  | _, _, .ty n, s => by cases s
  | _, _, .fn a, s => by cases s
  | _, _, .lst h r, s => by
    unfold D.pd
    exact .lst (.of h) (RepL.dp r (by unfold D.pl at s; exact s))
  | _, _, .scr h r, s => by
    unfold D.pd
    exact .lst h (RepL.dp r (by unfold D.pl at s; exact s))
  | _, _, .tup h r, s => by
    unfold D.pd
    exact .tup (.of h) (RepL.dp r (by unfold D.pl at s; exact s))
  | _, _, .obj h r, s => by cases s
theorem RepL.dp {H : Hp} : ∀ {vs : List V} {ds : List D}, RepL K H vs ds → D.pls ds = true → DpAll K H vs (D.pds ds)
  | _, _, .nil, _ => by
    unfold D.pds
    exact .nil
  | _, _, .cons h r, s => by
    unfold D.pls at s
    rw [Bool.and_eq_true] at s
    unfold D.pds
    exact .cons (Rep.dp h s.1) (RepL.dp r s.2)
end
/-- fit to be compared -/
def D.fit (d : D) : Bool := d.pl && SeqAt.shaped d.pd
theorem ev_eq (ha : EvR K ta ρ d) (hb : EvR K tb ρ e) (fd : d.fit = true) (fe : e.fit = true) : EvD K (tOp (rEqD K) ta tb) ρ (.bl (PyData.eqv d.pd e.pd)) := fun B Hs H σ r Q q =>
  ha B Hs H σ r _ fun Hs1 H1 x g1 x1 => hb B Hs1 H1 σ (r.grow g1) _ fun Hs2 H2 y g2 y2 => by
    unfold D.fit at fd fe
    rw [Bool.and_eq_true] at fd fe
    exact ⟨_, _, (x1.mono g2.fr).dp fd.1, y2.dp fe.1, fd.2, fe.2, q Hs2 H2 _ (g1.trans g2) (.bl _)⟩
theorem ev_ne (ha : EvR K ta ρ d) (hb : EvR K tb ρ e) (fd : d.fit = true) (fe : e.fit = true) : EvD K (tOp (rNeD K) ta tb) ρ (.bl (!PyData.eqv d.pd e.pd)) := fun B Hs H σ r Q q =>
  ha B Hs H σ r _ fun Hs1 H1 x g1 x1 => hb B Hs1 H1 σ (r.grow g1) _ fun Hs2 H2 y g2 y2 => by
    unfold D.fit at fd fe
    rw [Bool.and_eq_true] at fd fe
    exact ⟨_, _, (x1.mono g2.fr).dp fd.1, y2.dp fe.1, fd.2, fe.2, q Hs2 H2 _ (g1.trans g2) (.bl _)⟩
theorem ev_eqI {i j : Int} (ha : EvD K ta ρ (.int i)) (hb : EvD K tb ρ (.int j)) : EvD K (tOp (rEqD K) ta tb) ρ (.bl (decide (i = j))) :=
  (ev_eq ha.r hb.r rfl rfl).is (by
    show D.bl (i == j) = _
    rw [Bool.beq_eq_decide_eq])
theorem ev_neI {i j : Int} (ha : EvD K ta ρ (.int i)) (hb : EvD K tb ρ (.int j)) : EvD K (tOp (rNeD K) ta tb) ρ (.bl (!decide (i = j))) :=
  (ev_ne ha.r hb.r rfl rfl).is (by
    show D.bl (!(i == j)) = _
    rw [Bool.beq_eq_decide_eq])
theorem ev_eqB {i j : Bool} (ha : EvD K ta ρ (.bl i)) (hb : EvD K tb ρ (.bl j)) : EvD K (tOp (rEqD K) ta tb) ρ (.bl (decide (i = j))) :=
  (ev_eq ha.r hb.r rfl rfl).is (by
    show D.bl (i == j) = _
    rw [Bool.beq_eq_decide_eq])
theorem ev_neB {i j : Bool} (ha : EvD K ta ρ (.bl i)) (hb : EvD K tb ρ (.bl j)) : EvD K (tOp (rNeD K) ta tb) ρ (.bl (!decide (i = j))) :=
  (ev_ne ha.r hb.r rfl rfl).is (by
    show D.bl (!(i == j)) = _
    rw [Bool.beq_eq_decide_eq])

/-- a kind of data: == of its codes is =. n: how deep -/
structure Cod {α : Type} [DecidableEq α] (n : Nat) (f : α → D) : Prop where
  pl : ∀ x, (f x).pl = true
  lay : ∀ x, (f x).pd.canLay0 = true
  dp : ∀ x, (f x).pd.depth ≤ n
  eq : ∀ x y, PyData.eqv (f x).pd (f y).pd = decide (x = y)
section
variable {α β γ δ : Type} [DecidableEq α] [DecidableEq β] [DecidableEq γ] [DecidableEq δ] {n m k l : Nat} {f : α → D} {g : β → D} {h : γ → D} {u : δ → D}
theorem Cod.fit (c : Cod n f) (hn : n ≤ 64) (x : α) : (f x).fit = true := by
  unfold D.fit SeqAt.shaped
  have h2 : decide ((f x).pd.depth ≤ 64) = true := decide_eq_true (Nat.le_trans (c.dp x) hn)
  rw [c.pl, c.lay, h2]
  rfl
theorem cod_int : Cod 0 D.int := ⟨fun _ => rfl, fun _ => rfl, fun _ => Nat.le_refl _, fun x y => by
  show (x == y) = _
  rw [Bool.beq_eq_decide_eq]⟩
theorem cod_bl : Cod 0 D.bl := ⟨fun _ => rfl, fun _ => rfl, fun _ => Nat.le_refl _, fun x y => by
  show (x == y) = _
  rw [Bool.beq_eq_decide_eq]⟩
theorem Cod.pls (c : Cod n f) : ∀ xs : List α, D.pls (xs.map f) = true
  | [] => rfl
  | x :: xs => by
    show (D.pl (f x) && D.pls (xs.map f)) = true
    rw [c.pl, Cod.pls c xs]
    rfl
theorem Cod.lays (c : Cod n f) : ∀ xs : List α, PyData.canLayAll0 (D.pds (xs.map f)) = true
  | [] => rfl
  | x :: xs => by
    have h1 := c.lay x
    have h2 := Cod.lays c xs
    show PyData.canLayAll0 (D.pd (f x) :: D.pds (xs.map f)) = true
    simp only [PyData.canLayAll0, h1, h2, Bool.and_self]
theorem Cod.dps (c : Cod n f) : ∀ xs : List α, PyData.depthAll (D.pds (xs.map f)) ≤ n
  | [] => Nat.zero_le _
  | x :: xs => by
    have h1 := c.dp x
    have h2 := Cod.dps c xs
    show PyData.depthAll (D.pd (f x) :: D.pds (xs.map f)) ≤ n
    simp only [PyData.depthAll]
    omega
theorem Cod.eqs (c : Cod n f) : ∀ xs ys : List α, PyData.eqvAll (D.pds (xs.map f)) (D.pds (ys.map f)) = decide (xs = ys)
  | [], [] => by simp [D.pds, PyData.eqvAll]
  | [], y :: ys => by simp [D.pds, PyData.eqvAll]
  | x :: xs, [] => by simp [D.pds, PyData.eqvAll]
  | x :: xs, y :: ys => by
    have h1 := c.eq x y
    have h2 := Cod.eqs c xs ys
    show (PyData.eqv (f x).pd (f y).pd && PyData.eqvAll (D.pds (xs.map f)) (D.pds (ys.map f))) = _
    rw [h1, h2]
    by_cases e1 : x = y <;> by_cases e2 : xs = ys <;> simp [e1, e2]
theorem Cod.lst (c : Cod n f) : Cod (n + 1) (fun xs : List α => D.lst (xs.map f)) := ⟨fun xs => c.pls xs, fun xs => c.lays xs, fun xs => by
  have h := c.dps xs
  show PyData.depthAll (D.pds (xs.map f)) + 1 ≤ n + 1
  omega, fun xs ys => c.eqs xs ys⟩
theorem Cod.tps (c : Cod n f) : Cod (n + 1) (fun xs : List α => D.tup (xs.map f)) := ⟨fun xs => c.pls xs, fun xs => c.lays xs, fun xs => by
  have h := c.dps xs
  show PyData.depthAll (D.pds (xs.map f)) + 1 ≤ n + 1
  omega, fun xs ys => c.eqs xs ys⟩
theorem Cod.tup2 (a : Cod n f) (b : Cod m g) : Cod (max n m + 1) (fun x : α × β => D.tup [f x.1, g x.2]) := ⟨fun x => by simp [D.pl, D.pls, a.pl, b.pl], fun x => by simp [D.pd, D.pds, PyData.canLay0, PyData.canLayAll0, a.lay, b.lay],
  fun x => by
    have h1 := a.dp x.1
    have h2 := b.dp x.2
    simp only [D.pd, D.pds, PyData.depth, PyData.depthAll]
    omega, fun x y => by
    simp only [D.pd, D.pds, PyData.eqv, PyData.eqvAll, a.eq, b.eq]
    obtain ⟨x1, x2⟩ := x
    obtain ⟨y1, y2⟩ := y
    by_cases e1 : x1 = y1 <;> by_cases e2 : x2 = y2 <;> simp [e1, e2]⟩
theorem Cod.tup3 (a : Cod n f) (b : Cod m g) (c : Cod k h) : Cod (max n (max m k) + 1) (fun x : α × β × γ => D.tup [f x.1, g x.2.1, h x.2.2]) := ⟨fun x => by simp [D.pl, D.pls, a.pl, b.pl, c.pl], fun x => by simp [D.pd, D.pds, PyData.canLay0, PyData.canLayAll0, a.lay, b.lay, c.lay],
  fun x => by
    have h1 := a.dp x.1
    have h2 := b.dp x.2.1
    have h3 := c.dp x.2.2
    simp only [D.pd, D.pds, PyData.depth, PyData.depthAll]
    omega, fun x y => by
    simp only [D.pd, D.pds, PyData.eqv, PyData.eqvAll, a.eq, b.eq, c.eq]
    obtain ⟨x1, x2, x3⟩ := x
    obtain ⟨y1, y2, y3⟩ := y
    by_cases e1 : x1 = y1 <;> by_cases e2 : x2 = y2 <;> by_cases e3 : x3 = y3 <;> simp [e1, e2, e3]⟩
end
theorem ev_eqC {α : Type} [DecidableEq α] {n : Nat} {f : α → D} (c : Cod n f) (hn : n ≤ 64) {x y : α} (ha : EvR K ta ρ (f x)) (hb : EvR K tb ρ (f y)) : EvD K (tOp (rEqD K) ta tb) ρ (.bl (decide (x = y))) :=
  (ev_eq ha hb (c.fit hn x) (c.fit hn y)).is (by rw [c.eq])
theorem ev_neC {α : Type} [DecidableEq α] {n : Nat} {f : α → D} (c : Cod n f) (hn : n ≤ 64) {x y : α} (ha : EvR K ta ρ (f x)) (hb : EvR K tb ρ (f y)) : EvD K (tOp (rNeD K) ta tb) ρ (.bl (!decide (x = y))) :=
  (ev_ne ha hb (c.fit hn x) (c.fit hn y)).is (by rw [c.eq])
theorem ev_eqL {xs ys : List Int} (ha : EvR K ta ρ (.lst (xs.map .int))) (hb : EvR K tb ρ (.lst (ys.map .int))) : EvD K (tOp (rEqD K) ta tb) ρ (.bl (decide (xs = ys))) := ev_eqC cod_int.lst (by decide) ha hb
theorem ev_neL {xs ys : List Int} (ha : EvR K ta ρ (.lst (xs.map .int))) (hb : EvR K tb ρ (.lst (ys.map .int))) : EvD K (tOp (rNeD K) ta tb) ρ (.bl (!decide (xs = ys))) := ev_neC cod_int.lst (by decide) ha hb
/-- xs == [], xs != [] -/
theorem ev_eqN {xs : List D} (ha : EvR K ta ρ (.lst xs)) (hb : EvR K tb ρ (.lst [])) (fx : (D.lst xs).fit = true) : EvD K (tOp (rEqD K) ta tb) ρ (.bl xs.isEmpty) := (ev_eq ha hb fx rfl).is (by
  cases xs <;> rfl)
theorem ev_neN {xs : List D} (ha : EvR K ta ρ (.lst xs)) (hb : EvR K tb ρ (.lst [])) (fx : (D.lst xs).fit = true) : EvD K (tOp (rNeD K) ta tb) ρ (.bl (!xs.isEmpty)) := (ev_ne ha hb fx rfl).is (by
  cases xs <;> rfl)
def D.isN : D → Bool
  | .non => true
  | _ => false
/-! ### tests -/
theorem et_B {b : Bool} (h : EvD K te ρ (.bl b)) : EvT K (tB te) ρ b := fun B Hs H σ r Q q => h B Hs H σ r _ fun Hs' H' v g x => by
  cases x
  exact ⟨b, rfl, q Hs' H' g⟩
theorem et_t {b : Bool} (h : EvD K te ρ (.bl b)) : EvT K (tTest te) ρ b := fun B Hs H σ r Q q => h B Hs H σ r _ fun Hs' H' v g x => by
  cases x
  exact ⟨b, rfl, q Hs' H' g⟩
theorem et_and {a b : Bool} (h1 : EvT K tt ρ a) (h2 : a = true → EvT K tu ρ b) : EvT K (tAnd tt tu) ρ (a && b) := fun B Hs H σ r Q q => h1 B Hs H σ r _ fun Hs1 H1 g1 => by
  cases a with
  | true =>
    show tu σ H1 Q
    exact h2 rfl B Hs1 H1 σ (r.grow g1) Q fun Hs2 H2 g2 => q Hs2 H2 (g1.trans g2)
  | false =>
    show Q false H1
    exact q Hs1 H1 g1
theorem et_or {a b : Bool} (h1 : EvT K tt ρ a) (h2 : a = false → EvT K tu ρ b) : EvT K (tOr tt tu) ρ (a || b) := fun B Hs H σ r Q q => h1 B Hs H σ r _ fun Hs1 H1 g1 => by
  cases a with
  | true =>
    show Q true H1
    exact q Hs1 H1 g1
  | false =>
    show tu σ H1 Q
    exact h2 rfl B Hs1 H1 σ (r.grow g1) Q fun Hs2 H2 g2 => q Hs2 H2 (g1.trans g2)
theorem et_not {a : Bool} (h1 : EvT K tt ρ a) : EvT K (tNot tt) ρ (!a) := fun B Hs H σ r Q q => h1 B Hs H σ r _ q
theorem et_and' {a b : Bool} (h1 : EvT K tt ρ a) (h2 : EvT K tu ρ b) : EvT K (tAnd tt tu) ρ (a && b) := et_and h1 fun _ => h2
theorem et_or' {a b : Bool} (h1 : EvT K tt ρ a) (h2 : EvT K tu ρ b) : EvT K (tOr tt tu) ρ (a || b) := et_or h1 fun _ => h2
theorem et_yes : EvT K tYes ρ true := fun B Hs H σ r Q q => q Hs H (Gr.refl r.ex)
theorem ev_and {a b : Bool} (h1 : EvD K ta ρ (.bl a)) (h2 : a = true → EvD K tb ρ (.bl b)) : EvD K (tAndV ta tb) ρ (.bl (a && b)) := fun B Hs H σ r Q q => h1 B Hs H σ r _ fun Hs1 H1 v g1 x => by
  cases x
  refine ⟨a, rfl, ?_⟩
  cases a with
  | true =>
    show tb σ H1 Q
    exact h2 rfl B Hs1 H1 σ (r.grow g1) Q fun Hs2 H2 w g2 => q Hs2 H2 w (g1.trans g2)
  | false =>
    show Q (.bl false) H1
    exact q Hs1 H1 _ g1 (.bl _)
theorem ev_or {a b : Bool} (h1 : EvD K ta ρ (.bl a)) (h2 : a = false → EvD K tb ρ (.bl b)) : EvD K (tOrV ta tb) ρ (.bl (a || b)) := fun B Hs H σ r Q q => h1 B Hs H σ r _ fun Hs1 H1 v g1 x => by
  cases x
  refine ⟨a, rfl, ?_⟩
  cases a with
  | true =>
    show Q (.bl true) H1
    exact q Hs1 H1 _ g1 (.bl _)
  | false =>
    show tb σ H1 Q
    exact h2 rfl B Hs1 H1 σ (r.grow g1) Q fun Hs2 H2 w g2 => q Hs2 H2 w (g1.trans g2)
theorem ev_and' {a b : Bool} (h1 : EvD K ta ρ (.bl a)) (h2 : EvD K tb ρ (.bl b)) : EvD K (tAndV ta tb) ρ (.bl (a && b)) := ev_and h1 fun _ => h2
theorem ev_or' {a b : Bool} (h1 : EvD K ta ρ (.bl a)) (h2 : EvD K tb ρ (.bl b)) : EvD K (tOrV ta tb) ρ (.bl (a || b)) := ev_or h1 fun _ => h2
theorem ev_not {a : Bool} (h1 : EvD K ta ρ (.bl a)) : EvD K (tNotV ta) ρ (.bl (!a)) := fun B Hs H σ r Q q => h1 B Hs H σ r _ fun Hs1 H1 v g1 x => by
  cases x
  exact ⟨a, rfl, q Hs1 H1 _ g1 (.bl _)⟩
theorem ev_if {b : Bool} (h : EvT K tt ρ b) (h1 : b = true → EvD K ta ρ d) (h2 : b = false → EvD K tb ρ d) : EvD K (tIf tt ta tb) ρ d := fun B Hs H σ r Q q => h B Hs H σ r _ fun Hs1 H1 g1 => by
  cases b with
  | true =>
    show ta σ H1 Q
    exact h1 rfl B Hs1 H1 σ (r.grow g1) Q fun Hs2 H2 v g2 => q Hs2 H2 v (g1.trans g2)
  | false =>
    show tb σ H1 Q
    exact h2 rfl B Hs1 H1 σ (r.grow g1) Q fun Hs2 H2 v g2 => q Hs2 H2 v (g1.trans g2)
/-- a < b < c -/
theorem ev_chain {g h : Int → Int → Bool} {i j k : Int} {tc : TE} (ha : EvD K ta ρ (.int i)) (hb : EvD K tb ρ (.int j)) (hc : EvD K tc ρ (.int k)) :
    EvD K (tChain (rI0 fun i j => .bl (g i j)) (rI0 fun i j => .bl (h i j)) ta tb tc) ρ (.bl (g i j && h j k)) := fun B Hs H σ r Q q =>
  ha B Hs H σ r _ fun Hs1 H1 x g1 x1 => hb B Hs1 H1 σ (r.grow g1) _ fun Hs2 H2 y g2 y2 => by
    cases x1
    cases y2
    refine ⟨i, j, rfl, rfl, g i j, rfl, ?_⟩
    cases e : g i j with
    | true =>
      show tc σ H2 _
      refine hc B Hs2 H2 σ ((r.grow g1).grow g2) _ fun Hs3 H3 z g3 z3 => ?_
      cases z3
      rw [e, Bool.true_and] at q
      exact ⟨j, k, rfl, rfl, q Hs3 H3 _ ((g1.trans g2).trans g3) (.bl _)⟩
    | false =>
      show Q (.bl false) H2
      rw [e, Bool.false_and] at q
      exact q Hs2 H2 _ (g1.trans g2) (.bl _)
/-- is None -/
theorem ev_isN (ha : EvR K ta ρ d) : EvD K (tIsN ta) ρ (.bl d.isN) := fun B Hs H σ r Q q => ha B Hs H σ r _ fun Hs1 H1 v g x => by
  have e : decide (v = V.non) = d.isN := by
    cases x <;> rfl
  show Q (.bl (decide (v = V.non))) H1
  rw [e]
  exact q Hs1 H1 _ g (.bl _)
theorem ev_notN (ha : EvR K ta ρ d) : EvD K (tNotN ta) ρ (.bl (!d.isN)) := fun B Hs H σ r Q q => ha B Hs H σ r _ fun Hs1 H1 v g x => by
  have e : (!decide (v = V.non)) = (!d.isN) := by
    cases x <;> rfl
  show Q (.bl (!decide (v = V.non))) H1
  rw [e]
  exact q Hs1 H1 _ g (.bl _)

/-! ### arguments, displays -/
theorem ea_nil : EvA K tNil ρ [] := fun B Hs H σ r Q q => q Hs H _ (Gr.refl r.ex) .nil
theorem ea_cons {tr : TA} (h : EvD K ta ρ d) (hr : EvA K tr ρ ds) : EvA K (tCons ta tr) ρ (d :: ds) := fun B Hs H σ r Q q =>
  h B Hs H σ r _ fun Hs1 H1 v g1 x => hr B Hs1 H1 σ (r.grow g1) _ fun Hs2 H2 vs g2 xs => q Hs2 H2 _ (g1.trans g2) (.cons (x.mono g2.sh) xs)
theorem sz_of {n : Nat} (h : n ≤ 100000) : n ≤ sizeLine := Nat.le_trans h (by decide)
theorem sz_lt {n : Nat} (h : n < 100000) : n < sizeLine := Nat.lt_of_lt_of_le h (by decide)
theorem ev_tup {ta : TA} (h : EvA K ta ρ ds) (hl : ds.length ≤ 100000) : EvD K (tTup ta) ρ (.tup ds) := fun B Hs H σ r Q q =>
  h B Hs H σ r _ fun Hs1 H1 vs g xs => ⟨by rw [xs.length]; exact sz_of hl, fun p hp => by
    have g2 := Gr.new (o := .tup vs) g.lv hp
    have n : Hs1 p = none := by
      cases q : Hs1 p with
      | none => rfl
      | some u =>
        rw [g.lv p u q] at hp
        cases hp
    exact q _ _ _ (g.trans g2) (.tup upd_same (xs.mono (Ex.new n)))⟩
theorem gr_none {Hs H Hs' H' : Hp} (g : Gr Hs H H Hs' H') {p : Addr} (h : H' p = none) : H p = none ∧ Hs' p = none := by
  constructor
  · cases q : H p with
    | none => rfl
    | some u =>
      rw [g.fr p u q] at h
      cases h
  · cases q : Hs' p with
    | none => rfl
    | some u =>
      rw [g.lv p u q] at h
      cases h
theorem ef_lst {ta : TA} (h : EvA K ta ρ ds) (hl : ds.length ≤ 100000) : EvF K (tLst ta) ρ ds := fun B Hs H σ r Q q =>
  h B Hs H σ r _ fun Hs1 H1 vs g xs => ⟨by rw [xs.length]; exact sz_of hl, fun p hp => by
    obtain ⟨n1, n2⟩ := gr_none g hp
    exact q Hs1 _ p vs (g.trans (Gr.newO g.lv hp)) n1 n2 upd_same xs⟩

/-! ### lists read -/
theorem ev_ixL {i : Int} (ha : EvB K ta ρ ds) (hb : EvD K tb ρ (.int i)) (h : atI ds i = some d) : EvD K (tOp (rIxL K) ta tb) ρ d := fun B Hs H σ r Q q =>
  ha B Hs H σ r _ fun Hs1 H1 p vs g1 hp xs => hb B Hs1 H1 σ (r.grow g1) _ fun Hs2 H2 y g2 y2 => by
    cases y2
    unfold atI at h
    obtain ⟨j, e1, e2⟩ := Option.bind_eq_some_iff.mp h
    obtain ⟨v, e3, x⟩ := xs.at e2
    refine ⟨p, vs, i, v, rfl, rfl, g2.fr.sl hp, ?_, q Hs2 H2 v (g1.trans g2) (x.mono g2.sh)⟩
    unfold atI
    rw [xs.length, e1]
    exact e3
theorem ev_ixT {i : Int} (ha : EvD K ta ρ (.tup ds)) (hb : EvD K tb ρ (.int i)) (h : atI ds i = some d) : EvD K (tOp (rIxT K) ta tb) ρ d := fun B Hs H σ r Q q =>
  ha B Hs H σ r _ fun Hs1 H1 x g1 x1 => hb B Hs1 H1 σ (r.grow g1) _ fun Hs2 H2 y g2 y2 => by
    cases y2
    cases x1 with
    | @tup p vs _ hp' xs =>
      have hp := SqT_of (K := K) hp'
      unfold atI at h
      obtain ⟨j, e1, e2⟩ := Option.bind_eq_some_iff.mp h
      obtain ⟨v, e3, x⟩ := xs.at e2
      refine ⟨p, vs, i, v, rfl, rfl, (g1.lv.trans g2.fr).st hp, ?_, q Hs2 H2 v (g1.trans g2) (x.mono g2.sh)⟩
      unfold atI
      rw [xs.length, e1]
      exact e3
/-- x[i] of a list or a tuple or a text, by the rule of all three -/
theorem ev_ixl {i : Int} (ha : EvB K ta ρ ds) (hb : EvD K tb ρ (.int i)) (h : atI ds i = some d) : EvD K (tOp (rIx K) ta tb) ρ d := fun B Hs H σ r Q q =>
  ha B Hs H σ r _ fun Hs1 H1 p vs g1 hp xs => hb B Hs1 H1 σ (r.grow g1) _ fun Hs2 H2 y g2 y2 => by
    cases y2
    unfold atI at h
    obtain ⟨j, e1, e2⟩ := Option.bind_eq_some_iff.mp h
    obtain ⟨v, e3, x⟩ := xs.at e2
    refine .inl ⟨p, vs, i, v, rfl, rfl, g2.fr.sl hp, ?_, q Hs2 H2 v (g1.trans g2) (x.mono g2.sh)⟩
    unfold atI
    rw [xs.length, e1]
    exact e3
theorem ev_ixt {i : Int} (ha : EvD K ta ρ (.tup ds)) (hb : EvD K tb ρ (.int i)) (h : atI ds i = some d) : EvD K (tOp (rIx K) ta tb) ρ d := fun B Hs H σ r Q q =>
  ha B Hs H σ r _ fun Hs1 H1 x g1 x1 => hb B Hs1 H1 σ (r.grow g1) _ fun Hs2 H2 y g2 y2 => by
    cases y2
    cases x1 with
    | @tup p vs _ hp' xs =>
      have hp := SqT_of (K := K) hp'
      unfold atI at h
      obtain ⟨j, e1, e2⟩ := Option.bind_eq_some_iff.mp h
      obtain ⟨v, e3, x⟩ := xs.at e2
      refine .inr (.inl ⟨p, vs, i, v, rfl, rfl, (g1.lv.trans g2.fr).st hp, ?_, q Hs2 H2 v (g1.trans g2) (x.mono g2.sh)⟩)
      unfold atI
      rw [xs.length, e1]
      exact e3
theorem eo_none : EvO K tNoPart ρ none := fun B Hs H σ r Q q => q Hs H (Gr.refl r.ex)
theorem eo_some {i : Int} (h : EvD K te ρ (.int i)) : EvO K (tPart te) ρ (some i) := fun B Hs H σ r Q q => h B Hs H σ r _ fun Hs' H' v g x => by
  cases x
  exact ⟨i, rfl, q Hs' H' g⟩
def cutD (xs : List D) (lo hi : Option Int) : List D := (xs.drop (HT.sIx xs.length 0 lo)).take (HT.sIx xs.length xs.length hi - HT.sIx xs.length 0 lo)
theorem RepL.cut {H : Hp} {vs : List V} (h : RepL K H vs ds) (lo hi : Option Int) : RepL K H (cutV vs lo hi) (cutD ds lo hi) := by
  unfold cutV cutD
  rw [h.length]
  exact (h.drop _).take _
theorem ef_slice {tl th : TO} {lo hi : Option Int} (ha : EvB K ta ρ ds) (hl : EvO K tl ρ lo) (hh : EvO K th ρ hi) : EvF K (tSl (rSlL K) ta tl th) ρ (cutD ds lo hi) := fun B Hs H σ r Q q =>
  ha B Hs H σ r _ fun Hs1 H1 p vs g1 hp xs => hl B Hs1 H1 σ (r.grow g1) _ fun Hs2 H2 g2 => hh B Hs2 H2 σ ((r.grow g1).grow g2) _ fun Hs3 H3 g3 => by
    refine ⟨p, vs, rfl, g3.fr.sl (g2.fr.sl hp), fun l hn => ?_⟩
    have g := (g1.trans g2).trans g3
    obtain ⟨n1, n2⟩ := gr_none g hn
    exact q Hs3 _ l _ (g.trans (Gr.newO g3.lv hn)) n1 n2 upd_same ((xs.mono (g2.sh.trans g3.sh)).cut lo hi)
theorem ef_cat (ha : EvM K ta ρ ds) (hb : EvM K tb ρ es) (hl : ds.length + es.length ≤ 100000) : EvF K (tOp rCat ta tb) ρ (ds ++ es) := fun B Hs H σ r Q q =>
  ha B Hs H σ r _ fun Hs1 H1 p vs g1 hp xs => hb B Hs1 H1 σ (r.grow g1) _ fun Hs2 H2 p2 ws g2 hp2 ys => by
    have g := g1.trans g2
    refine ⟨p, p2, vs, ws, rfl, rfl, g2.fr p _ hp, hp2, by rw [xs.length, ys.length]; exact sz_of hl, fun l hn => ?_⟩
    obtain ⟨n1, n2⟩ := gr_none g hn
    exact q Hs2 _ l _ (g.trans (Gr.newO g2.lv hn)) n1 n2 upd_same ((xs.mono g2.sh).append ys)
theorem ef_rep {k : Int} (ha : EvM K ta ρ ds) (hb : EvD K tb ρ (.int k)) (hk : k ≤ 100000) (hk' : -100000 ≤ k) (hl : ds.length * k.toNat ≤ 100000) : EvF K (tOp rRep ta tb) ρ (List.replicate k.toNat ds).flatten := fun B Hs H σ r Q q =>
  ha B Hs H σ r _ fun Hs1 H1 p vs g1 hp xs => hb B Hs1 H1 σ (r.grow g1) _ fun Hs2 H2 y g2 y2 => by
    cases y2
    have g := g1.trans g2
    refine ⟨p, k, vs, rfl, rfl, g2.fr p _ hp, by omega, by omega, by rw [xs.length]; exact sz_of hl, fun l hn => ?_⟩
    obtain ⟨n1, n2⟩ := gr_none g hn
    exact q Hs2 _ l _ (g.trans (Gr.newO g2.lv hn)) n1 n2 upd_same ((xs.mono g2.sh).rep _)

/-! ### built-ins on lists -/
abbrev rLen (K : PySem.W.Frag) : List V → Hp → VK → Prop := fun xs H Q => ∃ p ys, xs = [V.ref p] ∧ (SqL K H p ys ∨ SqT K H p ys) ∧ Q (.int ys.length) H
theorem ev_lenL (ha : EvB K ta ρ ds) : EvD K (tCB (rLen K) (tCons ta tNil)) ρ (.int (ds.length : Int)) := fun B Hs H σ r Q q =>
  ha B Hs H σ r _ fun Hs1 H1 p vs g1 hp xs => ⟨p, vs, rfl, .inl hp, by
    rw [xs.length]
    exact q Hs1 H1 _ g1 (.int _)⟩
theorem ev_lenT (ha : EvD K ta ρ (.tup ds)) : EvD K (tCB (rLen K) (tCons ta tNil)) ρ (.int (ds.length : Int)) := fun B Hs H σ r Q q =>
  ha B Hs H σ r _ fun Hs1 H1 v g1 x => by
    cases x with
    | @tup p vs _ hp' xs =>
      have hp := SqT_of (K := K) hp'
      refine ⟨p, vs, rfl, .inr (g1.lv.st hp), ?_⟩
      rw [xs.length]
      exact q Hs1 H1 _ g1 (.int _)
abbrev rLenS : List V → Hp → VK → Prop := fun xs H Q => ∃ z : Str, xs = [V.str z] ∧ z.length ≤ sizeLine ∧ Q (.int z.length) H
abbrev rList (K : PySem.W.Frag) : List V → Hp → VK → Prop := fun xs H Q => ∃ p ys, xs = [V.ref p] ∧ (SqL K H p ys ∨ SqT K H p ys) ∧ ∀ l, H l = none → Q (.ref l) (upd H l (.lst ys))
theorem ef_listL (ha : EvB K ta ρ ds) : EvF K (tCB (rList K) (tCons ta tNil)) ρ ds := fun B Hs H σ r Q q =>
  ha B Hs H σ r _ fun Hs1 H1 p vs g1 hp xs => ⟨p, vs, rfl, .inl hp, fun l hn => by
    obtain ⟨n1, n2⟩ := gr_none g1 hn
    exact q Hs1 _ l _ (g1.trans (Gr.newO g1.lv hn)) n1 n2 upd_same xs⟩
theorem ef_listT (ha : EvD K ta ρ (.tup ds)) : EvF K (tCB (rList K) (tCons ta tNil)) ρ ds := fun B Hs H σ r Q q =>
  ha B Hs H σ r _ fun Hs1 H1 v g1 x => by
    cases x with
    | @tup p vs _ hp' xs =>
      have hp := SqT_of (K := K) hp'
      refine ⟨p, vs, rfl, .inr (g1.lv.st hp), fun l hn => ?_⟩
      obtain ⟨n1, n2⟩ := gr_none g1 hn
      exact q Hs1 _ l _ (g1.trans (Gr.newO g1.lv hn)) n1 n2 upd_same xs
abbrev rTuple (K : PySem.W.Frag) : List V → Hp → VK → Prop := fun xs H Q => ∃ p ys, xs = [V.ref p] ∧ ((SqL K H p ys ∧ ∀ l, H l = none → Q (.ref l) (upd H l (.tup ys))) ∨ (SqT K H p ys ∧ Q (.ref p) H))
theorem ev_tupleL (ha : EvB K ta ρ ds) : EvD K (tCB (rTuple K) (tCons ta tNil)) ρ (.tup ds) := fun B Hs H σ r Q q =>
  ha B Hs H σ r _ fun Hs1 H1 p vs g1 hp xs => ⟨p, vs, rfl, .inl ⟨hp, fun l hn => by
    obtain ⟨n1, n2⟩ := gr_none g1 hn
    exact q _ _ _ (g1.trans (Gr.new g1.lv hn)) (.tup upd_same (xs.mono (Ex.new n2)))⟩⟩
theorem ev_tupleT (ha : EvD K ta ρ (.tup ds)) : EvD K (tCB (rTuple K) (tCons ta tNil)) ρ (.tup ds) := fun B Hs H σ r Q q =>
  ha B Hs H σ r _ fun Hs1 H1 v g1 x => by
    cases x with
    | @tup p vs _ hp' xs =>
      have hp := SqT_of (K := K) hp'
      exact ⟨p, vs, rfl, .inr ⟨g1.lv.st hp, q Hs1 H1 _ g1 (.tup hp' xs)⟩⟩
theorem ev_sum {ns : List Int} (ha : EvB K ta ρ (ns.map D.int)) : EvD K (tCB (rSum K) (tCons ta tNil)) ρ (.int ns.sum) := fun B Hs H σ r Q q =>
  ha B Hs H σ r _ fun Hs1 H1 p vs g1 hp xs => by
    have e := xs.ints
    subst e
    exact ⟨p, ns, rfl, hp, q Hs1 H1 _ g1 (.int _)⟩
theorem ev_all {bs : List Bool} (ha : EvB K ta ρ (bs.map D.bl)) : EvD K (tCB (rAll K) (tCons ta tNil)) ρ (.bl (bs.all id)) := fun B Hs H σ r Q q =>
  ha B Hs H σ r _ fun Hs1 H1 p vs g1 hp xs => by
    have e := xs.bls
    subst e
    exact ⟨p, bs, rfl, hp, q Hs1 H1 _ g1 (.bl _)⟩
theorem ev_any {bs : List Bool} (ha : EvB K ta ρ (bs.map D.bl)) : EvD K (tCB (rAny K) (tCons ta tNil)) ρ (.bl (bs.any id)) := fun B Hs H σ r Q q =>
  ha B Hs H σ r _ fun Hs1 H1 p vs g1 hp xs => by
    have e := xs.bls
    subst e
    exact ⟨p, bs, rfl, hp, q Hs1 H1 _ g1 (.bl _)⟩
abbrev rAbs : List V → Hp → VK → Prop := fun xs H Q => ∃ i : Int, xs = [V.int i] ∧ Q (.int (if i < 0 then -i else i)) H
theorem ev_abs {i : Int} (ha : EvD K ta ρ (.int i)) : EvD K (tCB rAbs (tCons ta tNil)) ρ (.int (if i < 0 then -i else i)) := fun B Hs H σ r Q q =>
  ha B Hs H σ r _ fun Hs1 H1 v g1 x => by
    cases x
    exact ⟨i, rfl, q Hs1 H1 _ g1 (.int _)⟩
abbrev rMax2 : List V → Hp → VK → Prop := fun xs H Q => ∃ i j : Int, xs = [V.int i, V.int j] ∧ Q (.int (if j > i then j else i)) H
abbrev rMin2 : List V → Hp → VK → Prop := fun xs H Q => ∃ i j : Int, xs = [V.int i, V.int j] ∧ Q (.int (if j < i then j else i)) H
theorem ev_max2 {i j : Int} (ha : EvD K ta ρ (.int i)) (hb : EvD K tb ρ (.int j)) : EvD K (tCB rMax2 (tCons ta (tCons tb tNil))) ρ (.int (max i j)) := fun B Hs H σ r Q q =>
  ha B Hs H σ r _ fun Hs1 H1 v g1 x => hb B Hs1 H1 σ (r.grow g1) _ fun Hs2 H2 w g2 y => by
    cases x
    cases y
    refine ⟨i, j, rfl, ?_⟩
    have e : (if j > i then j else i) = max i j := by
      by_cases h : j > i
      · rw [if_pos h]
        omega
      · rw [if_neg h]
        omega
    rw [e]
    exact q Hs2 H2 _ (g1.trans g2) (.int _)
theorem ev_min2 {i j : Int} (ha : EvD K ta ρ (.int i)) (hb : EvD K tb ρ (.int j)) : EvD K (tCB rMin2 (tCons ta (tCons tb tNil))) ρ (.int (min i j)) := fun B Hs H σ r Q q =>
  ha B Hs H σ r _ fun Hs1 H1 v g1 x => hb B Hs1 H1 σ (r.grow g1) _ fun Hs2 H2 w g2 y => by
    cases x
    cases y
    refine ⟨i, j, rfl, ?_⟩
    have e : (if j < i then j else i) = min i j := by
      by_cases h : j < i
      · rw [if_pos h]
        omega
      · rw [if_neg h]
        omega
    rw [e]
    exact q Hs2 H2 _ (g1.trans g2) (.int _)
end

/-! ### statements on deep data -/
structure DEnds where
  nx : Env → Prop
  rt : D → Prop
  rf : List D → Prop := fun _ => False
  bk : Env → Prop := fun _ => False
  ct : Env → Prop := fun _ => False
  /-- a value comes back, the own things of the frame are so -/
  ro : Env → D → Prop := fun _ _ => False
  /-- an exception leaves: its class, its own dict -/
  ex : Env → Value → Option (List (Str × D)) → Prop := fun _ _ _ => False
  W : WX := fun _ _ _ _ => True
  /-- a new tree comes back -/
  rn : O → Prop := fun _ => False

/-- an exception's own dict -/
def XRep (K : PySem.W.Frag) (Hs H : Hp) : Option Addr → Option (List (Str × D)) → Prop
  | none, none => True
  | some a, some fs => ∃ vs, H a = some (.xd ((fs.map (·.1)).zip vs)) ∧ RepL K Hs vs (fs.map (·.2))
  | _, _ => False

/-- what follows a statement, over the frame's base B -/
structure Lk (K : PySem.W.Frag) (B : Base) (R : DEnds) (Dn : Ends) : Prop where
  nx : ∀ Hs H σ ρ, RS K B Hs H σ ρ → R.nx ρ → Dn.nx σ H
  rt : ∀ Hs H v d, Gr B.s B.f B.h Hs H → Rep K Hs v d → R.rt d → Dn.rt v H
  rf : ∀ Hs H p vs ds, Gr B.s B.f B.h Hs H → B.h p = none → Hs p = none → H p = some (.lst vs) → RepL K Hs vs ds → R.rf ds → Dn.rt (.ref p) H
  bk : ∀ Hs H σ ρ, RS K B Hs H σ ρ → R.bk ρ → Dn.bk σ H
  ct : ∀ Hs H σ ρ, RS K B Hs H σ ρ → R.ct ρ → Dn.ct σ H
  ro : ∀ Hs H σ ρ v d, RS K B Hs H σ ρ → Rep K Hs v d → R.ro ρ d → Dn.rt v H
  ex : ∀ Hs H σ ρ cls dd fs, RS K B Hs H σ ρ → XRep K Hs H dd fs → R.ex ρ cls fs → R.W cls dd σ H
  rn : ∀ Hs H v o S, Gr B.s B.f B.h Hs H → Own K Hs v o S → (∀ a u, S a = some u → H a = some u ∧ B.h a = none ∧ Hs a = none) → R.rn o → Dn.rt v H
def ExS (K : PySem.W.Frag) (ts : TS) (ρ : Env) (R : DEnds) : Prop := ∀ B Hs H σ Dn, RS K B Hs H σ ρ → Lk K B R Dn → ts Dn σ H

section
variable {K : PySem.W.Frag} {ρ ρ' : Env} {te ta tb : TE} {d : D} {ds : List D} {tt : TT} {t u : TS} {R : DEnds}
theorem xs_next (h : R.nx ρ) : ExS K tNext ρ R := fun B Hs H σ Dn r l => l.nx Hs H σ ρ r h
theorem xs_brk (h : R.bk ρ) : ExS K tBreak ρ R := fun B Hs H σ Dn r l => l.bk Hs H σ ρ r h
theorem xs_cont (h : R.ct ρ) : ExS K tCont ρ R := fun B Hs H σ Dn r l => l.ct Hs H σ ρ r h
theorem xs_seq (h : ExS K t ρ { R with nx := fun ρ' => ExS K u ρ' R }) : ExS K (tSeq t u) ρ R := fun B Hs H σ Dn r l =>
  h B Hs H σ _ r ⟨fun Hs' H' σ' ρ' r' q => q B Hs' H' σ' Dn r' l, l.rt, l.rf, l.bk, l.ct, l.ro, l.ex, l.rn⟩
theorem xs_if {b : Bool} (h : EvT K tt ρ b) (h1 : b = true → ExS K t ρ R) (h2 : b = false → ExS K u ρ R) : ExS K (tIfS tt t u) ρ R := fun B Hs H σ Dn r l =>
  h B Hs H σ r _ fun Hs1 H1 g1 => by
    cases b with
    | true =>
      show t Dn σ H1
      exact h1 rfl B Hs1 H1 σ Dn (r.grow g1) l
    | false =>
      show u Dn σ H1
      exact h2 rfl B Hs1 H1 σ Dn (r.grow g1) l
/-- a test that fails -/
theorem xs_no {b : Bool} (h : EvT K tt ρ b) (e : b = false) (q : R.nx ρ) : ExS K (tIfS tt t tNext) ρ R := xs_if h (fun h1 => by rw [e] at h1; cases h1) fun _ => xs_next q
theorem xs_no2 {b : Bool} (h : EvT K tt ρ b) (e : b = false) (q : ExS K u ρ R) : ExS K (tIfS tt t u) ρ R := xs_if h (fun h1 => by rw [e] at h1; cases h1) fun _ => q
theorem xs_yes {b : Bool} (h : EvT K tt ρ b) (e : b = true) (q : ExS K t ρ R) : ExS K (tIfS tt t u) ρ R := xs_if h (fun _ => q) fun h1 => by rw [e] at h1; cases h1
theorem xs_ret (h : EvD K te ρ d) (q : R.rt d) : ExS K (tRet te) ρ R := fun B Hs H σ Dn r l =>
  h B Hs H σ r _ fun Hs1 H1 v g x => l.rt Hs1 H1 v d (r.gr.trans g) x q
theorem xs_retF (h : EvF K te ρ ds) (q : R.rf ds) : ExS K (tRet te) ρ R := fun B Hs H σ Dn r l =>
  h B Hs H σ r _ fun Hs1 H1 p vs g n ns e x => l.rf Hs1 H1 p vs ds (r.gr.trans g) (by
    cases z : B.h p with
    | none => rfl
    | some o => exact absurd n (r.gr.dm p (by rw [z]; exact fun y => nomatch y))) ns e x q
theorem xs_retO (h : EvD K te ρ d) (q : R.ro ρ d) : ExS K (tRet te) ρ R := fun B Hs H σ Dn r l =>
  h B Hs H σ r _ fun Hs1 H1 v g x => l.ro Hs1 H1 σ ρ v d (r.grow g) x q
theorem xs_retNO (q : R.ro ρ .non) : ExS K tRetN ρ R := fun B Hs H σ Dn r l => l.ro Hs H σ ρ .non .non r .non q
theorem xs_retN (q : R.rt .non) : ExS K tRetN ρ R := fun B Hs H σ Dn r l => l.rt Hs H .non .non r.gr .non q
theorem xs_drop (h : EvD K te ρ d) (q : R.nx ρ) : ExS K (tDrop te) ρ R := fun B Hs H σ Dn r l =>
  h B Hs H σ r _ fun Hs1 H1 v g x => l.nx Hs1 H1 σ ρ (r.grow g) q
theorem eg_name {i : Nat} : EvG K (gName i) d ρ (ρ.set i (some (.sh d))) := fun B Hs H σ x r h Q q => q Hs H _ (Gr.refl r.ex) (r.set i h)
theorem egs_nil : EvGs K gNil [] ρ ρ := fun B Hs H σ xs r h Q q => by
  cases h
  exact ⟨rfl, q Hs H σ (Gr.refl r.ex) r⟩
theorem egs_cons {g : TG} {gs : TGs} {ρ2 : Env} (h1 : EvG K g d ρ ρ') (h2 : EvGs K gs ds ρ' ρ2) : EvGs K (gCons g gs) (d :: ds) ρ ρ2 := fun B Hs H σ xs r h Q q => by
  cases h with
  | @cons v vs _ _ a b =>
    refine ⟨v, vs, rfl, h1 B Hs H σ v r a _ fun Hs1 H1 σ1 g1 r1 => ?_⟩
    exact h2 B Hs1 H1 σ1 vs r1 (b.mono g1.sh) _ fun Hs2 H2 σ2 g2 r2 => q Hs2 H2 σ2 (g1.trans g2) r2
theorem eg_tup {gs : TGs} {n : Nat} (h : EvGs K gs ds ρ ρ') (hn : ds.length = n) : EvG K (gTup K n gs) (.tup ds) ρ ρ' := fun B Hs H σ x r hx Q q => by
  cases hx with
  | @tup p vs _ hp' xs =>
    have hp := SqT_of (K := K) hp'
    exact ⟨p, vs, rfl, r.ex.st hp, by rw [xs.length]; exact hn, h B Hs H σ vs r xs Q q⟩
theorem xs_asg {g : TG} (h : EvD K te ρ d) (hg : EvG K g d ρ ρ') (q : R.nx ρ') : ExS K (tAsg te g) ρ R := fun B Hs H σ Dn r l =>
  h B Hs H σ r _ fun Hs1 H1 v g1 x => hg B Hs1 H1 σ v (r.grow g1) x _ fun Hs2 H2 σ2 g2 r2 => l.nx Hs2 H2 σ2 ρ' r2 q
/-- a new list of the frame's own -/
theorem xs_asgF {i : Nat} (h : EvF K te ρ ds) (q : R.nx (ρ.set i (some (.ol ds)))) : ExS K (tAsg te (gName i)) ρ R := fun B Hs H σ Dn r l =>
  h B Hs H σ r _ fun Hs1 H1 p vs g n ns e x => l.nx Hs1 H1 _ _ (r.setO g i n e ns x) q
theorem xs_aug {i : Nat} {f : Int → Int → Int} {a b : Int} (hx : ρ[i]? = some (some (.sh (.int a)))) (h : EvD K te ρ (.int b)) (q : R.nx (ρ.set i (some (.sh (.int (f a b)))))) : ExS K (tAug i te (ipI f)) ρ R := fun B Hs H σ Dn r l => by
  obtain ⟨v, e, x⟩ := r.get hx
  cases x
  refine ⟨.int a, e, h B Hs H σ r _ fun Hs1 H1 w g y => ?_⟩
  cases y
  exact ⟨a, b, rfl, rfl, l.nx Hs1 H1 _ _ ((r.grow g).set i (.int _)) q⟩
/-- xs.append(e), xs the frame's own -/
theorem xs_app {i : Nat} (hx : ρ[i]? = some (some (.ol ds))) (h : EvD K te ρ d) (hz : ds.length < 100000) (q : R.nx (ρ.set i (some (.ol (ds ++ [d]))))) : ExS K (tDrop (tBM K "list" rAppend (tVar i) (tCons te tNil))) ρ R := fun B Hs H σ Dn r l => by
  obtain ⟨p, vs, e, hp, x, _⟩ := r.mutL i hx
  refine ⟨.ref p, e, .inl ⟨rfl, _, .of hp⟩, h B Hs H σ r _ fun Hs1 H1 w g y => ?_⟩
  obtain ⟨p', vs', e', hp', x', m⟩ := (r.grow g).mutL i hx
  rw [e] at e'
  cases e'
  refine ⟨p, vs', w, rfl, rfl, hp', by rw [x'.length]; exact sz_lt hz, ?_⟩
  exact l.nx Hs1 _ _ _ (m _ _ (x'.append (.cons y .nil))) q
end
end DL

/-! DLoop: iterators, loops, comprehensions, calls, defs. -/
namespace DL
open PySem L2

section
variable {K : PySem.W.Frag} {ρ ρ' : Env} {te ta tb : TE} {d e : D} {ds es : List D} {tt : TT} {R : DEnds}
/-! ### iterators -/
theorem ei_list (h : EvD K ta ρ (.lst ds)) : EvI K (iList K ta) ρ ds := fun B Hs H σ r R q => h B Hs H σ r _ fun Hs1 H1 v g x => by
  cases x with
  | @lst p vs _ hp' xs =>
    have hp : SqL K Hs1 p vs := .of hp'
    refine ⟨p, rfl, ⟨vs, g.lv.sl hp⟩, q _ Hs1 H1 g fun i Hs2 H2 e1 e2 => ⟨fun d hd => ?_, fun hi => ?_⟩⟩
    · have hq := (e1.trans e2).sl hp
      obtain ⟨v, hv, xv⟩ := xs.at hd
      refine ⟨⟨vs, v, hq, hv⟩, fun x H3 y => ?_⟩
      obtain ⟨rfl, y⟩ := y
      have z := y vs hq
      rw [hv] at z
      cases z
      exact ⟨Hs2, Gr.refl e2, xv.mono e1⟩
    · exact ⟨vs, (e1.trans e2).sl hp, by rw [xs.length, hi]; exact Nat.le_refl _⟩
theorem ei_tup (h : EvD K ta ρ (.tup ds)) : EvI K (iTup K ta) ρ ds := fun B Hs H σ r R q => h B Hs H σ r _ fun Hs1 H1 v g x => by
  cases x with
  | @tup p vs _ hp' xs =>
    have hp := SqT_of (K := K) hp'
    refine ⟨p, rfl, ⟨vs, g.lv.st hp⟩, q _ Hs1 H1 g fun i Hs2 H2 e1 e2 => ⟨fun d hd => ?_, fun hi => ?_⟩⟩
    · have hq := (e1.trans e2).st hp
      obtain ⟨v, hv, xv⟩ := xs.at hd
      refine ⟨⟨vs, v, hq, hv⟩, fun x H3 y => ?_⟩
      obtain ⟨rfl, y⟩ := y
      have z := y vs hq
      rw [hv] at z
      cases z
      exact ⟨Hs2, Gr.refl e2, xv.mono e1⟩
    · exact ⟨vs, (e1.trans e2).st hp, by rw [xs.length, hi]; exact Nat.le_refl _⟩
def rng (lo : Int) (n : Nat) : List D := (List.range n).map fun i : Nat => D.int (lo + (i : Int))
theorem rng_length (lo : Int) (n : Nat) : (rng lo n).length = n := by unfold rng; rw [List.length_map, List.length_range]
theorem rng_get {lo : Int} {n i : Nat} {d : D} (h : (rng lo n)[i]? = some d) : i < n ∧ d = .int (lo + (i : Int)) := by
  unfold rng at h
  rw [List.getElem?_map] at h
  obtain ⟨j, e1, e2⟩ := Option.map_eq_some_iff.mp h
  have := List.getElem?_eq_some_iff.mp e1
  obtain ⟨hl, e3⟩ := this
  rw [List.length_range] at hl
  rw [List.getElem_range] at e3
  subst e3
  exact ⟨hl, e2.symm⟩
theorem itd_r (lo : Int) (n : Nat) (Hs1 : Hp) : ItD K (Itr lo n) Hs1 (rng lo n) := fun i Hs2 H2 e1 e2 => ⟨fun d hd => by
  obtain ⟨h1, rfl⟩ := rng_get hd
  refine ⟨h1, fun x H3 y => ?_⟩
  obtain ⟨rfl, rfl⟩ := y
  exact ⟨Hs2, Gr.refl e2, .int _⟩, fun hi => by
  rw [rng_length] at hi
  exact Nat.le_of_eq hi.symm⟩
theorem ei_r1 {ta : TA} {n : Int} (h : EvA K ta ρ [.int n]) (hn : -1000000000 ≤ n ∧ n ≤ 1000000000) : EvI K (iRng1 ta) ρ (rng 0 n.toNat) := fun B Hs H σ r R q => h B Hs H σ r _ fun Hs1 H1 vs g x => by
  cases x with
  | cons a b =>
    cases b
    cases a
    exact ⟨n, rfl, by omega, by omega, q _ Hs1 H1 g (itd_r 0 n.toNat Hs1)⟩
theorem ei_r2 {ta : TA} {lo hi : Int} (h : EvA K ta ρ [.int lo, .int hi]) (hn : -4000000000000000000 ≤ lo ∧ lo ≤ 4000000000000000000 ∧ -4000000000000000000 ≤ hi ∧ hi ≤ 4000000000000000000) : EvI K (iRng2 ta) ρ (rng lo (hi - lo).toNat) := fun B Hs H σ r R q => h B Hs H σ r _ fun Hs1 H1 vs g x => by
  cases x with
  | cons a b =>
    cases b with
    | cons a' b =>
      cases b
      cases a
      cases a'
      exact ⟨lo, hi, rfl, ⟨by omega, by omega, by omega, by omega⟩, q _ Hs1 H1 g (itd_r lo (hi - lo).toNat Hs1)⟩
def rngC (lo c : Int) (n : Nat) : List D := (List.range n).map fun i : Nat => D.int (lo + (i : Int) * c)
theorem ei_r3 {ta : TA} {lo hi c : Int} {n : Nat} (h : EvA K ta ρ [.int lo, .int hi, .int c]) (hn : RgC lo hi c n) : EvI K (iRng3 ta) ρ (rngC lo c n) := fun B Hs H σ r R q => h B Hs H σ r _ fun Hs1 H1 vs g x => by
  cases x with
  | cons a b =>
    cases b with
    | cons a' b =>
      cases b with
      | cons a'' b =>
        cases b
        cases a
        cases a'
        cases a''
        refine ⟨lo, hi, c, n, rfl, hn, q _ Hs1 H1 g fun i Hs2 H2 e1 e2 => ⟨fun d hd => ?_, fun hi => ?_⟩⟩
        · unfold rngC at hd
          rw [List.getElem?_map] at hd
          obtain ⟨j, e3, e4⟩ := Option.map_eq_some_iff.mp hd
          obtain ⟨hl, e5⟩ := List.getElem?_eq_some_iff.mp e3
          rw [List.length_range] at hl
          rw [List.getElem_range] at e5
          subst e5
          subst e4
          refine ⟨hl, fun x H3 y => ?_⟩
          obtain ⟨rfl, rfl⟩ := y
          exact ⟨Hs2, Gr.refl e2, .int _⟩
        · unfold rngC at hi
          rw [List.length_map, List.length_range] at hi
          exact Nat.le_of_eq hi.symm
/-- the items with their numbers -/
def numD (k : Nat) : List D → List D
  | [] => []
  | d :: ds => .tup [.int (k : Int), d] :: numD (k + 1) ds
theorem numD_length : ∀ (k : Nat) (ds : List D), (numD k ds).length = ds.length
  | _, [] => rfl
  | k, d :: ds => by
    unfold numD
    rw [List.length_cons, List.length_cons, numD_length (k + 1) ds]
theorem numD_get : ∀ {k : Nat} {ds : List D} {i : Nat}, (numD k ds)[i]? = (ds[i]?).map fun d => D.tup [.int ((k + i : Nat) : Int), d]
  | _, [], i => by simp [numD]
  | k, d :: ds, 0 => by simp [numD]
  | k, d :: ds, i + 1 => by
    unfold numD
    rw [List.getElem?_cons_succ, List.getElem?_cons_succ, numD_get]
    have e : k + 1 + i = k + (i + 1) := by omega
    rw [e]
theorem ei_enum (h : EvD K ta ρ (.lst ds)) : EvI K (iEnum K (tCons ta tNil)) ρ (numD 0 ds) := fun B Hs H σ r R q => h B Hs H σ r _ fun Hs1 H1 v g x => by
  cases x with
  | @lst p vs _ hp' xs =>
    have hp : SqL K Hs1 p vs := .of hp'
    refine ⟨p, vs, rfl, g.lv.sl hp, q _ Hs1 H1 g fun i Hs2 H2 e1 e2 => ⟨fun d hd => ?_, fun hi => ?_⟩⟩
    · rw [numD_get, Nat.zero_add] at hd
      obtain ⟨d0, e3, e4⟩ := Option.map_eq_some_iff.mp hd
      subst e4
      have hq := (e1.trans e2).sl hp
      obtain ⟨v, hv, xv⟩ := xs.at e3
      refine ⟨⟨vs, v, hq, hv⟩, fun x H3 y => ?_⟩
      obtain ⟨T, w, rfl, hT, rfl, y⟩ := y
      have z := y vs hq
      rw [hv] at z
      cases z
      have n2 : Hs2 T = none := by
        cases q : Hs2 T with
        | none => rfl
        | some u =>
          rw [e2 T u q] at hT
          cases hT
      exact ⟨_, Gr.new e2 hT, .tup upd_same (.cons (.int _) (.cons (xv.mono (e1.trans (Ex.new n2))) .nil))⟩
    · rw [numD_length] at hi
      exact ⟨vs, (e1.trans e2).sl hp, by rw [xs.length, hi]; exact Nat.le_refl _⟩

/-! ### for -/
theorem RS.rebase {B : Base} {Hs H : Hp} {σ : St} (r : RS K B Hs H σ ρ) : RS K ⟨Hs, B.f, B.h⟩ Hs H σ ρ :=
  ⟨⟨r.gr.fr, Ex.refl Hs, r.gr.lv, fun _ _ => rfl, r.gr.dm⟩, r.len, r.reg⟩
theorem Gr.back {Bs Bf Bh Hs H Hs' H' : Hp} (g : Gr Bs Bf Bh Hs H) (g' : Gr Hs Bf Bh Hs' H') : Gr Bs Bf Bh Hs' H' :=
  ⟨g'.fr, g.sh.trans g'.sh, g'.lv, fun a h => (g'.nw a h).trans (g.nw a h), g'.dm⟩
theorem RS.back {B : Base} {Hs H Hs' H' : Hp} {σ' : St} (g : Gr B.s B.f B.h Hs H) (r : RS K ⟨Hs, B.f, B.h⟩ Hs' H' σ' ρ') : RS K B Hs' H' σ' ρ' :=
  ⟨g.back r.gr, r.len, r.reg⟩
/-- a statement run from here tells also that what is shared here stays -/
theorem ExS.run {ts : TS} {B : Base} {Hs H : Hp} {σ : St} {Dn : Ends} (h : ExS K ts ρ R) (r : RS K B Hs H σ ρ)
    (nx : ∀ Hs' H' σ' ρ', Ex Hs Hs' → RS K B Hs' H' σ' ρ' → R.nx ρ' → Dn.nx σ' H')
    (rt : ∀ Hs' H' v d, Gr B.s B.f B.h Hs' H' → Rep K Hs' v d → R.rt d → Dn.rt v H')
    (rf : ∀ Hs' H' p vs ds, Gr B.s B.f B.h Hs' H' → B.h p = none → Hs' p = none → H' p = some (.lst vs) → RepL K Hs' vs ds → R.rf ds → Dn.rt (.ref p) H')
    (bk : ∀ Hs' H' σ' ρ', Ex Hs Hs' → RS K B Hs' H' σ' ρ' → R.bk ρ' → Dn.bk σ' H')
    (ct : ∀ Hs' H' σ' ρ', Ex Hs Hs' → RS K B Hs' H' σ' ρ' → R.ct ρ' → Dn.ct σ' H')
    (ro : ∀ Hs' H' σ' ρ' v d, Ex Hs Hs' → RS K B Hs' H' σ' ρ' → Rep K Hs' v d → R.ro ρ' d → Dn.rt v H')
    (ex : ∀ Hs' H' σ' ρ' cls dd fs, Ex Hs Hs' → RS K B Hs' H' σ' ρ' → XRep K Hs' H' dd fs → R.ex ρ' cls fs → R.W cls dd σ' H')
    (rn : ∀ Hs' H' v o S, Gr B.s B.f B.h Hs' H' → Own K Hs' v o S → (∀ a u, S a = some u → H' a = some u ∧ B.h a = none ∧ Hs' a = none) → R.rn o → Dn.rt v H') : ts Dn σ H :=
  h ⟨Hs, B.f, B.h⟩ Hs H σ Dn r.rebase
    ⟨fun Hs' H' σ' ρ' r' q => nx Hs' H' σ' ρ' r'.gr.sh (RS.back r.gr r') q, fun Hs' H' v d g x q => rt Hs' H' v d (r.gr.back g) x q,
      fun Hs' H' p vs ds g n ns e x q => rf Hs' H' p vs ds (r.gr.back g) n ns e x q,
      fun Hs' H' σ' ρ' r' q => bk Hs' H' σ' ρ' r'.gr.sh (RS.back r.gr r') q, fun Hs' H' σ' ρ' r' q => ct Hs' H' σ' ρ' r'.gr.sh (RS.back r.gr r') q,
      fun Hs' H' σ' ρ' v d r' x q => ro Hs' H' σ' ρ' v d r'.gr.sh (RS.back r.gr r') x q, fun Hs' H' σ' ρ' cls dd fs r' x q => ex Hs' H' σ' ρ' cls dd fs r'.gr.sh (RS.back r.gr r') x q, fun Hs' H' v o S g ow c q => rn Hs' H' v o S (r.gr.back g) ow c q⟩
theorem xs_for {wi : TI} {g : TG} {tb : TS} (h : EvI K wi ρ ds) (I : Nat → Env → Prop) (h0 : I 0 ρ)
    (hs : ∀ k d ρ1, ds[k]? = some d → I k ρ1 → ∃ ρ2, EvG K g d ρ1 ρ2 ∧ ExS K tb ρ2 { R with nx := I (k + 1), ct := I (k + 1), bk := R.nx })
    (hd : ∀ ρ1, I ds.length ρ1 → R.nx ρ1) : ExS K (tFor wi g tb) ρ R := fun B Hs H σ Dn r l =>
  h B Hs H σ r _ fun J Hs1 H1 g1 it => by
    refine ⟨fun i m σ H => m = ds.length - i ∧ i ≤ ds.length ∧ ∃ Hs2 ρ1, RS K B Hs2 H σ ρ1 ∧ Ex Hs1 Hs2 ∧ I i ρ1, ⟨ds.length, rfl, Nat.zero_le _, Hs1, ρ, r.grow g1, Ex.refl _, h0⟩, ?_⟩
    rintro i m σ2 H2 ⟨rfl, hi, Hs2, ρ1, r2, e2, hI⟩
    obtain ⟨go, stop⟩ := it i Hs2 H2 e2 r2.ex
    by_cases hlt : i < ds.length
    · obtain ⟨go1, go2⟩ := go _ (List.getElem?_eq_getElem hlt)
      refine .inr ⟨go1, fun σ' H' => ∃ Hs3 ρ3, RS K B Hs3 H' σ' ρ3 ∧ Ex Hs1 Hs3 ∧ I (i + 1) ρ3, fun σ' H' ⟨Hs3, ρ3, r3, e3, i3⟩ => ⟨ds.length - (i + 1), by omega, rfl, hlt, Hs3, ρ3, r3, e3, i3⟩, fun x H3 y => ?_⟩
      obtain ⟨Hs3, g3, x3⟩ := go2 x H3 y
      obtain ⟨ρ2, hg, hx⟩ := hs i _ ρ1 (List.getElem?_eq_getElem hlt) hI
      refine hg B Hs3 H3 σ2 x (r2.grow g3) x3 _ fun Hs4 H4 σ4 g4 r4 => ?_
      have e4 : Ex Hs1 Hs4 := (e2.trans g3.sh).trans g4.sh
      exact hx.run r4 (fun Hs5 H5 σ5 ρ5 e5 r5 q => ⟨Hs5, ρ5, r5, e4.trans e5, q⟩) l.rt l.rf (fun Hs5 H5 σ5 ρ5 e5 r5 q => l.nx Hs5 H5 σ5 ρ5 r5 q) (fun Hs5 H5 σ5 ρ5 e5 r5 q => ⟨Hs5, ρ5, r5, e4.trans e5, q⟩) (fun Hs5 H5 σ5 ρ5 v d e5 r5 x q => l.ro Hs5 H5 σ5 ρ5 v d r5 x q) (fun Hs5 H5 σ5 ρ5 cls dd fs e5 r5 x q => l.ex Hs5 H5 σ5 ρ5 cls dd fs r5 x q) l.rn
    · have e : i = ds.length := by omega
      subst e
      exact .inl ⟨stop rfl, l.nx Hs2 H2 σ2 ρ1 r2 (hd ρ1 hI)⟩
theorem xs_while {tc : TT} {tb : TS} (I : Nat → Env → Prop) (m0 : Nat) (h0 : I m0 ρ)
    (hs : ∀ m ρ1, I m ρ1 → ∃ b, EvT K tc ρ1 b ∧ (b = true → ExS K tb ρ1 { R with nx := fun ρ2 => ∃ m', m' < m ∧ I m' ρ2, ct := fun ρ2 => ∃ m', m' < m ∧ I m' ρ2, bk := R.nx }) ∧ (b = false → R.nx ρ1)) : ExS K (tWhile tc tb) ρ R := fun B Hs H σ Dn r l => by
  refine ⟨fun m σ H => ∃ Hs2 ρ1, RS K B Hs2 H σ ρ1 ∧ I m ρ1, ⟨m0, Hs, ρ, r, h0⟩, ?_⟩
  rintro m σ2 H2 ⟨Hs2, ρ1, r2, hI⟩
  obtain ⟨b, hb, h1, h2⟩ := hs m ρ1 hI
  refine hb B Hs2 H2 σ2 r2 _ fun Hs3 H3 g3 => ?_
  cases b with
  | true =>
    refine ⟨fun σ' H' => ∃ m', m' < m ∧ ∃ Hs4 ρ4, RS K B Hs4 H' σ' ρ4 ∧ I m' ρ4, fun σ' H' ⟨m', hm, Hs4, ρ4, r4, i4⟩ => ⟨m', hm, Hs4, ρ4, r4, i4⟩, ?_⟩
    exact h1 rfl B Hs3 H3 σ2 _ (r2.grow g3) ⟨fun Hs4 H4 σ4 ρ4 r4 ⟨m', hm, q⟩ => ⟨m', hm, Hs4, ρ4, r4, q⟩, l.rt, l.rf, l.nx, fun Hs4 H4 σ4 ρ4 r4 ⟨m', hm, q⟩ => ⟨m', hm, Hs4, ρ4, r4, q⟩, l.ro, l.ex, l.rn⟩
  | false =>
    show Dn.nx σ2 H3
    exact l.nx Hs3 H3 σ2 ρ1 (r2.grow g3) (h2 rfl)

/-! ### comprehensions -/
def wD (ρ : Env) : List Nat → Env
  | [] => ρ
  | v :: vs => (wD ρ vs).set v none
theorem RS.forget {B : Base} {Hs H : Hp} {σ : St} (r : RS K B Hs H σ ρ) (i : Nat) (o : Option V) : RS K B Hs H (σ.set i o) (ρ.set i none) := by
  obtain ⟨R, h1, h2, h3, h4⟩ := r.reg
  refine ⟨r.gr, by rw [List.length_set, List.length_set, r.len], R, fun j sv e => ?_, h2, h3, fun j ds a e1 e0 e2 => ?_⟩
  rotate_left
  · by_cases q : j = i
    · subst q
      by_cases hl : j < ρ.length
      · rw [List.getElem?_set_self hl] at e1
        cases e1
      · rw [List.getElem?_eq_none (by rw [List.length_set]; omega)] at e1
        cases e1
    · rw [List.getElem?_set_ne (Ne.symm q)] at e1
      exact h4 j ds a e1 e0 e2
  by_cases q : j = i
  · subst q
    by_cases hl : j < ρ.length
    · rw [List.getElem?_set_self hl] at e
      cases e
    · rw [List.getElem?_eq_none (by rw [List.length_set]; omega)] at e
      cases e
  · rw [List.getElem?_set_ne (Ne.symm q)] at e ⊢
    exact h1 j sv e
theorem RS.wipe {B : Base} {Hs H : Hp} {σ : St} (r : RS K B Hs H σ ρ) : ∀ vs : List Nat, RS K B Hs H (wipe σ vs) (wD ρ vs)
  | [] => r
  | v :: vs => (RS.wipe r vs).forget v none
/-- a comprehension's target: the slots js, all of the block's own -/
def EvGc (K : PySem.W.Frag) (g : TG) (d : D) (ρ ρ' : Env) (vs : List Nat) : Prop := ∀ B Hs H σ x, RS K B Hs H σ ρ → Rep K Hs x d → ∀ Q : St → Hp → Prop, (∀ Hs' H' σ', Gr Hs H H Hs' H' → RS K B Hs' H' σ' ρ' → wipe σ' vs = wipe σ vs → Q σ' H') → g x σ H Q
def EvGsc (K : PySem.W.Frag) (g : TGs) (ds : List D) (ρ ρ' : Env) (vs : List Nat) : Prop := ∀ B Hs H σ xs, RS K B Hs H σ ρ → RepL K Hs xs ds → ∀ Q : St → Hp → Prop, (∀ Hs' H' σ', Gr Hs H H Hs' H' → RS K B Hs' H' σ' ρ' → wipe σ' vs = wipe σ vs → Q σ' H') → g xs σ H Q
theorem set_wipe : ∀ (vs : List Nat) (σ : St) (i : Nat) (x : Option V), i ∈ vs → wipe (σ.set i x) vs = wipe σ vs
  | [], _, _, _, h => by simp at h
  | v :: vs, σ, i, x, h => by
    show (wipe (σ.set i x) vs).set v none = (wipe σ vs).set v none
    by_cases hi : i ∈ vs
    · rw [set_wipe vs σ i x hi]
    · have e : i = v := by
        rcases List.mem_cons.mp h with q | q
        · exact q
        · exact absurd q hi
      subst e
      have key : ∀ (ws : List Nat), i ∉ ws → wipe (σ.set i x) ws = (wipe σ ws).set i x := by
        intro ws
        induction ws with
        | nil => intro _; rfl
        | cons w ws ih =>
          intro hw
          have h1 : w ≠ i := fun q => hw (by rw [q]; exact List.mem_cons_self)
          show (wipe (σ.set i x) ws).set w none = ((wipe σ ws).set w none).set i x
          rw [ih fun q => hw (List.mem_cons_of_mem _ q), List.set_comm _ _ h1]
      rw [key vs hi, List.set_set]
theorem egc_name {i : Nat} {vs : List Nat} (h : i ∈ vs) : EvGc K (gName i) d ρ (ρ.set i (some (.sh d))) vs := fun B Hs H σ x r hx Q q => q Hs H _ (Gr.refl r.ex) (r.set i hx) (set_wipe vs σ i _ h)
theorem egsc_nil {vs : List Nat} : EvGsc K gNil [] ρ ρ vs := fun B Hs H σ xs r h Q q => by
  cases h
  exact ⟨rfl, q Hs H σ (Gr.refl r.ex) r rfl⟩
theorem egsc_cons {g : TG} {gs : TGs} {ρ2 : Env} {vs : List Nat} (h1 : EvGc K g d ρ ρ' vs) (h2 : EvGsc K gs ds ρ' ρ2 vs) : EvGsc K (gCons g gs) (d :: ds) ρ ρ2 vs := fun B Hs H σ xs r h Q q => by
  cases h with
  | @cons v ws _ _ a b =>
    refine ⟨v, ws, rfl, h1 B Hs H σ v r a _ fun Hs1 H1 σ1 g1 r1 w1 => ?_⟩
    exact h2 B Hs1 H1 σ1 ws r1 (b.mono g1.sh) _ fun Hs2 H2 σ2 g2 r2 w2 => q Hs2 H2 σ2 (g1.trans g2) r2 (w2.trans w1)
theorem egc_tup {gs : TGs} {n : Nat} {vs : List Nat} (h : EvGsc K gs ds ρ ρ' vs) (hn : ds.length = n) : EvGc K (gTup K n gs) (.tup ds) ρ ρ' vs := fun B Hs H σ x r hx Q q => by
  cases hx with
  | @tup p ws _ hp' xs =>
    have hp := SqT_of (K := K) hp'
    exact ⟨p, ws, rfl, r.ex.st hp, by rw [xs.length]; exact hn, h B Hs H σ ws r xs Q q⟩
theorem Gr.mut {Hs H Hs' H' : Hp} {p : Addr} {o : HO} (g : Gr Hs H H Hs' H') (n : H p = none) (ns : Hs' p = none) : Gr Hs H H Hs' (upd H' p o) := by
  refine ⟨fun a u e => ?_, g.sh, fun a u e => ?_, g.nw, fun a x => ?_⟩
  · rw [upd_ne (ne_of_none e n)]
    exact g.fr a u e
  · rw [upd_ne (ne_of_none e ns)]
    exact g.lv a u e
  · by_cases q : a = p
    · rw [q, upd_same]
      exact fun z => nomatch z
    · rw [upd_ne q]
      exact g.dm a x
theorem take_more {α : Type} : ∀ {l : List α} {i : Nat} {x : α}, l[i]? = some x → l.take (i + 1) = l.take i ++ [x]
  | [], i, x, h => by simp at h
  | a :: l, 0, x, h => by
    have e := Option.some.inj h
    subst e
    rfl
  | a :: l, i + 1, x, h => by
    have ih := take_more (l := l) (i := i) (x := x) h
    show a :: l.take (i + 1) = a :: l.take i ++ [x]
    rw [ih]
    rfl
theorem wipe_wipe (σ : St) : ∀ vs : List Nat, wipe (wipe σ vs) vs = wipe σ vs := by
  have key : ∀ (vs ws : List Nat) (σ : St), (∀ v ∈ vs, v ∈ ws) → wipe (wipe σ vs) ws = wipe σ ws := by
    intro vs
    induction vs with
    | nil => intro ws σ _; rfl
    | cons v vs ih =>
      intro ws σ h
      show wipe ((wipe σ vs).set v none) ws = wipe σ ws
      rw [set_wipe ws _ v none (h v List.mem_cons_self)]
      exact ih ws σ fun u hu => h u (List.mem_cons_of_mem _ hu)
  exact fun vs => key vs vs σ fun _ h => h
theorem ef_lc {α : Type} (xs : List α) (enc : α → D) (f : α → Bool) (w : α → D) {wi : TI} {g : TG} {vs : List Nat} (hx : xs.map enc = ds) (h : EvI K wi ρ ds) (hz : xs.length ≤ 50000)
    (hs : ∀ (k : Nat) (x : α), xs[k]? = some x → ∃ ρ2, EvGc K g (enc x) (wD ρ vs) ρ2 vs ∧ EvT K tt ρ2 (f x) ∧ (f x = true → EvD K te ρ2 (w x))) :
    EvF K (tLc wi g tt te vs) ρ ((xs.filter f).map w) := fun B Hs H σ r Q q => h B Hs H σ r _ fun J Hs1 H1 g1 it p hp => by
  obtain ⟨n1, n2⟩ := gr_none g1 hp
  have r1 := r.grow g1
  have len : ds.length = xs.length := by rw [← hx, List.length_map]
  have zl : ∀ i, ((xs.take i).filter f).length < 100000 := fun i => by
    have h1 := List.length_filter_le f (xs.take i)
    have h2 : (xs.take i).length ≤ xs.length := by rw [List.length_take]; exact Nat.min_le_right _ _
    omega
  refine ⟨fun i m H => m = xs.length - i ∧ i ≤ xs.length ∧ ∃ Hs2 ws, Gr Hs1 H1 H1 Hs2 H ∧ Hs2 p = none ∧ H p = some (.lst ws) ∧ RepL K Hs2 ws (((xs.take i).filter f).map w),
    ⟨xs.length, rfl, Nat.zero_le _, Hs1, [], Gr.newO g1.lv hp, n2, upd_same, .nil⟩, ?_⟩
  rintro i m H2 ⟨rfl, hi, Hs2, ws, g2, e2, e3, x2⟩
  have r2 := r1.grow g2
  obtain ⟨go, stop⟩ := it i Hs2 H2 g2.sh g2.lv
  by_cases hlt : i < xs.length
  · have gx : xs[i]? = some xs[i] := List.getElem?_eq_getElem hlt
    have gd : ds[i]? = some (enc xs[i]) := by rw [← hx, List.getElem?_map, gx]; rfl
    obtain ⟨go1, go2⟩ := go _ gd
    refine .inr ⟨go1, fun H' => ∃ Hs3 ws, Gr Hs1 H1 H1 Hs3 H' ∧ Hs3 p = none ∧ H' p = some (.lst ws) ∧ RepL K Hs3 ws (((xs.take (i + 1)).filter f).map w), fun H' q' => ⟨xs.length - (i + 1), by omega, rfl, hlt, q'⟩, fun x H3 y => ?_⟩
    obtain ⟨Hs3, g3, x3⟩ := go2 x H3 y
    obtain ⟨ρ2, hg, ht, he⟩ := hs i _ gx
    refine hg B Hs3 H3 _ x ((r2.grow g3).wipe vs) x3 _ fun Hs4 H4 σ4 g4 r4 w4 => ?_
    refine ⟨by rw [w4]; exact wipe_wipe σ vs, ht B Hs4 H4 σ4 r4 _ fun Hs5 H5 g5 => ?_⟩
    have g25 : Gr Hs2 H2 H2 Hs5 H5 := (g3.trans g4).trans g5
    have p5 : H5 p = some (.lst ws) := g25.fr p _ e3
    have n5 : Hs5 p = none := by rw [g25.nw p (by rw [e3]; exact fun z => nomatch z)]; exact e2
    cases hf : f xs[i] with
    | true =>
      show te σ4 H5 fun y H6 => ∃ acc, H6 p = some (.lst acc) ∧ acc.length < sizeLine ∧ ∃ Hs3 ws, Gr Hs1 H1 H1 Hs3 (upd H6 p (.lst (acc ++ [y]))) ∧ Hs3 p = none ∧ (upd H6 p (.lst (acc ++ [y]))) p = some (.lst ws) ∧ RepL K Hs3 ws (((xs.take (i + 1)).filter f).map w)
      refine he hf B Hs5 H5 σ4 (r4.grow g5) _ fun Hs6 H6 y g6 x6 => ?_
      have n6 : Hs6 p = none := by rw [g6.nw p (by rw [p5]; exact fun z => nomatch z)]; exact n5
      refine ⟨ws, g6.fr p _ p5, by rw [x2.length, List.length_map]; exact sz_lt (zl i), Hs6, ws ++ [y], ((g2.trans g25).trans g6).mut hp n6, n6, upd_same, ?_⟩
      rw [take_more gx, List.filter_append, List.map_append]
      have e1 : List.filter f [xs[i]] = [xs[i]] := by simp [hf]
      rw [e1]
      exact (x2.mono (g25.sh.trans g6.sh)).append (.cons x6 .nil)
    | false =>
      refine ⟨Hs5, ws, g2.trans g25, n5, p5, ?_⟩
      rw [take_more gx, List.filter_append, List.map_append]
      have e1 : List.filter f [xs[i]] = [] := by simp [hf]
      rw [e1, List.map_nil, List.append_nil]
      exact x2.mono g25.sh
  · have e : i = xs.length := by omega
    subst e
    refine .inl ⟨stop len.symm, ?_⟩
    rw [List.take_length] at x2
    have g12 := g1.trans g2
    exact q Hs2 H2 p ws g12 n1 e2 e3 x2
/-- .. without tests -/
theorem ef_lc0 {α : Type} (xs : List α) (enc : α → D) (w : α → D) {wi : TI} {g : TG} {vs : List Nat} (hx : xs.map enc = ds) (h : EvI K wi ρ ds) (hz : xs.length ≤ 50000)
    (hs : ∀ (k : Nat) (x : α), xs[k]? = some x → ∃ ρ2, EvGc K g (enc x) (wD ρ vs) ρ2 vs ∧ EvD K te ρ2 (w x)) : EvF K (tLc wi g tYes te vs) ρ (xs.map w) := by
  have h2 := ef_lc (te := te) (tt := tYes) xs enc (fun _ => true) w hx h hz fun k x hk => by
    obtain ⟨ρ2, h1, h2⟩ := hs k x hk
    exact ⟨ρ2, h1, et_yes, fun _ => h2⟩
  have e : xs.filter (fun _ => true) = xs := List.filter_eq_self.mpr fun _ _ => rfl
  rw [e] at h2
  exact h2
theorem EvI.is {wi : TI} (h : EvI K wi ρ ds) (q : ds = es) : EvI K wi ρ es := q ▸ h
end
end DL

/-! DCall: what a def promises on deep data; calls; frozen lists. -/
namespace DL
open PySem L2
open PyProof.Rows (envOfC)

/-- called with arg x, where pre x: gives something of post x, all that stood stands -/
def spR (K : PySem.W.Frag) {α : Type} (pre : α → Prop) (arg : α → List D) (post : α → D → Prop) : Sp := fun vs H Q _ => ∃ (Hs : Hp) (x : α), Ex Hs H ∧ RepL K Hs vs (arg x) ∧ pre x ∧
  ∀ Hs' H' v d, Gr Hs H H Hs' H' → Rep K Hs' v d → post x d → Q v H'
abbrev spG (K : PySem.W.Frag) {α : Type} (pre : α → Prop) (arg : α → List D) (res : α → D) : Sp := spR K pre arg fun x d => d = res x
/-- .. gives a new list -/
def spF (K : PySem.W.Frag) {α : Type} (pre : α → Prop) (arg : α → List D) (res : α → List D) : Sp := fun vs H Q _ => ∃ (Hs : Hp) (x : α), Ex Hs H ∧ RepL K Hs vs (arg x) ∧ pre x ∧
  ∀ Hs' H' p ws, Gr Hs H H Hs' H' → H p = none → Hs' p = none → H' p = some (.lst ws) → RepL K Hs' ws (res x) → Q (.ref p) H'
/-- a frame at its entry -/
def entry (N : List Str) (ds : List D) : Env := ds.map (fun d => some (.sh d)) ++ List.replicate (N.length - ds.length) none

section
variable {K : PySem.W.Frag} {ρ ρ' : Env} {te ta tb : TE} {d e : D} {ds es : List D} {tt : TT} {R : DEnds}
theorem rs_entry {N : List Str} {vs : List V} {Hs H : Hp} (e : Ex Hs H) (x : RepL K Hs vs ds) (hN : ds.length ≤ N.length) : RS K ⟨Hs, H, H⟩ Hs H (L2.start N vs) (entry N ds) := by
  have hl := x.length
  refine ⟨Gr.refl e, ?_, fun _ _ => none, fun i sv h => ?_, fun i a o h => (nomatch h), fun i j a h => absurd rfl h, fun i ds a _ _ h => absurd rfl h⟩
  · unfold L2.start entry
    rw [List.length_append, List.length_append, List.length_map, List.length_map, List.length_replicate, List.length_replicate, hl]
  · unfold entry at h
    by_cases hi : i < ds.length
    · rw [List.getElem?_append_left (by simpa using hi), List.getElem?_map, List.getElem?_eq_getElem hi] at h
      cases h
      obtain ⟨v, hv, xv⟩ := x.at (List.getElem?_eq_getElem hi)
      refine ⟨v, ?_, xv, fun _ => rfl⟩
      unfold L2.start
      rw [List.getElem?_append_left (by rw [List.length_map, hl]; exact hi), List.getElem?_map, hv]
      rfl
    · rw [List.getElem?_append_right (by rw [List.length_map]; omega), List.getElem?_replicate] at h
      split at h <;> cases h
variable {P : Program} {w : World} {mg : Str → Option Value} {base : Heap} {x qual : Str} {st : Stmt} {f : Addr} {fd : FuncData} {N ps : List Str} {k : Nat} {α : Type} {pre : α → Prop} {arg : α → List D}
theorem fn_r {post : α → D → Prop} (F : Fun K x qual st f fd) (S : FnScope N ps (defScope st)) (hl : ∀ x, (arg x).length = ps.length) {t : TS}
    (hb : ∀ (cdv : Value) (A : Around) (outer : List PySem.Env) (s : Shared) (H : Hp) (E : XK), Room k (A.deeper (envOfC qual (defScope st) s.heap.objs.size f cdv)) → PSs (cxOf CX0 P w K mg base N qual (defScope st) f cdv A outer s H E).nox (defBody st) t)
    (hd : ∀ x, pre x → ExS K t (entry N (arg x)) { nx := fun _ => post x .non, rt := post x }) : FnOk P w K mg base CX0 (k + 1) f fd ps (spR K pre arg post) := by
  have hN : ps.length ≤ N.length := by have := congrArg List.length S.pre; rw [List.length_take] at this; omega
  refine F.ok S (fun vs H Q E h => ?_) (fun cdv A outer s H vs Q E hr h => ?_)
  · obtain ⟨Hs, x, _, r, _⟩ := h
    rw [r.length, hl]
  · obtain ⟨Hs, x, e, r, hp, q⟩ := h
    refine ⟨t, hb cdv A outer s H E hr, ?_⟩
    exact hd x hp ⟨Hs, H, H⟩ Hs H (L2.start N vs) _ (rs_entry e r (by rw [hl]; exact hN))
      ⟨fun Hs' H' σ ρ r' z => q Hs' H' .non .non r'.gr .non z, fun Hs' H' v d g x z => q Hs' H' v d g x z, fun _ _ _ _ _ _ _ _ _ _ z => z.elim, fun _ _ _ _ _ z => z.elim, fun _ _ _ _ _ z => z.elim, fun _ _ _ _ _ _ _ _ z => z.elim, fun _ _ _ _ _ _ _ _ _ z => z.elim, fun _ _ _ _ _ _ _ _ z => z.elim⟩
theorem fn_f {res : α → List D} (F : Fun K x qual st f fd) (S : FnScope N ps (defScope st)) (hl : ∀ x, (arg x).length = ps.length) {t : TS}
    (hb : ∀ (cdv : Value) (A : Around) (outer : List PySem.Env) (s : Shared) (H : Hp) (E : XK), Room k (A.deeper (envOfC qual (defScope st) s.heap.objs.size f cdv)) → PSs (cxOf CX0 P w K mg base N qual (defScope st) f cdv A outer s H E).nox (defBody st) t)
    (hd : ∀ x, pre x → ExS K t (entry N (arg x)) { nx := fun _ => False, rt := fun _ => False, rf := fun ds => ds = res x }) : FnOk P w K mg base CX0 (k + 1) f fd ps (spF K pre arg res) := by
  have hN : ps.length ≤ N.length := by have := congrArg List.length S.pre; rw [List.length_take] at this; omega
  refine F.ok S (fun vs H Q E h => ?_) (fun cdv A outer s H vs Q E hr h => ?_)
  · obtain ⟨Hs, x, _, r, _⟩ := h
    rw [r.length, hl]
  · obtain ⟨Hs, x, e, r, hp, q⟩ := h
    refine ⟨t, hb cdv A outer s H E hr, ?_⟩
    exact hd x hp ⟨Hs, H, H⟩ Hs H (L2.start N vs) _ (rs_entry e r (by rw [hl]; exact hN))
      ⟨fun Hs' H' σ ρ r' z => z.elim, fun Hs' H' v d g x z => z.elim, fun Hs' H' p ws ds g n ns e x z => q Hs' H' p ws g n ns e (z ▸ x), fun _ _ _ _ _ z => z.elim, fun _ _ _ _ _ z => z.elim, fun _ _ _ _ _ _ _ _ z => z.elim, fun _ _ _ _ _ _ _ _ _ z => z.elim, fun _ _ _ _ _ _ _ _ z => z.elim⟩

/-! ### calls -/
theorem ev_call {res : α → D} {E : XK} {ta : TA} (x : α) (h : EvA K ta ρ (arg x)) (p : pre x) : EvD K (tCall (spG K pre arg res) [] E ta) ρ (res x) := fun B Hs H σ r Q q =>
  h B Hs H σ r _ fun Hs1 H1 vs g1 xs => by
    rw [List.append_nil]
    exact ⟨Hs1, x, g1.lv, xs, p, fun Hs' H' v d g y e => q Hs' H' v (g1.trans g) (e ▸ y)⟩
theorem ef_call {res : α → List D} {E : XK} {ta : TA} (x : α) (h : EvA K ta ρ (arg x)) (p : pre x) : EvF K (tCall (spF K pre arg res) [] E ta) ρ (res x) := fun B Hs H σ r Q q =>
  h B Hs H σ r _ fun Hs1 H1 vs g1 xs => by
    rw [List.append_nil]
    refine ⟨Hs1, x, g1.lv, xs, p, fun Hs' H' l ws g n ns e y => q Hs' H' l ws (g1.trans g) ?_ ns e y⟩
    cases z : H l with
    | none => rfl
    | some o =>
      rw [g1.fr l o z] at n
      cases n

/-! ### own lists, frozen for a while, or for good -/
theorem RS.temp {B : Base} {Hs H : Hp} {σ : St} (r : RS K B Hs H σ ρ) : RS K ⟨Hs, fun _ => none, fun _ => none⟩ Hs H σ ρ := by
  obtain ⟨R, h1, h2, h3, h4⟩ := r.reg
  exact ⟨⟨fun _ _ z => (nomatch z), Ex.refl Hs, r.ex, fun _ z => absurd rfl z, fun _ z => absurd rfl z⟩, r.len, R, h1, fun i a o e => ⟨(h2 i a o e).1, (h2 i a o e).2.1, rfl⟩, h3, fun _ _ _ _ _ _ => rfl⟩
theorem gr_thaw {Hs Hs2 H Hs' H' : Hp} (e : Ex Hs Hs2) (g : Gr Hs2 H H Hs' H') : Gr Hs H H Hs H' := ⟨g.fr, Ex.refl Hs, (e.trans g.sh).trans g.lv, fun _ _ => rfl, g.dm⟩
/-- an own list at slot i is read as shared, what comes is a scalar -/
theorem EvD.thaw (i : Nat) (hi : ρ[i]? = some (some (.ol ds))) (h : EvD K te (ρ.set i (some (.sh (.lst ds)))) d) (hd : d.scal = true) : EvD K te ρ d := fun B Hs H σ r Q q => by
  obtain ⟨Hs2, e1, e2, r2⟩ := r.temp.fz i hi
  exact h _ Hs2 H σ r2 Q fun Hs' H' v g x => q Hs H' v (gr_thaw e1 g) (x.scal hd)
theorem EvF.thaw (i : Nat) (hi : ρ[i]? = some (some (.ol ds))) (h : EvF K te (ρ.set i (some (.sh (.lst ds)))) es) (hd : es.all D.scal = true) : EvF K te ρ es := fun B Hs H σ r Q q => by
  obtain ⟨Hs2, e1, e2, r2⟩ := r.temp.fz i hi
  refine h _ Hs2 H σ r2 Q fun Hs' H' p vs g n ns e x => q Hs H' p vs (gr_thaw e1 g) n ?_ e (x.scal hd)
  cases z : Hs p with
  | none => rfl
  | some o =>
    rw [r.ex p o z] at n
    cases n
theorem EvT.thaw (i : Nat) {b : Bool} (hi : ρ[i]? = some (some (.ol ds))) (h : EvT K tt (ρ.set i (some (.sh (.lst ds)))) b) : EvT K tt ρ b := fun B Hs H σ r Q q => by
  obtain ⟨Hs2, e1, e2, r2⟩ := r.temp.fz i hi
  exact h _ Hs2 H σ r2 Q fun Hs' H' g => q Hs H' (gr_thaw e1 g)
/-- for good -/
theorem xs_fz {ts : TS} (i : Nat) (hi : ρ[i]? = some (some (.ol ds))) (h : ExS K ts (ρ.set i (some (.sh (.lst ds)))) R) : ExS K ts ρ R := fun B Hs H σ Dn r l => by
  obtain ⟨Hs2, e1, e2, r2⟩ := r.fz i hi
  exact h B Hs2 H σ Dn r2 l
end
end DL

/-! DOps: one rule an operator, whatever the kinds; which kind it is, is told on deep data. -/
namespace DL
open PySem L2

section
variable {X : Cx}
/-! ### the rules -/
def rAddS0 : R2 := fun x y H Q => ∃ i j, x = .str i ∧ y = .str j ∧ i.length + j.length ≤ sizeLine ∧ Q (.str (i ++ j)) H
abbrev rAddI : R2 := rI0 fun i j => .int (i + j)
def rAddA (K : PySem.W.Frag) : R2 := fun x y H Q => rAddI x y H Q ∨ rCat x y H Q ∨ rCatA K x y H Q ∨ rAddS0 x y H Q
theorem op_addA : OpR X (binaryOp .Add) (rAddA X.K) := op_add.or (op_cat.or (op_catA.or op_add_str))
def CMulX (i j : Int) : Prop := CMulW i j ∨ CMul i j
abbrev rMulI : R2 := rI CMulX fun i j => .int (i * j)
theorem op_mulX : OpR X (binaryOp .Mult) rMulI := by
  intro pins s σ H x y v u Q I rx ry h
  obtain ⟨i, j, rfl, rfl, hc, q⟩ := h
  rcases hc with hc | hc
  · exact op_mulW pins s σ H _ _ v u Q I rx ry ⟨i, j, rfl, rfl, hc, q⟩
  · exact op_mul pins s σ H _ _ v u Q I rx ry ⟨i, j, rfl, rfl, hc, q⟩
def rMulA : R2 := fun x y H Q => rMulI x y H Q ∨ rRep x y H Q
theorem op_mulA : OpR X (binaryOp .Mult) rMulA := op_mulX.or op_rep
abbrev rDivW : R2 := rI CDivW fun i j => .int (i / j)
abbrev rModI : R2 := rI (fun _ j => 0 < j) fun i j => .int (i % j)
abbrev rSubI : R2 := rI0 fun i j => .int (i - j)
abbrev rPowI : R2 := rI CPow fun i j => .int (i ^ j.toNat)
abbrev rShrI : R2 := rI (fun _ j => 0 ≤ j) fun i j => .int (i / 2 ^ j.toNat)
abbrev rAndI : R2 := rI0 fun i j => .int (Builtin.bitAnd i j)
def rSlA' (K : PySem.W.Frag) : V → Option Int → Option Int → Hp → VK → Prop := fun x lo hi H Q => rSlL K x lo hi H Q ∨ rSlA K x lo hi H Q
theorem sl_A : SlR X (rSlA' X.K) := sl_list.or sl_tupA
abbrev rLenA (K : PySem.W.Frag) : List V → Hp → VK → Prop := fun xs H Q => rLen K xs H Q ∨ rLenS xs H Q
theorem call_lenA : CallR X (.builtin "len") (rLenA X.K) := call_len_seq.or call_len_str
end

/-- 2 ^ n bounds, for products and divisors of great numbers -/
def Big (n : Nat) (i : Int) : Prop := i.natAbs < 2 ^ n
theorem mulW_l {i j : Int} (h1 : -18446744073709551616 < i) (h2 : i < 18446744073709551616) : CMulX i j := .inr (.inl ⟨by omega, by omega⟩)
theorem mulW_r {i j : Int} (h1 : -18446744073709551616 < j) (h2 : j < 18446744073709551616) : CMulX i j := .inr (.inr ⟨by omega, by omega⟩)
theorem mulW_s {i j : Int} (h1 : -18446744073709551616 < i) (h2 : i < 18446744073709551616) (h3 : -18446744073709551616 < j) (h4 : j < 18446744073709551616) : CMulX i j := mulW_l h1 h2
theorem divW_c {i j : Int} (h0 : 0 < j) (h1 : j < 18446744073709551616) : CDivW i j := by
  refine ⟨h0, ?_⟩
  by_cases z : j.natAbs = 0
  · rw [z]
    decide
  · have := (Nat.log2_lt z (k := 65)).mpr (by omega)
    omega

section
variable {K : PySem.W.Frag} {ρ ρ' : Env} {te ta tb : TE} {d e : D} {ds es : List D} {tt : TT} {R : DEnds}
theorem ev_addI {i j : Int} (ha : EvD K ta ρ (.int i)) (hb : EvD K tb ρ (.int j)) : EvD K (tOp (rAddA K) ta tb) ρ (.int (i + j)) := fun B Hs H σ r Q q =>
  ha B Hs H σ r _ fun Hs1 H1 x g1 x1 => hb B Hs1 H1 σ (r.grow g1) _ fun Hs2 H2 y g2 y2 => by
    cases x1
    cases y2
    exact .inl ⟨i, j, rfl, rfl, q Hs2 H2 _ (g1.trans g2) (.int _)⟩
theorem ef_addL (ha : EvM K ta ρ ds) (hb : EvM K tb ρ es) (hl : ds.length + es.length ≤ 100000) : EvF K (tOp (rAddA K) ta tb) ρ (ds ++ es) := fun B Hs H σ r Q q =>
  ha B Hs H σ r _ fun Hs1 H1 p vs g1 hp xs => hb B Hs1 H1 σ (r.grow g1) _ fun Hs2 H2 p2 ws g2 hp2 ys => by
    have g := g1.trans g2
    refine .inr (.inl ⟨p, p2, vs, ws, rfl, rfl, g2.fr p _ hp, hp2, by rw [xs.length, ys.length]; exact sz_of hl, fun l hn => ?_⟩)
    obtain ⟨n1, n2⟩ := gr_none g hn
    exact q Hs2 _ l _ (g.trans (Gr.newO g2.lv hn)) n1 n2 upd_same ((xs.mono g2.sh).append ys)
theorem ev_mulI {i j : Int} (ha : EvD K ta ρ (.int i)) (hb : EvD K tb ρ (.int j)) (hc : CMulX i j) : EvD K (tOp rMulA ta tb) ρ (.int (i * j)) := fun B Hs H σ r Q q =>
  ha B Hs H σ r _ fun Hs1 H1 x g1 x1 => hb B Hs1 H1 σ (r.grow g1) _ fun Hs2 H2 y g2 y2 => by
    cases x1
    cases y2
    exact .inl ⟨i, j, rfl, rfl, hc, q Hs2 H2 _ (g1.trans g2) (.int _)⟩
theorem ef_mulL {k : Int} (ha : EvM K ta ρ ds) (hb : EvD K tb ρ (.int k)) (hk : k ≤ 100000) (hk' : -100000 ≤ k) (hl : ds.length * k.toNat ≤ 100000) : EvF K (tOp rMulA ta tb) ρ (List.replicate k.toNat ds).flatten := fun B Hs H σ r Q q =>
  ha B Hs H σ r _ fun Hs1 H1 p vs g1 hp xs => hb B Hs1 H1 σ (r.grow g1) _ fun Hs2 H2 y g2 y2 => by
    cases y2
    have g := g1.trans g2
    refine .inr ⟨p, k, vs, rfl, rfl, g2.fr p _ hp, by omega, by omega, by rw [xs.length]; exact sz_of hl, fun l hn => ?_⟩
    obtain ⟨n1, n2⟩ := gr_none g hn
    exact q Hs2 _ l _ (g.trans (Gr.newO g2.lv hn)) n1 n2 upd_same ((xs.mono g2.sh).rep _)
theorem ef_slL {tl th : TO} {lo hi : Option Int} (ha : EvB K ta ρ ds) (hl : EvO K tl ρ lo) (hh : EvO K th ρ hi) : EvF K (tSl (rSlA' K) ta tl th) ρ (cutD ds lo hi) := fun B Hs H σ r Q q =>
  ha B Hs H σ r _ fun Hs1 H1 p vs g1 hp xs => hl B Hs1 H1 σ (r.grow g1) _ fun Hs2 H2 g2 => hh B Hs2 H2 σ ((r.grow g1).grow g2) _ fun Hs3 H3 g3 => by
    refine .inl ⟨p, vs, rfl, g3.fr.sl (g2.fr.sl hp), fun l hn => ?_⟩
    have g := (g1.trans g2).trans g3
    obtain ⟨n1, n2⟩ := gr_none g hn
    exact q Hs3 _ l _ (g.trans (Gr.newO g3.lv hn)) n1 n2 upd_same ((xs.mono (g2.sh.trans g3.sh)).cut lo hi)
theorem ev_lenLA (ha : EvB K ta ρ ds) : EvD K (tCB (rLenA K) (tCons ta tNil)) ρ (.int (ds.length : Int)) := fun B Hs H σ r Q q =>
  ha B Hs H σ r _ fun Hs1 H1 p vs g1 hp xs => .inl ⟨p, vs, rfl, .inl hp, by
    rw [xs.length]
    exact q Hs1 H1 _ g1 (.int _)⟩
theorem ev_lenTA (ha : EvD K ta ρ (.tup ds)) : EvD K (tCB (rLenA K) (tCons ta tNil)) ρ (.int (ds.length : Int)) := fun B Hs H σ r Q q =>
  ha B Hs H σ r _ fun Hs1 H1 v g1 x => by
    cases x with
    | @tup p vs _ hp' xs =>
      have hp := SqT_of (K := K) hp'
      refine .inl ⟨p, vs, rfl, .inr (g1.lv.st hp), ?_⟩
      rw [xs.length]
      exact q Hs1 H1 _ g1 (.int _)
theorem ev_lenSA {z : Str} (ha : EvD K ta ρ (.str z)) (hz : z.length ≤ sizeLine) : EvD K (tCB (rLenA K) (tCons ta tNil)) ρ (.int (z.length : Int)) := fun B Hs H σ r Q q =>
  ha B Hs H σ r _ fun Hs1 H1 v g1 x => by
    cases x
    exact .inr ⟨z, rfl, hz, q Hs1 H1 _ g1 (.int _)⟩
/-! ### isinstance of a built-in class -/
def D.tyn : D → String
  | .non => "NoneType" | .bl _ => "bool" | .int _ => "int" | .str _ => "str" | .lst _ => "list" | .scr _ => "list" | .tup _ => "tuple" | _ => ""
end
end DL
namespace DL
open PySem L2
section
variable {K : PySem.W.Frag} {ρ ρ' : Env} {te ta tb : TE} {d e : D} {ds es : List D} {tt : TT} {R : DEnds}
theorem Rep.tyx {H : Hp} {v : V} {d : D} (h : Rep K H v d) (hd : d.tyn ≠ "") : TyX K H v (.type d.tyn) := by
  cases h with
  | non => exact .base .non
  | bl b => exact .base (.bl b)
  | int i => exact .base (.int i)
  | str x => exact .base (.str x)
  | ty n => exact absurd rfl hd
  | fn a => exact absurd rfl hd
  | lst hs r => exact .base (.lst hs)
  | scr hs r =>
    rcases hs with (hs | ⟨o, hs⟩) | ⟨o, its, n, e, c, _⟩
    · exact .base (.lst hs)
    · exact .base (.frz hs)
    · exact .kList e c
  | tup hs r => exact .base (.tup hs)
  | obj _ _ => exact absurd rfl hd
theorem ev_isi {n : String} {b : Bool} (ha : EvR K ta ρ d) {t : String} (ht : d.tyn = t) (hk : kitB t n = some b) (hd : t ≠ "") : EvD K (tCB (rIsi K) (tCons ta (tCons (tC (.ty n)) tNil))) ρ (.bl b) := fun B Hs H σ r Q q =>
  ha B Hs H σ r _ fun Hs1 H1 v g x => ⟨v, .ty n, .type d.tyn, .type n, b, rfl, .ty n, x.tyx (by rw [ht]; exact hd), by rw [ht]; exact kit_ty hk, q Hs1 H1 _ g (.bl b)⟩
theorem isi_int_int {i : Int} (ha : EvR K ta ρ (.int i)) : EvD K (tCB (rIsi K) (tCons ta (tCons (tC (.ty "int")) tNil))) ρ (.bl true) := ev_isi ha (t := "int") rfl (by decide +kernel) (by decide +kernel)
theorem isi_int_bool {i : Int} (ha : EvR K ta ρ (.int i)) : EvD K (tCB (rIsi K) (tCons ta (tCons (tC (.ty "bool")) tNil))) ρ (.bl false) := ev_isi ha (t := "int") rfl (by decide +kernel) (by decide +kernel)
theorem isi_bool_bool {b : Bool} (ha : EvR K ta ρ (.bl b)) : EvD K (tCB (rIsi K) (tCons ta (tCons (tC (.ty "bool")) tNil))) ρ (.bl true) := ev_isi ha (t := "bool") rfl (by decide +kernel) (by decide +kernel)
theorem isi_bool_int {b : Bool} (ha : EvR K ta ρ (.bl b)) : EvD K (tCB (rIsi K) (tCons ta (tCons (tC (.ty "int")) tNil))) ρ (.bl true) := ev_isi ha (t := "bool") rfl (by decide +kernel) (by decide +kernel)
theorem isi_lst_list (ha : EvR K ta ρ (.lst ds)) : EvD K (tCB (rIsi K) (tCons ta (tCons (tC (.ty "list")) tNil))) ρ (.bl true) := ev_isi ha (t := "list") rfl (by decide +kernel) (by decide +kernel)
theorem isi_tup_tuple (ha : EvR K ta ρ (.tup ds)) : EvD K (tCB (rIsi K) (tCons ta (tCons (tC (.ty "tuple")) tNil))) ρ (.bl true) := ev_isi ha (t := "tuple") rfl (by decide +kernel) (by decide +kernel)
theorem isi_lst_tuple (ha : EvR K ta ρ (.lst ds)) : EvD K (tCB (rIsi K) (tCons ta (tCons (tC (.ty "tuple")) tNil))) ρ (.bl false) := ev_isi ha (t := "list") rfl (by decide +kernel) (by decide +kernel)
theorem isi_str_str {s : Str} (ha : EvR K ta ρ (.str s)) : EvD K (tCB (rIsi K) (tCons ta (tCons (tC (.ty "str")) tNil))) ρ (.bl true) := ev_isi ha (t := "str") rfl (by decide +kernel) (by decide +kernel)
/-- a place in a written list -/
theorem atI_lt {α : Type} {xs : List α} {i : Int} (h0 : 0 ≤ i) (h1 : i < (xs.length : Int)) : atI xs i = xs[i.toNat]? := by
  obtain ⟨n, rfl⟩ := Int.eq_ofNat_of_zero_le h0
  have hn : n < xs.length := by omega
  rw [show (Int.toNat ((n : Nat) : Int)) = n from rfl, List.getElem?_eq_getElem hn]
  exact atI_nat (List.getElem?_eq_getElem hn)
theorem atI_int {xs : List Int} {i : Int} (h0 : 0 ≤ i) (h1 : i < (xs.length : Int)) : atI (xs.map D.int) i = some (.int (xs.getD i.toNat 0)) := by
  rw [atI_lt h0 (by rw [List.length_map]; exact h1), List.getElem?_map]
  have hn : i.toNat < xs.length := by omega
  rw [List.getElem?_eq_getElem hn, List.getD_eq_getElem?_getD, List.getElem?_eq_getElem hn]
  rfl
theorem cutD_map {α : Type} (f : α → D) (xs : List α) (lo hi : Option Int) : cutD (xs.map f) lo hi = (((xs.drop (HT.sIx xs.length 0 lo)).take (HT.sIx xs.length xs.length hi - HT.sIx xs.length 0 lo))).map f := by
  unfold cutD
  rw [List.length_map, List.map_take, List.map_drop]
theorem sIx_pos (n d k : Nat) : HT.sIx n d (some (k : Int)) = min k n := HT.sIx_nat n d k
theorem cut_to {α : Type} (xs : List α) (k : Nat) : (xs.drop (HT.sIx xs.length 0 none)).take (HT.sIx xs.length xs.length (some (k : Int)) - HT.sIx xs.length 0 none) = xs.take k := by
  rw [HT.sIx_none, HT.sIx_nat, List.drop_zero, Nat.sub_zero]
  by_cases h : k ≤ xs.length
  · rw [Nat.min_eq_left h]
  · rw [Nat.min_eq_right (by omega), List.take_length, List.take_of_length_le (by omega)]
theorem cut_from {α : Type} (xs : List α) (k : Nat) : (xs.drop (HT.sIx xs.length 0 (some (k : Int)))).take (HT.sIx xs.length xs.length none - HT.sIx xs.length 0 (some (k : Int))) = xs.drop k := by
  rw [HT.sIx_none, HT.sIx_nat]
  by_cases h : k ≤ xs.length
  · rw [Nat.min_eq_left h]
    exact List.take_of_length_le (by rw [List.length_drop]; omega)
  · rw [Nat.min_eq_right (by omega), Nat.sub_self, List.take_zero, List.drop_eq_nil_of_le (by omega)]
theorem cut_mid {α : Type} (xs : List α) (i j : Nat) : (xs.drop (HT.sIx xs.length 0 (some (i : Int)))).take (HT.sIx xs.length xs.length (some (j : Int)) - HT.sIx xs.length 0 (some (i : Int))) = (xs.take j).drop i := by
  rw [HT.sIx_nat, HT.sIx_nat, List.drop_take]
  by_cases h : i ≤ xs.length
  · rw [Nat.min_eq_left h]
    by_cases h2 : j ≤ xs.length
    · rw [Nat.min_eq_left h2]
    · rw [Nat.min_eq_right (by omega)]
      rw [List.take_of_length_le (by rw [List.length_drop]; omega), List.take_of_length_le (by rw [List.length_drop]; omega)]
  · rw [Nat.min_eq_right (show xs.length ≤ i by omega), List.drop_eq_nil_of_le (Nat.le_refl _), List.drop_eq_nil_of_le (show xs.length ≤ i by omega)]
    simp
end
/-! ### what is walked: a list or a tuple -/
section
variable {X : Cx} {tg : Expr}
def iSeq (K : PySem.W.Frag) (tl : TE) : TI := fun σ H R => tl σ H fun x H1 => ∃ a, x = .ref a ∧ (((∃ xs, SqL K H1 a xs) ∧ R (Itl K a) H1) ∨ ((∃ xs, SqT K H1 a xs) ∧ R (Itt K a) H1))
theorem pi_seq {l : Expr} {tl : TE} (hl : PE X l tl) : PI X tg l (iSeq X.K tl) := by
  refine ⟨fun pins s σ H R I h => ?_⟩
  refine thn (hl.run pins s σ H _ I h) fun v s1 ⟨x, H1, I1, r1, q1⟩ => ?_
  obtain ⟨a, e, q⟩ := q1
  subst e
  cases r1
  rcases q with ⟨⟨xs, hq⟩, q⟩ | ⟨⟨xs, hq⟩, q⟩
  · obtain ⟨its, rv, p, hz⟩ := I1.list hq
    refine wpAny_pyIter_list p.isList ?_
    refine ⟨s1.heap.objs.size, [s1.heap.objs.size], _, _, H1, rfl, I1.kept (t' := s1.toks) fun b o e => Heap.get?_push_of_some _ e, turn_list a _, ⟨_, Heap.get?_push_size _ rfl, rfl, rfl⟩, fun b hb => ?_, q⟩
    have e : b = s1.heap.objs.size := by simpa using hb
    subst e
    exact I1.fpOk (Nat.le_refl _) (I1.hok.fresh (Nat.le_refl _))
  · obtain ⟨its, rv, p, hz⟩ := I1.tuple hq
    refine wpAny_pyIter_tuple (show s1.heap.IsTuple a its.toArray from p) ?_
    refine ⟨s1.heap.objs.size, [s1.heap.objs.size], _, _, H1, rfl, I1.kept (t' := s1.toks) fun b o e => Heap.get?_push_of_some _ e, turn_tuple a _, ⟨_, Heap.get?_push_size _ rfl, rfl, rfl⟩, fun b hb => ?_, q⟩
    have e : b = s1.heap.objs.size := by simpa using hb
    subst e
    exact I1.fpOk (Nat.le_refl _) (I1.hok.fresh (Nat.le_refl _))
variable {K : PySem.W.Frag} {ρ : Env} {ta : TE} {ds : List D}
theorem ei_seqL (h : EvD K ta ρ (.lst ds)) : EvI K (iSeq K ta) ρ ds := fun B Hs H σ r R q => h B Hs H σ r _ fun Hs1 H1 v g x => by
  cases x with
  | @lst p vs _ hp' xs =>
    have hp : SqL K Hs1 p vs := .of hp'
    refine ⟨p, rfl, .inl ⟨⟨vs, g.lv.sl hp⟩, q _ Hs1 H1 g fun i Hs2 H2 e1 e2 => ⟨fun d hd => ?_, fun hi => ?_⟩⟩⟩
    · have hq := (e1.trans e2).sl hp
      obtain ⟨v, hv, xv⟩ := xs.at hd
      refine ⟨⟨vs, v, hq, hv⟩, fun x H3 y => ?_⟩
      obtain ⟨rfl, y⟩ := y
      have z := y vs hq
      rw [hv] at z
      cases z
      exact ⟨Hs2, Gr.refl e2, xv.mono e1⟩
    · exact ⟨vs, (e1.trans e2).sl hp, by rw [xs.length, hi]; exact Nat.le_refl _⟩
theorem ei_seqS (h : EvD K ta ρ (.scr ds)) : EvI K (iSeq K ta) ρ ds := fun B Hs H σ r R q => h B Hs H σ r _ fun Hs1 H1 v g x => by
  cases x with
  | @scr p vs _ hp xs =>
    refine ⟨p, rfl, .inl ⟨⟨vs, g.lv.sl hp⟩, q _ Hs1 H1 g fun i Hs2 H2 e1 e2 => ⟨fun d hd => ?_, fun hi => ?_⟩⟩⟩
    · have hq := (e1.trans e2).sl hp
      obtain ⟨v, hv, xv⟩ := xs.at hd
      refine ⟨⟨vs, v, hq, hv⟩, fun x H3 y => ?_⟩
      obtain ⟨rfl, y⟩ := y
      have z := y vs hq
      rw [hv] at z
      cases z
      exact ⟨Hs2, Gr.refl e2, xv.mono e1⟩
    · exact ⟨vs, (e1.trans e2).sl hp, by rw [xs.length, hi]; exact Nat.le_refl _⟩
theorem ei_seqT (h : EvD K ta ρ (.tup ds)) : EvI K (iSeq K ta) ρ ds := fun B Hs H σ r R q => h B Hs H σ r _ fun Hs1 H1 v g x => by
  cases x with
  | @tup p vs _ hp' xs =>
    have hp := SqT_of (K := K) hp'
    refine ⟨p, rfl, .inr ⟨⟨vs, g.lv.st hp⟩, q _ Hs1 H1 g fun i Hs2 H2 e1 e2 => ⟨fun d hd => ?_, fun hi => ?_⟩⟩⟩
    · have hq := (e1.trans e2).st hp
      obtain ⟨v, hv, xv⟩ := xs.at hd
      refine ⟨⟨vs, v, hq, hv⟩, fun x H3 y => ?_⟩
      obtain ⟨rfl, y⟩ := y
      have z := y vs hq
      rw [hv] at z
      cases z
      exact ⟨Hs2, Gr.refl e2, xv.mono e1⟩
    · exact ⟨vs, (e1.trans e2).st hp, by rw [xs.length, hi]; exact Nat.le_refl _⟩
end
end DL
namespace DL
open PySem L2
/-! ### the rules whose reading names the written part, with that part given by hand (K := K) rfl -/
section
variable {X : Cx} {K : PySem.W.Frag} {tg : Expr}
theorem addK (h : X.K = K) : OpR X (binaryOp .Add) (rAddA K) := by subst h; exact op_addA
theorem eqK (h : X.K = K) (hu : X.A.units + 64 < cLine) : OpR X (compareOp .Eq) (rEqD K) := by subst h; exact op_eqD hu
theorem neK (h : X.K = K) (hu : X.A.units + 64 < cLine) : OpR X (compareOp .NotEq) (rNeD K) := by subst h; exact op_neD hu
theorem ixK (h : X.K = K) : IxR X (rIx K) := by subst h; exact ix_seq
theorem slK (h : X.K = K) : SlR X (rSlA' K) := by subst h; exact sl_A
theorem lenK (h : X.K = K) : CallR X (.builtin "len") (rLenA K) := by subst h; exact call_lenA
theorem listK (h : X.K = K) : CallR X (.type "list") (rList K) := by subst h; exact call_list_of
theorem tupleK (h : X.K = K) : CallR X (.type "tuple") (rTuple K) := by subst h; exact call_tuple_of
theorem sumK (h : X.K = K) (hc : X.calm = true) : CallR X (.builtin "sum") (rSum K) := by subst h; exact cr_sum hc
theorem allK (h : X.K = K) (hc : X.calm = true) : CallR X (.builtin "all") (rAll K) := by subst h; exact cr_all hc
theorem anyK (h : X.K = K) (hc : X.calm = true) : CallR X (.builtin "any") (rAny K) := by subst h; exact cr_any hc
theorem isiK (h : X.K = K) : CallR X (.builtin "isinstance") (rIsi K) := by subst h; exact call_isi
theorem seqK (h : X.K = K) {l : Expr} {tl : TE} (hl : PE X l tl) : PI X tg l (iSeq K tl) := by subst h; exact pi_seq hl
theorem enumK (h : X.K = K) {e : Expr} {ta : TA} {p pos tpos : Pos} {elts : List Expr} {kk : Nat} (hg : Gl X "enumerate") (hm : X.mg "enumerate" = none) (ha : PA X [e] ta) (hs : starEach [e] X.env = [(false, eval e X.env)] := by rfl) :
    PI X (.Tuple elts kk tpos) (.Call (.Name "enumerate" p) [e] [] pos) (iEnum K ta) := by subst h; exact pi_enum hg hm ha hs
theorem revK (h : X.K = K) {e : Expr} {ta : TA} {p pos : Pos} (hg : Gl X "reversed") (hm : X.mg "reversed" = none) (ha : PA X [e] ta) (hs : starEach [e] X.env = [(false, eval e X.env)] := by rfl) :
    PI X tg (.Call (.Name "reversed" p) [e] [] pos) (iRev K ta) := by subst h; exact pi_reversed hg hm ha hs
theorem gtupK (h : X.K = K) {pos : Pos} {es : List Expr} {k : Nat} {t : TGs} {n : Nat} (hc : X.calm = true) (hh : PGs X es t)
    (hn : (assignEach es X.env).length = n := by rfl) (hst : (assignEach es X.env).findIdx? (·.1) = none := by rfl) : PG X (.Tuple es k pos) (gTup K n t) := by subst h; exact pg_tup hc hh hn hst
theorem fldK (h : X.K = K) {pos : Pos} {e : Expr} {f : Str} {ta : TE} (he : PE X e ta) (hb : attributeBase e f X.env (eval e X.env) = eval e X.env) : PE X (.Attribute e f pos) (tFld K ta f) := by subst h; exact pe_fld he hb
theorem sfldK (h : X.K = K) {o value : Expr} {f : Str} {pos pos' : Pos} {ta tv : TE} (ha : PE X o ta) (hv : PE X value tv) (hs : swapsWith value (some (.Attribute o f pos')) pos.line X.env = pure false) : PS X (.Assign [.Attribute o f pos'] value pos) (sFld K ta tv f) := by
  subst h; exact ps_fld ha hv hs
section

variable {T id : String} {o e : Expr} {es : List Expr} {to : TE} {t : TA} {name : Str} {apos cpos : Pos} {r : V → List V → Hp → VK → Prop}
theorem bmK (h : X.K = K) (pa : PlainAttrs T) (slot : Slot T name id) (hty : typeOf (.builtin id) = pure (.type "method_descriptor")) (hm : MtR X id r) (ho : PE X o to) (ha : PA X (e :: es) t)
    (hbase : attributeBase o name X.env (eval o X.env) = eval o X.env := by rfl)
    (hfew : ((backTo cpos (starEach (e :: es) X.env)).all (fun x => !x.1) && (backToKw cpos (keywordEach [] X.env)).all (fun x => x.1.isSome)
      && decide ((e :: es).length + ([] : List Keyword).length + (if ([] : List Keyword).isEmpty then 0 else 1) < 30)) = true := by rfl)
    (hline : (apos.endLine == cpos.line) = true := by rfl) (hs : starEach (e :: es) X.env = (false, eval e X.env) :: starEach es X.env := by rfl) (hplain : (backTo cpos (starEach es X.env)).any (·.1) = false := by rfl) :
    PE X (.Call (.Attribute o name apos) (e :: es) [] cpos) (tBM K T r to t) := by subst h; exact pe_bm pa slot hty hm ho ha hbase hfew hline hs hplain
theorem bm0K (h : X.K = K) (pa : PlainAttrs T) (slot : Slot T name id) (hty : typeOf (.builtin id) = pure (.type "method_descriptor")) (hm : MtR X id r) (ho : PE X o to)
    (hbase : attributeBase o name X.env (eval o X.env) = eval o X.env := by rfl) (hline : (apos.endLine == cpos.line) = true := by rfl) : PE X (.Call (.Attribute o name apos) [] [] cpos) (tBM0 K T r to) := by
  subst h; exact pe_bm0 pa slot hty hm ho hbase hline
end
/-! ### o[i] = v: a list or a dict; x in c: a list or tuple of flat things, data in a list, a dict's key, a sign of a text -/
def rSetD : TSet := fun o i v H Q => ∃ a H4, o = .ref a ∧ DPut H a i v H4 ∧ Q H4
def rSetA : TSet := fun o i v H Q => rSetL o i v H Q ∨ rSetD o i v H Q
theorem set_A (hu : X.A.units + 1 < cLine) : PSet X rSetA := by
  intro pins s σ H o i v ov iv u Q I ro ri rv h
  rcases h with h | ⟨a, H4, rfl, g, q⟩
  · exact set_list pins s σ H o i v ov iv u Q I ro ri rv h
  · cases ro
    exact d_setItem hu I g ri rv fun s' I' => ⟨H4, I', q⟩
def rInDk : R2 := fun x y H Q => ∃ a o, y = .ref a ∧ DGet H a x o ∧ Q (.bl o.isSome) H
def rNotInDk : R2 := fun x y H Q => ∃ a o, y = .ref a ∧ DGet H a x o ∧ Q (.bl (!o.isSome)) H
theorem op_inDk (hu : X.A.units + 1 < cLine) : OpR X (compareOp .In) rInDk := by
  intro pins s σ H x y v u Q I rx ry h
  obtain ⟨a, o, rfl, g, q⟩ := h
  cases ry
  exact d_in hu I g rx fun s' I' => ⟨.bl _, H, I', rfl, q⟩
theorem op_notInDk (hu : X.A.units + 1 < cLine) : OpR X (compareOp .NotIn) rNotInDk := by
  intro pins s σ H x y v u Q I rx ry h
  obtain ⟨a, o, rfl, g, q⟩ := h
  cases ry
  exact d_notIn hu I g rx fun s' I' => ⟨.bl _, H, I', rfl, q⟩
def rInSg : R2 := fun x y H Q => ∃ (c : Nat) (z : Str), x = .str ⟨#[c]⟩ ∧ y = .str z ∧ Q (.bl (decide (c ∈ z.cps.toList))) H
def rNotInSg : R2 := fun x y H Q => ∃ (c : Nat) (z : Str), x = .str ⟨#[c]⟩ ∧ y = .str z ∧ Q (.bl (!decide (c ∈ z.cps.toList))) H
def rInA (K : PySem.W.Frag) : R2 := fun x y H Q => rIn K false x y H Q ∨ rInD K x y H Q ∨ rInDk x y H Q ∨ rInSg x y H Q
def rNotInA (K : PySem.W.Frag) : R2 := fun x y H Q => rIn K true x y H Q ∨ rNotInD K x y H Q ∨ rNotInDk x y H Q ∨ rNotInSg x y H Q
theorem inK (h : X.K = K) (hu : X.A.units + 65 < cLine) : OpR X (compareOp .In) (rInA K) := by subst h; exact op_in_seq.or ((op_inD hu).or ((op_inDk (by omega)).or op_in_sign))
theorem notInK (h : X.K = K) (hu : X.A.units + 65 < cLine) : OpR X (compareOp .NotIn) (rNotInA K) := by subst h; exact op_notIn_seq.or ((op_notInD hu).or ((op_notInDk (by omega)).or op_notIn_sign))
theorem hu65 {k : Nat} {A : Around} (hr : Room k A) : A.units + 65 < cLine := by have := hr.un; omega
end
section
variable {K : PySem.W.Frag} {ρ ρ' : Env} {te ti ta tb : TE} {d e : D} {ds es : List D} {tt : TT} {R : DEnds}
/-- xs[i] = e, xs the frame's own -/
theorem xs_setO {i : Nat} {k : Int} {j : Nat} (hx : ρ[i]? = some (some (.ol ds))) (h : EvD K te ρ d) (hi : EvD K ti ρ (.int k)) (hj : ixN ds.length k = some j) (q : R.nx (ρ.set i (some (.ol (ds.set j d))))) :
    ExS K (tAsg te (gSub (tVar i) ti rSetA)) ρ R := fun B Hs H σ Dn r l => by
  refine h B Hs H σ r _ fun Hs1 H1 w g y => ?_
  obtain ⟨p, vs, e, hp, x, _⟩ := (r.grow g).mutL i hx
  refine ⟨.ref p, e, hi B Hs1 H1 σ (r.grow g) _ fun Hs2 H2 z g2 z2 => ?_⟩
  cases z2
  obtain ⟨p', vs', e', hp', x', m⟩ := ((r.grow g).grow g2).mutL i hx
  rw [e] at e'
  cases e'
  refine .inl ⟨p, vs', k, j, rfl, rfl, hp', by rw [x'.length]; exact hj, ?_⟩
  exact l.nx Hs2 _ _ _ (m _ _ (x'.set (y.mono g2.sh) j)) q
end
end DL

/-! DMeth: a def of a class called off the class; a method of whichever class the object has; objects as data. -/
namespace DL
open PySem L2

/-- m of the class at C is the def at f, read off the class -/
structure CFn (K : PySem.W.Frag) (C : Addr) (m : Str) (f : Addr) : Prop where
  rd : ClX.CRead K C (.type "type")
  at_ : PySem.W.findCls K (.ref C) (.type "type") m = some (.val (.ref f))
section
variable {X : Cx} {CX : CXT} {k : Nat} {f C : Addr} {fd : FuncData} {ps : List Str} {sp : Sp} {dvs : List V} {ds : List Value} {E : XK} {m : Str} {pos apos : Pos} {e o : Expr} {es : List Expr} {ta : TE} {t : TA} {pl : Sem Bool}
/-- C.m(e, ..) -/
theorem pe_ccall (he : PE X o (tC (.ref C))) (r : CFn X.K C m f) (F : FnOk X.prog X.w X.K X.mg X.base CX k f fd ps sp) (hr : Room k X.A) (hk : PySem.W.keepIn X.K (.ref f) = true) (hb : Binds X.K fd ps ds) (hd : Vals dvs ds) (hx : Passes CX X E) (ha : PA X (e :: es) t)
    (hst : starEach (e :: es) X.env = (false, eval e X.env) :: starEach es X.env := by rfl) (hpl : (backTo pos (starEach es X.env)).any (·.1) = false := by rfl)
    (ht : eval (.Call (.Attribute o m apos) (e :: es) [] pos) X.env = (do
      let ov ← eval o X.env
      standAt apos.atName
      let (f, first) ← holding [ov] (getMethod ov m pl)
      callWith pos f first (backTo pos (starEach (e :: es) X.env)) (backToKw pos (keywordEach [] X.env))) := by rfl) :
    PE X (.Call (.Attribute o m apos) (e :: es) [] pos) (tCall sp dvs E t) := by
  refine ⟨fun pins s σ H Q I h => ?_⟩
  refine PySem.W.methodCall_KW (pl := pl) (thn (he.run pins s σ H (fun v H1 => v = .ref C ∧ tCall sp dvs E t σ H1 Q) I ⟨rfl, h⟩) fun u s1 ⟨x, H1, I1, rx, ex, q⟩ => ?_) ht
  subst ex
  obtain rfl : u = Value.ref C := rx
  refine PySem.W.method_cls I1.kIn r.rd.ga (PySem.W.cls_value I1.kIn r.rd.rd r.at_ rfl ?_)
  refine PySem.W.callWith_K (first := []) (h₀ := X.base) I1.ok.mod.kin hk (thn (ha.run pos pins _ σ H1 _ (I1.tok _) q) fun us s2 ⟨vs, H2, I2, rv, q2⟩ => ⟨I2.kIn, ?_⟩) hst hpl
  exact run_fn F hr hb hd hx I2 rv q2

/-- the classes that an object may have, each with what its method m promises -/
inductive Alts (X : Cx) (CX : CXT) (k : Nat) (m : Str) : List (Addr × Sp) → Prop
  | nil : Alts X CX k m []
  | cons {C f : Addr} {fd : FuncData} {ps : List Str} {sp : Sp} {r : List (Addr × Sp)} {j : Nat} (hj : j ≤ k) (c : Cls X.K C) (hm : Meth X.K C m f) (F : FnOk X.prog X.w X.K X.mg X.base CX j f fd ps sp) (hb : Binds X.K fd ps []) (h : Alts X CX k m r) : Alts X CX k m ((C, sp) :: r)
theorem Alts.get {alts : List (Addr × Sp)} (h : Alts X CX k m alts) : ∀ {C : Addr} {sp : Sp}, (C, sp) ∈ alts → ∃ f fd ps, Cls X.K C ∧ Meth X.K C m f ∧ FnOk X.prog X.w X.K X.mg X.base CX k f fd ps sp ∧ Binds X.K fd ps [] := by
  induction h with
  | nil => intro C sp h; cases h
  | cons hj c hm F hb _ ih =>
    intro C sp h
    rcases List.mem_cons.mp h with e | e
    · cases e
      exact ⟨_, _, _, c, hm, F.mono hj, hb⟩
    · exact ih e
/-- o.m(..), o of one of these classes -/
def tMethD (alts : List (Addr × Sp)) (m : Str) (E : XK) (ta : TE) (t : TA) : TE := fun σ H Q => ta σ H fun x H1 => ∃ a C dx fs sp, x = .ref a ∧ H1 a = some (.ins C dx fs) ∧ (C, sp) ∈ alts ∧ fs.lookup m = none ∧
  t σ H1 fun vs H2 => sp (x :: vs) H2 Q E
theorem pe_methD {alts : List (Addr × Sp)} (he : PE X o ta) (al : Alts X CX k m alts) (hr : Room k X.A) (hx : Passes CX X E) (ha : PA X (e :: es) t)
    (hst : starEach (e :: es) X.env = (false, eval e X.env) :: starEach es X.env := by rfl) (hpl : (backTo pos (starEach es X.env)).any (·.1) = false := by rfl)
    (ht : eval (.Call (.Attribute o m apos) (e :: es) [] pos) X.env = (do
      let ov ← eval o X.env
      standAt apos.atName
      let (f, first) ← holding [ov] (getMethod ov m pl)
      callWith pos f first (backTo pos (starEach (e :: es) X.env)) (backToKw pos (keywordEach [] X.env))) := by rfl) :
    PE X (.Call (.Attribute o m apos) (e :: es) [] pos) (tMethD alts m E ta t) := by
  refine ⟨fun pins s σ H Q I h => ?_⟩
  refine PySem.W.methodCall_KW (pl := pl) (thn (he.run pins s σ H _ I h) fun u s1 ⟨x, H1, I1, rx, a, C, dx, fs, sp, ex, ea, hin, l, q⟩ => ?_) ht
  subst ex
  obtain rfl : u = Value.ref a := rx
  obtain ⟨f, fd, ps, c, hm, F, hb⟩ := al.get hin
  refine getmeth_ok I1 ea c hm l ?_
  refine PySem.W.callWith_K (first := [.ref a]) (h₀ := X.base) I.ok.mod.kin hm.kp (thn (ha.run pos pins s1 σ H1 _ I1 q) fun us s2 ⟨vs, H2, I2, r, q2⟩ => ⟨I2.kIn, ?_⟩) hst hpl
  exact run_fn (us := .ref a :: us) (vs := .ref a :: vs) (dvs := []) F hr hb .nil hx I2 (.cons rfl r) (by rw [List.append_nil]; exact q2)
theorem pe_methD0 {alts : List (Addr × Sp)} (he : PE X o ta) (al : Alts X CX k m alts) (hr : Room k X.A) (hx : Passes CX X E)
    (ht : eval (.Call (.Attribute o m apos) [] [] pos) X.env = (do
      let ov ← eval o X.env
      standAt apos.atName
      let (f, first) ← holding [ov] (getMethod ov m pl)
      callWith pos f first (backTo pos (starEach [] X.env)) (backToKw pos (keywordEach [] X.env))) := by rfl) :
    PE X (.Call (.Attribute o m apos) [] [] pos) (tMethD alts m E ta tNil) := by
  refine ⟨fun pins s σ H Q I h => ?_⟩
  refine PySem.W.methodCall_KW (pl := pl) (thn (he.run pins s σ H _ I h) fun u s1 ⟨x, H1, I1, rx, a, C, dx, fs, sp, ex, ea, hin, l, q⟩ => ?_) ht
  subst ex
  obtain rfl : u = Value.ref a := rx
  obtain ⟨f, fd, ps, c, hm, F, hb⟩ := al.get hin
  refine getmeth_ok I1 ea c hm l ?_
  exact PySem.W.callWith_K0 (first := [.ref a]) I1.kIn hm.kp (run_fn (us := [.ref a]) (vs := [.ref a]) (dvs := []) F hr hb .nil hx I1 (.cons rfl .nil) q)
end

/-! ### on deep data -/
section
variable {K : PySem.W.Frag} {ρ ρ' : Env} {te ta tb : TE} {d e : D} {ds es : List D} {tt : TT} {R : DEnds} {C : Addr} {ns : List Str}
theorem look_zip {H : Hp} : ∀ {ns : List Str} {vs : List V} {ds : List D} {f : Str} {d : D}, RepL K H vs ds → (ns.zip ds).lookup f = some d → ∃ v, (ns.zip vs).lookup f = some v ∧ Rep K H v d
  | [], _, _, _, _, _, h => by simp at h
  | n :: ns, _, _, f, d, .nil, h => by simp at h
  | n :: ns, _, _, f, d, .cons (v := v) (d := d0) hv r, h => by
    rw [List.zip_cons_cons, List.lookup_cons] at h ⊢
    cases e : (f == n) with
    | true =>
      rw [e] at h
      have h' := Option.some.inj h
      subst h'
      exact ⟨v, rfl, hv⟩
    | false =>
      rw [e] at h
      exact look_zip r h
theorem look_none : ∀ {ns : List Str} {vs : List V} {m : Str}, ns.contains m = false → (ns.zip vs).lookup m = none
  | [], _, _, _ => by simp
  | n :: ns, [], _, _ => by simp
  | n :: ns, v :: vs, m, h => by
    rw [List.contains_cons, Bool.or_eq_false_iff] at h
    rw [List.zip_cons_cons, List.lookup_cons, h.1]
    exact look_none h.2
theorem ev_fld {f : Str} (h : EvD K ta ρ (.obj C ns ds)) (hc : Cls K C) (hn : NoAttr K C f) (hl : (ns.zip ds).lookup f = some d) : EvD K (tFld K ta f) ρ d := fun B Hs H σ r Q q =>
  h B Hs H σ r _ fun Hs1 H1 v g x => by
    cases x with
    | @obj a _ dx _ vs _ ha xs =>
      obtain ⟨w, h1, h2⟩ := look_zip xs hl
      exact ⟨a, C, dx, _, w, rfl, g.lv _ _ ha, hc, hn, h1, q Hs1 H1 w g h2⟩
theorem ev_methD {alts : List (Addr × Sp)} {m : Str} {E : XK} {t : TA} {α : Type} {pre : α → Prop} {arg : α → List D} {res : α → D} (x : α) (h : EvD K ta ρ (.obj C ns ds)) (ht : EvA K t ρ es) (hin : (C, spG K pre arg res) ∈ alts) (hm : ns.contains m = false)
    (ha : arg x = .obj C ns ds :: es) (p : pre x) : EvD K (tMethD alts m E ta t) ρ (res x) := fun B Hs H σ r Q q =>
  h B Hs H σ r _ fun Hs1 H1 v g1 xo => by
    cases xo with
    | @obj a _ dx _ vs _ hp xs =>
      refine ⟨a, C, dx, _, _, rfl, g1.lv _ _ hp, hin, look_none hm, ht B Hs1 H1 σ (r.grow g1) _ fun Hs2 H2 ws g2 ys => ?_⟩
      refine ⟨Hs2, x, g2.lv, by rw [ha]; exact .cons (.obj (g2.sh _ _ hp) (xs.mono g2.sh)) ys, p, fun Hs' H' w d g y e => ?_⟩
      exact q Hs' H' w ((g1.trans g2).trans g) (e ▸ y)
theorem ef_methD {alts : List (Addr × Sp)} {m : Str} {E : XK} {t : TA} {α : Type} {pre : α → Prop} {arg : α → List D} {res : α → List D} (x : α) (h : EvD K ta ρ (.obj C ns ds)) (ht : EvA K t ρ es) (hin : (C, spF K pre arg res) ∈ alts) (hm : ns.contains m = false)
    (ha : arg x = .obj C ns ds :: es) (p : pre x) : EvF K (tMethD alts m E ta t) ρ (res x) := fun B Hs H σ r Q q =>
  h B Hs H σ r _ fun Hs1 H1 v g1 xo => by
    cases xo with
    | @obj a _ dx _ vs _ hp xs =>
      refine ⟨a, C, dx, _, _, rfl, g1.lv _ _ hp, hin, look_none hm, ht B Hs1 H1 σ (r.grow g1) _ fun Hs2 H2 ws g2 ys => ?_⟩
      refine ⟨Hs2, x, g2.lv, by rw [ha]; exact .cons (.obj (g2.sh _ _ hp) (xs.mono g2.sh)) ys, p, fun Hs' H' l zs g n n2 e y => ?_⟩
      have gg := (g1.trans g2).trans g
      refine q Hs' H' l zs gg ?_ n2 e y
      cases z : H l with
      | none => rfl
      | some o =>
        rw [(g1.trans g2).fr l o z] at n
        cases n
/-- a new instance: __init__ leaves it with the fields fs of the arguments' values -/
def spMk (C : Addr) (n : Nat) (fs : List V → List (Str × V)) (ok : PySem.W.Frag → List V → Hp → Prop) (K : PySem.W.Frag) : Sp := fun vs H Q _ => ∃ (p dx : Addr) (ws : List V), vs = .ref p :: ws ∧ ws.length = n ∧ H p = some (.ins C dx []) ∧ ok K ws H ∧ Q .non (upd H p (.ins C dx (fs ws)))
theorem ev_make {n : Nat} {fs : List V → List (Str × V)} {ok : PySem.W.Frag → List V → Hp → Prop} {E : XK} {t : TA} (h : EvA K t ρ ds) (hn : ds.length = n) (hok : ∀ Hs H ws, RepL K Hs ws ds → Ex Hs H → ok K ws H)
    (hf : ∀ Hs ws, RepL K Hs ws ds → ∃ vs, fs ws = ns.zip vs ∧ RepL K Hs vs es) : EvD K (tMake C (spMk C n fs ok K) [] E t) ρ (.obj C ns es) := fun B Hs H σ r Q q =>
  h B Hs H σ r _ fun Hs1 H1 ws g1 xs => fun x dx hx hdx ne => by
    rw [List.append_nil]
    have nx : Hs1 x = none := (gr_none (Gr.refl g1.lv) hx).2
    have ndx : Hs1 dx = none := (gr_none (Gr.refl g1.lv) hdx).2
    have hx2 : upd H1 dx (.own x) x = none := by rw [upd_ne (Ne.symm ne)]; exact hx
    have ex : Ex Hs1 (upd (upd H1 dx (.own x)) x (.ins C dx [])) := fun a o e => by
      rw [upd_ne (fun z => by rw [z, nx] at e; cases e), upd_ne (fun z => by rw [z, ndx] at e; cases e)]
      exact g1.lv a o e
    refine ⟨x, dx, ws, rfl, by rw [xs.length]; exact hn, upd_same, hok Hs1 _ ws xs ex, rfl, ?_⟩
    obtain ⟨vs, e1, y⟩ := hf Hs1 ws xs
    rw [upd_upd, e1]
    have ga : Gr Hs1 H1 H1 Hs1 (upd H1 dx (.own x)) := Gr.newO g1.lv hdx
    have gb := Gr.new (o := .ins C dx (ns.zip vs)) ga.lv hx2
    exact q _ _ _ ((g1.trans ga).trans gb) (.obj upd_same (y.mono (Ex.new nx)))
end
end DL

/-! DRange: list(range(a, b)) however great the bounds are. -/
namespace PySem
open Sem (wp)
open AutoSeq1 (wpAny_loadPart')
namespace LR
abbrev nm : String := "longrange_iterator"
theorem ownL : Manifest.owners.lookup (String.ofList ['r', 'o', 't', 'a', 'r', 'e', 't', 'i', '_', 'e', 'g', 'n', 'a', 'r', 'g', 'n', 'o', 'l'].reverse) = some Manifest.sig_longrange_iterator := by kernel_rfl
theorem slotNext : Slot nm "__next__" "longrange_iterator.__next__" := .of (owner := nm) (n := "__next__") (by rw [typeLookup_type, builtinLookup_eq_fast]; kernel_rfl) (by decide +kernel) (by decide +kernel) (by decide +kernel) (by first | exact .inl (by decide +kernel) | exact .inr (by decide +kernel)) (by rw [isSubtype_type]; kernel_rfl)
theorem slotIter : Slot nm "__iter__" "longrange_iterator.__iter__" := .of (owner := nm) (n := "__iter__") (by rw [typeLookup_type, builtinLookup_eq_fast]; kernel_rfl) (by decide +kernel) (by decide +kernel) (by decide +kernel) (by first | exact .inl (by decide +kernel) | exact .inr (by decide +kernel)) (by rw [isSubtype_type]; kernel_rfl)
theorem entNext : entryFor table "longrange_iterator.__next__" = some Builtin.«longrange_iterator.__next__» := entryFor_of_tree (by kernel_rfl)
theorem entIter : entryFor table "longrange_iterator.__iter__" = some Builtin.«dict_keyiterator.__iter__» := entryFor_alias (id' := "dict_keyiterator.__iter__") (by kernel_rfl) (by first | rfl | decide +kernel | (unfold String.splitOn; simp +decide [String.splitOnAux])) (by decide +kernel) (by kernel_rfl)
theorem argNext (x : Value) : argsOk "longrange_iterator.__next__" ⟨[x], []⟩ := by
  unfold argsOk; rw [signature?_of (id := "longrange_iterator.__next__") (n := ['_', '_', 't', 'x', 'e', 'n', '_', '_']) (o := ['r', 'o', 't', 'a', 'r', 'e', 't', 'i', '_', 'e', 'g', 'n', 'a', 'r', 'g', 'n', 'o', 'l']) (by kernel_rfl) ownL]; kernel_rfl
theorem argIter (x : Value) : argsOk "longrange_iterator.__iter__" ⟨[x], []⟩ := by
  unfold argsOk; rw [signature?_of (id := "longrange_iterator.__iter__") (n := ['_', '_', 'r', 'e', 't', 'i', '_', '_']) (o := ['r', 'o', 't', 'a', 'r', 'e', 't', 'i', '_', 'e', 'g', 'n', 'a', 'r', 'g', 'n', 'o', 'l']) (by kernel_rfl) ownL]; kernel_rfl
theorem boundNext {i : Addr} : bound "longrange_iterator.__next__" ⟨[.ref i], []⟩ = pure #[some (.ref i)] := by
  kernel_rfl
/-- a long iterator: the next number, how many are left, the step -/
abbrev Is (h : Heap) (i : Addr) (x n c : Int) : Prop := h.get? i = some { cls := .type nm, dict := none, data := .fields #[rawInt x, rawInt n, rawInt c], slots := #[] }
theorem nextMeets (i : Addr) (x n c : Int) (h0 : ¬n ≤ 0) : Meets (Builtin.«longrange_iterator.__next__» ⟨[.ref i], []⟩) (fun _ R s => Is s.heap i x n c ∧ R (.ok (.ret (Value.int x s.toks))) { s with heap := (s.heap.update i (Obj.mapFields fun z => z.setIfInBounds 0 (rawInt (x + c)))).update i (Obj.mapFields fun z => z.setIfInBounds 1 (rawInt (n - 1))), toks := s.toks + 1 }) :=
  .of_wp fun prog w A R s h => by obtain ⟨hp, g, d, tk, os⟩ := s; obtain ⟨hl, h⟩ := h; wp_walk; exact ⟨_, rfl, h⟩
section
variable {prog : Program} {w : World} {A : Around} {E : Value → Shared → Prop} {s : Shared} {i : Addr} {x n c : Int}
theorem item {Q : Option Value → Shared → Prop} (z : Is s.heap i x n c) (pos : 0 < n) (q : ∀ h', Is h' i (x + c) (n - 1) c → Heap.SameBut i s.heap h' → Q (some (.int x s.toks)) { s with heap := h', toks := s.toks + 1 }) : wpAny (model prog w) A (pyNext (.ref i)) Q E s := by
  have ty : s.TypeIs (.ref i) nm := ⟨_, z, rfl⟩
  unfold pyNext
  refine wpAny_bind (wpAny_attempt (wpAny_callSpecial?_slot (name := Str.ofString "__next__") ty slotNext (call_meets slotNext ty entNext (argNext _) (nextMeets i x n c (by omega)) ⟨z, ?_⟩)))
  exact wpAny_pure (q _ (Heap.get?_update_self _ (Heap.get?_update_self _ z rfl) rfl) ((Heap.SameBut.update ..).trans (Heap.SameBut.update ..)))
theorem fin {Q : Option Value → Shared → Prop} (hh : A.handled = none) (z : Is s.heap i x n c) (neg : n ≤ 0) (q : ∀ h', Heap.ExtBut i s.heap h' → Q none { s with heap := h' }) : wpAny (model prog w) A (pyNext (.ref i)) Q E s := by
  have ty : s.TypeIs (.ref i) nm := ⟨_, z, rfl⟩
  unfold pyNext
  refine wpAny_bind (wpAny_attempt (wpAny_callSpecial?_slot (name := Str.ofString "__next__") ty slotNext (wpAny_call_entry slotNext ty entNext ?_ (argNext _))))
  refine wpAny_bind (m := bound "longrange_iterator.__next__" ⟨[.ref i], []⟩) (wpAny_of_eq (a := #[some (.ref i)]) boundNext ?_)
  refine wpAny_bind (m := Builtin.Iterators_pickling.intField _ (.ref i) 0) (wpAny_bind (wpAny_field z rfl (x := rawInt x) rfl (wpAny_pure ?_)))
  refine wpAny_bind (m := Builtin.Iterators_pickling.intField _ (.ref i) 1) (wpAny_bind (wpAny_field z rfl (x := rawInt n) rfl (wpAny_pure ?_)))
  refine wpAny_bind (m := Builtin.Iterators_pickling.intField _ (.ref i) 2) (wpAny_bind (wpAny_field z rfl (x := rawInt c) rfl (wpAny_pure ?_)))
  show wpAny _ _ (if n ≤ 0 then _ else _) _ _ s
  rw [if_pos neg]
  refine wpAny_bind (wpAny_rule (wpAny_bind ?_))
  show wpAny _ _ (newExc (.type "StopIteration") [] >>= _) _ _ s
  refine wpAny_bind ?_
  simp only [newExc, newTuple]
  refine wpAny_bind (wpAny_newObj_type ?_ (by size_fits))
  refine wpAny_bind (m := firstArgMember _ _) (wpAny_of_eq (a := Value.none) (by first | rfl | (simp only [firstArgMember]; rfl)) (wpAny_newObj_type ?_ (by size_fits)))
  simp only [raiseNew]
  refine wpAny_pure ?_
  refine wpAny_bind (wpAny_bind (wpAny_handled ?_))
  first | rw [show A.in1.handled = none from hh] | rw [hh]
  refine (wpAny_throw (wpAny_bind (wpAny_isInstance (T := "StopIteration") (b := true) ⟨_, Heap.get?_push_size _ rfl, rfl⟩ isSubtype_stop ?_)))
  exact wpAny_pure (q _ (((Heap.ExtBut.refl i s.heap).push _).push _))
theorem own {Q : Value → Shared → Prop} (z : Is s.heap i x n c) (q : Q (.ref i) s) : wpAny (model prog w) A (pyIter (.ref i)) Q E s := by
  have ty : s.TypeIs (.ref i) nm := ⟨_, z, rfl⟩
  refine wpAny_pyIter_slot ty slotIter (wpAny_call_entry slotIter ty entIter (show wpAny _ _ (ret (.ref i)) _ _ s from ?_) (argIter _))
  exact wpAny_pure ⟨_, rfl, nm, _, ty, slotNext.lookup, q⟩
theorem iter {r : Addr} {a b : Int} {t u v : Tok} {Q : Value → Shared → Prop} (z : IsRange s.heap r a b c t u v) (big : ¬ Builtin.Range.small a b c = true)
    (q : Q (.ref s.heap.objs.size) { s with heap := s.heap.push { cls := .type nm, data := .fields #[rawInt a, rawInt (Builtin.Range.rangeSize a b c), rawInt c] } }) : wpAny (model prog w) A (pyIter (.ref r)) Q E s := by
  have ty : s.TypeIs (.ref r) "range" := ⟨_, z, rfl⟩
  refine wpAny_pyIter_slot ty F.slot_range_iter (call_meets F.slot_range_iter ty F.entry_range_iter (F.args_range_iter_1 _) (AutoRange.range___iter___range_0 r a b c t u v (by unfold Builtin.Range.small at big; rw [Bool.not_eq_true] at big; rw [big]; rfl)) ⟨z, ?_⟩)
  unfold Builtin.Range.small at big
  simp only [big, Bool.false_eq_true, if_false]
  exact ⟨nm, _, ⟨_, Heap.get?_push_size _ rfl, rfl⟩, slotNext.lookup, q⟩
end
theorem walks {prog : Program} {w : World} {A : Around} (hh : A.handled = none) (i : Addr) (a c : Int) (n : Nat) :
    Walks prog w A i [i] [i] n (fun k v => ∃ t, v = .int (a + k * c) t) (fun k h => Is h i (a + (k : Nat) * c) ((n : Int) - (k : Nat)) c) where
  sub := fun _ z => z
  frame := fun _ _ _ st z => z i (by simp) _ st
  item := fun k s Q E lt st q => by
    refine item st (by omega) fun h' z' y' => q _ h' _ ⟨_, rfl⟩ ?_ fun b o nb e => y'.extBut b o (fun h => nb (by simp [h])) e
    have e1 : a + ((k + 1 : Nat) : Int) * c = a + (k : Int) * c + c := by push_cast; rw [Int.add_mul, Int.one_mul, Int.add_assoc]
    have e2 : (n : Int) - ((k + 1 : Nat) : Int) = (n : Int) - (k : Int) - 1 := by push_cast; omega
    rw [e1, e2]; exact z'
  done := fun s Q E st q => fin hh st (by omega) fun h' e' => q h' s.toks fun b o nb e => e' b o (fun h => nb (by simp [h])) e
  self := fun _ _ _ _ st q => own st q
section
variable {prog : Program} {w : World} {A : Around} {E : Value → Shared → Prop} {s : Shared} {r : Addr} {a b c : Int} {t u v : Tok} {n : Nat}
abbrev Got (a c : Int) (n : Nat) (acc : Array Value) : Prop := ItemsOf (fun i v => ∃ t, v = .int (a + i * c) t) acc n
theorem extend {R : Result → Shared → Prop} (hh : A.handled = none) (z : IsRange s.heap r a b c t u v) (big : ¬ Builtin.Range.small a b c = true) (en : Builtin.Range.rangeSize a b c = n) (few : n ≤ 2 ^ 24) (S : Addr) (res : Value) (c₀ : Nat) (yS : s.heap.get? S = some { cls := .type "list", data := .seq #[] c₀ })
    (q : ∀ h' tk acc' c', (∀ b o, b ≠ S → s.heap.get? b = some o → h'.get? b = some o) → h'.get? S = some { cls := .type "list", dict := none, data := .seq acc' c', slots := #[] } → Got a c n acc' → R (.ok (.ret res)) { s with heap := h', toks := tk }) :
    wpAny (model prog w) A.in1 (Builtin.List.listExtendWith (.ref S) (.ref r) res) (fun fin s' => match fin with | .done f => R (.ok f) s' | .again c' => c'.quiet = true ∧ codeAny (model prog w) A c' R s') (fun e s' => R (.error e) s') s := by
  have nSr : S ≠ r := fun e => by rw [e, z] at yS; simp at yS
  have lS : S < s.heap.objs.size := Heap.lt_size yS
  have nSI : S ≠ s.heap.objs.size := Nat.ne_of_lt lS
  have nSf : S ∉ [s.heap.objs.size] := fun m => nSI (List.mem_singleton.mp m)
  have W := (walks (prog := prog) (w := w) (A := A.in1) hh s.heap.objs.size a c n).toS
  have key : ∀ (h : Heap) (c₁ tk : Nat), Is h s.heap.objs.size (a + ((0 : Nat) : Int) * c) ((n : Int) - ((0 : Nat) : Int)) c → (∀ b o, b ≠ S → s.heap.get? b = some o → h.get? b = some o) →
      h.get? S = some { cls := .type "list", data := .seq #[] c₁ } → codeAny (model prog w) A (.builtin "list.extend.loop" ⟨[.ref S, .ref s.heap.objs.size, res], []⟩) R { s with heap := h, toks := tk } := by
    intro h c₁ tk y1 hk y2
    refine codeAny_extend_loopS W (by rw [sizeLine_eq]; omega) S nSf res n 0 _ #[] c₁ rfl (Nat.zero_le _) y1 y2 (ItemsOf.nil _) fun s' acc' c' m y3 g => ?_
    rw [Moved.eq_with m]
    refine q s'.heap s'.toks acc' c' (fun b o nb e => m.heap b o (fun mm => ?_) (hk b o nb e)) y3 g
    rcases List.mem_cons.mp mm with e' | mm
    · exact nb e'
    · exact absurd (Heap.lt_size e) (by rw [List.mem_singleton.mp mm]; exact Nat.lt_irrefl _)
  unfold Builtin.List.listExtendWith
  refine wpAny_bind (wpAny_typeOf (T := "range") ⟨_, z, rfl⟩ ?_)
  have n1 : Builtin.List.listSameRef (.ref S) (.ref r) = false := by simp [Builtin.List.listSameRef, nSr]
  have n2 : (Value.type "range" == Value.type "list") = false := by decide
  have n3 : (Value.type "range" == Value.type "tuple") = false := by decide
  simp only [n1, n2, n3, Bool.or_false, Bool.false_eq_true, if_false]
  refine wpAny_bind (iter z big ?_)
  refine wpAny_bind (wpAny_holding (wpAny_hint_range (n := n) (Heap.get?_push_of_some _ z) en few ?_))
  have y1 : Is (s.heap.push { cls := .type nm, data := .fields #[rawInt a, rawInt (Builtin.Range.rangeSize a b c), rawInt c] }) s.heap.objs.size (a + ((0 : Nat) : Int) * c) ((n : Int) - ((0 : Nat) : Int)) c := by
    show Is _ _ _ _ _; rw [en]; simpa using Heap.get?_push_size _ rfl
  have y2 := Heap.get?_push_of_some { cls := .type nm, data := .fields #[rawInt a, rawInt (Builtin.Range.rangeSize a b c), rawInt c] } yS
  refine wpAny_ite_split (fun _ => ?_) (fun _ => wpAny_pure ⟨plainId_quiet F.plain_extend_loop _, key _ c₀ _ y1 (fun b o _ e => Heap.get?_push_of_some _ e) y2⟩)
  refine wpAny_bind (wpAny_rule (wpAny_bind ?_))
  show wpAny _ _ (updateSeq S (·.push .none) >>= fun _ => updateSeq S (·.pop)) _ _ _
  refine wpAny_bind (wpAny_updateSeq y2 rfl ?_)
  have y3 := Heap.get?_update_self (Obj.mapSeq (·.push Value.none)) y2 rfl
  refine wpAny_updateSeq (hz := by seq_fits) y3 rfl ?_
  have y4 := Heap.get?_update_self (Obj.mapSeq (·.pop)) y3 rfl
  refine wpAny_pure ⟨plainId_quiet F.plain_extend_loop _, key _ _ _ ?_ (fun b o nb e => ?_) y4⟩
  · exact (Heap.get?_update_other _ _ nSI).trans ((Heap.get?_update_other _ _ nSI).trans y1)
  · exact (Heap.get?_update_other _ _ (Ne.symm nb)).trans ((Heap.get?_update_other _ _ (Ne.symm nb)).trans (Heap.get?_push_of_some _ e))
theorem init {R : Result → Shared → Prop} (hh : A.handled = none) (z : IsRange s.heap r a b c t u v) (big : ¬ Builtin.Range.small a b c = true) (en : Builtin.Range.rangeSize a b c = n) (few : n ≤ 2 ^ 24) (S : Addr) (yS : s.heap.get? S = some { cls := .type "list", data := .seq #[] })
    (q : ∀ h' tk acc' c', (∀ b o, b ≠ S → s.heap.get? b = some o → h'.get? b = some o) → h'.get? S = some { cls := .type "list", dict := none, data := .seq acc' c', slots := #[] } → Got a c n acc' → R (.ok (.ret .none)) { s with heap := h', toks := tk }) :
    wpAny (model prog w) A.in1 (Builtin.«list.__init__» ⟨[.ref S, .ref r], []⟩) (fun fin s' => match fin with | .done f => R (.ok f) s' | .again c' => c'.quiet = true ∧ codeAny (model prog w) A c' R s') (fun e s' => R (.error e) s') s := by
  have nSr : S ≠ r := fun e => by rw [e, z] at yS; simp at yS
  show wpAny _ _ (do let old ← Builtin.List.listItems (.ref S); Builtin.List.listUpdate (.ref S) (fun _ => #[]); letGo old.toList.reverse; Builtin.List.listExtendWith (.ref S) (.ref r) .none) _ _ s
  refine wpAny_bind ?_
  unfold Builtin.List.listItems
  refine wpAny_bind (wpAny_seqItems yS rfl (wpAny_pure ?_))
  show wpAny _ _ (updateSeq S (fun _ => #[]) >>= fun _ => letGo (#[] : Array Value).toList.reverse >>= fun _ => Builtin.List.listExtendWith (.ref S) (.ref r) .none) _ _ s
  refine wpAny_bind (wpAny_updateSeq yS rfl ?_)
  have y2 := Heap.get?_update_self (Obj.mapSeq (fun _ => (#[] : Array Value))) yS rfl
  have oth : ∀ b o, b ≠ S → s.heap.get? b = some o → (s.heap.update S (Obj.mapSeq (fun _ => (#[] : Array Value)))).get? b = some o := fun b o nb e => (Heap.get?_update_other _ _ (Ne.symm nb)).trans e
  refine wpAny_bind (wpAny_letGo (extend hh (oth r _ (Ne.symm nSr) z) big en few S .none _ y2 fun h' tk acc' c' hk y3 g => ?_))
  exact q h' tk acc' c' (fun b o nb e => hk b o nb (oth b o nb e)) y3 g
theorem call_big {Q : Value → Shared → Prop} (hh : A.handled = none) (z : IsRange s.heap r a b c t u v) (big : ¬ Builtin.Range.small a b c = true) (en : Builtin.Range.rangeSize a b c = n) (few : n ≤ 2 ^ 24)
    (q : ∀ h' tk acc' c', (∀ b o, s.heap.get? b = some o → h'.get? b = some o) → h'.get? s.heap.objs.size = some { cls := .type "list", dict := none, data := .seq acc' c', slots := #[] } → Got a c n acc' → Q (.ref s.heap.objs.size) { s with heap := h', toks := tk }) :
    wpAny (model prog w) A (call (.type "list") [.ref r]) Q E s := by
  refine callType_codes (Q₁ := fun obj s₁ => obj = .ref s.heap.objs.size ∧ s₁ = { s with heap := s.heap.push { cls := .type "list", data := .seq #[] } }) F.called_list (F.typeCall_list_1 _) F.entry_list_init (code_list_new _ ⟨rfl, rfl⟩) fun obj s₁ h₁ => ?_
  obtain ⟨rfl, rfl⟩ := h₁
  have yS : (s.heap.push { cls := .type "list", data := .seq #[] }).get? s.heap.objs.size = some { cls := .type "list", data := .seq #[] } := Heap.get?_push_size _ rfl
  refine ⟨⟨_, yS, rfl⟩, F.args_list_init_2 _ _, init (A := A.in1) hh (Heap.get?_push_of_some _ z) big en few _ yS fun h' tk acc' c' hk y2 g => ?_⟩
  exact ⟨rfl, q h' tk acc' c' (fun b o e => hk b o (Nat.ne_of_lt (Heap.lt_size e)) (Heap.get?_push_of_some _ e)) y2 g⟩
/-- list(range(..)) of few numbers -/
theorem call_any {Q : Value → Shared → Prop} (hh : A.handled = none) (z : IsRange s.heap r a b c t u v) (en : Builtin.Range.rangeSize a b c = n) (few : n ≤ 2 ^ 24)
    (q : ∀ h' tk acc' c', (∀ b o, s.heap.get? b = some o → h'.get? b = some o) → h'.get? s.heap.objs.size = some { cls := .type "list", dict := none, data := .seq acc' c', slots := #[] } → Got a c n acc' → Q (.ref s.heap.objs.size) { s with heap := h', toks := tk }) :
    wpAny (model prog w) A (call (.type "list") [.ref r]) Q E s := by
  by_cases hs : Builtin.Range.small a b c = true
  · exact call_list_range hh z hs en few q
  · exact call_big hh z hs en few q
end
end LR
end PySem
namespace DL
open PySem L2 PyProof.Rows
section
variable {X : Cx} {e : Expr} {te : L2.St → Hp → (Int → Int → Hp → Prop) → Prop}
def tLstR (te : L2.St → Hp → (Int → Int → Hp → Prop) → Prop) : TE := fun σ H Q => te σ H fun a b H1 => (b - a).toNat ≤ 100000 ∧ ∀ q, H1 q = none → Q (.ref q) (upd H1 q (.lst (rgV a b)))
theorem pe_listR {p pos : Pos} (hc : X.calm = true) (hg : Gl X "list") (hm : X.mg "list" = none) (he : PRg X e te) (na : starEach [e] X.env = (false, eval e X.env) :: starEach [] X.env := by rfl) : PE X (.Call (.Name "list" p) [e] [] pos) (tLstR te) := by
  refine ⟨fun pins s σ H Q I h => ?_⟩
  refine Call_ (ld_blt I hg hm boot_list (PyProof.Rows.callWith_type1 (args_cons (thn (he pins s σ H _ I h) fun x s1 ⟨r, a, b, t, u, v, H1, ex, hr, I1, few, q⟩ => args_nil ?_) na) na))
  subst ex
  refine LR.call_any (n := (b - a).toNat) (I1.ok.hd hc) hr (rangeSize_nat a b) (Nat.le_trans few (by decide)) fun h' tk acc c' hk e' hi => ?_
  refine ⟨.ref s1.heap.objs.size, upd H1 s1.heap.objs.size (.lst (rgV a b)), I1.laid hk (Nat.le_refl _) ?_, rfl, q _ (I1.hok.fresh (Nat.le_refl _))⟩
  refine show ObjOk X.prog X.w _ _ _ (.lst (rgV a b)) from ⟨?_, acc.toList, c', vals_rg hi, by rw [Array.toArray_toList]; exact e'⟩
  rw [rgV_length, sizeLine_eq]
  omega
variable {K : PySem.W.Frag} {ρ : Env} {ta tb : TE}
theorem rgV_rep {H : Hp} (a b : Int) : RepL K H (rgV a b) (rng a (b - a).toNat) := by
  unfold rng
  have key : ∀ l : List Nat, RepL K H (l.map fun i : Nat => V.int (a + (i : Int))) (l.map fun i : Nat => D.int (a + (i : Int))) := by
    intro l
    induction l with
    | nil => exact .nil
    | cons x l ih => exact .cons (.int _) ih
  exact key _
theorem ef_listR2 {a b : Int} (ha : EvD K ta ρ (.int a)) (hb : EvD K tb ρ (.int b)) (hn : (b - a).toNat ≤ 100000) : EvF K (tLstR (tRg2 ta tb)) ρ (rng a (b - a).toNat) := fun B Hs H σ r Q q =>
  ha B Hs H σ r _ fun Hs1 H1 x g1 x1 => hb B Hs1 H1 σ (r.grow g1) _ fun Hs2 H2 y g2 y2 => by
    cases x1
    cases y2
    refine ⟨a, b, rfl, rfl, hn, fun l hl => ?_⟩
    have g := g1.trans g2
    obtain ⟨n1, n2⟩ := gr_none g hl
    exact q Hs2 _ l _ (g.trans (Gr.newO g2.lv hl)) n1 n2 upd_same (rgV_rep a b)
theorem ef_listR1 {b : Int} (hb : EvD K tb ρ (.int b)) (hn : b.toNat ≤ 100000) : EvF K (tLstR (tRg1 tb)) ρ (rng 0 b.toNat) := fun B Hs H σ r Q q =>
  hb B Hs H σ r _ fun Hs2 H2 y g2 y2 => by
    cases y2
    refine ⟨b, rfl, by rw [Int.sub_zero]; exact hn, fun l hl => ?_⟩
    obtain ⟨n1, n2⟩ := gr_none g2 hl
    have z := rgV_rep (K := K) (H := Hs2) 0 b
    rw [Int.sub_zero] at z
    exact q Hs2 _ l _ (g2.trans (Gr.newO g2.lv hl)) n1 n2 upd_same z
end
end DL
namespace DL
open PySem L2
theorem small_pos {lo hi c : Int} (h0 : 0 ≤ lo) (h1 : lo ≤ 1000000000000) (h2 : 0 ≤ hi) (h3 : hi ≤ 1000000000000) (h4 : 0 < c) (h5 : c ≤ 1000000000) : Builtin.Range.small lo hi c = true := by
  unfold Builtin.Range.small Builtin.Range.rangeFitsLong Builtin.Range.rangeSize
  have d0 : 0 ≤ (hi - lo - 1) / c ∨ ¬ lo < hi := by
    by_cases h : lo < hi
    · exact Or.inl (Int.ediv_nonneg (by omega) (by omega))
    · exact Or.inr h
  have d1 : (hi - lo - 1) / c ≤ 1000000000000 := Int.ediv_le_of_le_mul h4 (by
    have : (1000000000000 : Int) * 1 ≤ 1000000000000 * c := Int.mul_le_mul_of_nonneg_left (by omega) (by omega)
    omega)
  rw [if_pos h4]
  by_cases h : lo < hi
  · have d0' : 0 ≤ (hi - lo - 1) / c := Int.ediv_nonneg (by omega) (by omega)
    rw [if_pos h, if_pos h4]
    simp only [Bool.and_eq_true, Bool.or_eq_true, decide_eq_true_eq]
    omega
  · rw [if_neg h]
    simp only [Bool.and_eq_true, Bool.or_eq_true, decide_eq_true_eq, beq_iff_eq]
    refine ⟨⟨⟨⟨by omega, by omega⟩, by omega⟩, by omega⟩, Or.inl trivial⟩
/-- range(lo, hi, c), upwards -/
theorem rgc_pos {lo hi c : Int} (h0 : 0 ≤ lo) (h1 : lo ≤ 1000000000000) (h2 : 0 ≤ hi) (h3 : hi ≤ 1000000000000) (h4 : 0 < c) (h5 : c ≤ 1000000000) : RgC lo hi c (if lo < hi then (hi - lo - 1) / c + 1 else 0).toNat := by
  refine ⟨by omega, by omega, small_pos h0 h1 h2 h3 h4 h5, ?_⟩
  unfold Builtin.Range.rangeSize
  rw [if_pos h4]
  by_cases h : lo < hi
  · have d0' : 0 ≤ (hi - lo - 1) / c := Int.ediv_nonneg (by omega) (by omega)
    rw [if_pos h]
    omega
  · rw [if_neg h]
    rfl
theorem rngC_get {lo c : Int} {n i : Nat} {d : D} (h : (rngC lo c n)[i]? = some d) : i < n ∧ d = .int (lo + (i : Int) * c) := by
  unfold rngC at h
  rw [List.getElem?_map] at h
  obtain ⟨j, e1, e2⟩ := Option.map_eq_some_iff.mp h
  obtain ⟨hl, e3⟩ := List.getElem?_eq_some_iff.mp e1
  rw [List.length_range] at hl
  rw [List.getElem_range] at e3
  subst e3
  exact ⟨hl, e2.symm⟩
theorem rngC_length (lo c : Int) (n : Nat) : (rngC lo c n).length = n := by unfold rngC; rw [List.length_map, List.length_range]
/-- a place in a short written list of numbers -/
theorem atI2 {a b i : Int} (h0 : 0 ≤ i) (h1 : i < 2) : atI [D.int a, D.int b] i = some (.int ([a, b].getD i.toNat 0)) := atI_int (xs := [a, b]) h0 h1
theorem atI3 {a b c i : Int} (h0 : 0 ≤ i) (h1 : i < 3) : atI [D.int a, D.int b, D.int c] i = some (.int ([a, b, c].getD i.toNat 0)) := atI_int (xs := [a, b, c]) h0 h1
theorem atI4 {a b c d i : Int} (h0 : 0 ≤ i) (h1 : i < 4) : atI [D.int a, D.int b, D.int c, D.int d] i = some (.int ([a, b, c, d].getD i.toNat 0)) := atI_int (xs := [a, b, c, d]) h0 h1
theorem int4 {i : Int} (h0 : 0 ≤ i) (h1 : i < 4) : i = 0 ∨ i = 1 ∨ i = 2 ∨ i = 3 := by omega
theorem int3 {i : Int} (h0 : 0 ≤ i) (h1 : i < 3) : i = 0 ∨ i = 1 ∨ i = 2 := by omega
end DL
namespace DL
open PySem L2
/-- a, a + 1, .., n of them -/
def span (a n : Int) : List Int := (List.range n.toNat).map fun i : Nat => a + (i : Int)
theorem span_length (a n : Int) : (span a n).length = n.toNat := by unfold span; rw [List.length_map, List.length_range]
theorem rng_span (a n : Int) : rng a n.toNat = (span a n).map D.int := by
  unfold rng span
  rw [List.map_map]
  rfl
theorem rng_to (a b n : Int) (h : b = a + n) : rng a (b - a).toNat = (span a n).map D.int := by
  rw [h, show a + n - a = n by omega]
  exact rng_span a n
theorem span_get {a n : Int} {k : Nat} {x : Int} (h : (span a n)[k]? = some x) : a ≤ x ∧ x < a + n ∧ x = a + (k : Int) := by
  unfold span at h
  rw [List.getElem?_map] at h
  obtain ⟨j, e1, e2⟩ := Option.map_eq_some_iff.mp h
  obtain ⟨hl, e3⟩ := List.getElem?_eq_some_iff.mp e1
  rw [List.length_range] at hl
  rw [List.getElem_range] at e3
  subst e3
  omega
theorem span_mem {a n x : Int} : x ∈ span a n ↔ a ≤ x ∧ x < a + n := by
  unfold span
  rw [List.mem_map]
  constructor
  · rintro ⟨i, h1, rfl⟩
    have := List.mem_range.mp h1
    omega
  · rintro ⟨h1, h2⟩
    exact ⟨(x - a).toNat, List.mem_range.mpr (by omega), by omega⟩
section
variable {K : PySem.W.Frag} {ρ : Env} {te : TE} {ds : List D}
/-- a comprehension over numbers a .. a + n - 1 -/
theorem ef_lcR {a n : Int} {w : Int → D} {wi : TI} {g : TG} {vs : List Nat} {m : Nat} (h : EvI K wi ρ (rng a m)) (hm : m = n.toNat) (hz : n ≤ 50000)
    (hs : ∀ x : Int, a ≤ x → x < a + n → ∃ ρ2, EvGc K g (.int x) (wD ρ vs) ρ2 vs ∧ EvD K te ρ2 (w x)) : EvF K (tLc wi g tYes te vs) ρ ((span a n).map w) := by
  subst hm
  exact ef_lc0 (span a n) D.int w rfl (h.is (rng_span a n)) (by rw [span_length]; omega) fun k x hk => hs x (span_get hk).1 (span_get hk).2.1
end
end DL
namespace DL
open PySem L2
section
variable {K : PySem.W.Frag} {ρ : Env} {ta : TE} {α : Type} {f : α → D} {xs : List α}
theorem ev_lenM (ha : EvB K ta ρ (xs.map f)) : EvD K (tCB (rLenA K) (tCons ta tNil)) ρ (.int (xs.length : Int)) := (ev_lenLA ha).is (by rw [List.length_map])
theorem ev_lenMT (ha : EvD K ta ρ (.tup (xs.map f))) : EvD K (tCB (rLenA K) (tCons ta tNil)) ρ (.int (xs.length : Int)) := (ev_lenTA ha).is (by rw [List.length_map])
end
end DL

/-! DMore: short circuits, texts, tuples, sorted pairs, own lists emptied. -/
namespace DL
open PySem L2
section
variable {K : PySem.W.Frag} {ρ ρ' : Env} {te ti ta tb : TE} {d e : D} {ds es : List D} {tt tu : TT} {R : DEnds} {b : Bool}
theorem et_orT (h : EvT K tt ρ true) : EvT K (tOr tt tu) ρ true := et_or (b := true) h fun z => nomatch z
theorem et_orF (h : EvT K tt ρ false) (h2 : EvT K tu ρ b) : EvT K (tOr tt tu) ρ b := et_or h fun _ => h2
theorem et_andF (h : EvT K tt ρ false) : EvT K (tAnd tt tu) ρ false := et_and (b := true) h fun z => nomatch z
theorem et_andT (h : EvT K tt ρ true) (h2 : EvT K tu ρ b) : EvT K (tAnd tt tu) ρ b := et_and h fun _ => h2
theorem ev_orT (h : EvD K ta ρ (.bl true)) : EvD K (tOrV ta tb) ρ (.bl true) := ev_or (b := true) h fun z => nomatch z
theorem ev_orF (h : EvD K ta ρ (.bl false)) (h2 : EvD K tb ρ (.bl b)) : EvD K (tOrV ta tb) ρ (.bl b) := ev_or h fun _ => h2
theorem ev_andF (h : EvD K ta ρ (.bl false)) : EvD K (tAndV ta tb) ρ (.bl false) := ev_and (b := true) h fun z => nomatch z
theorem ev_andT (h : EvD K ta ρ (.bl true)) (h2 : EvD K tb ρ (.bl b)) : EvD K (tAndV ta tb) ρ (.bl b) := ev_and h fun _ => h2
theorem ev_ifT (h : EvT K tt ρ true) (h1 : EvD K ta ρ d) : EvD K (tIf tt ta tb) ρ d := ev_if h (fun _ => h1) fun z => nomatch z
theorem ev_ifF (h : EvT K tt ρ false) (h1 : EvD K tb ρ d) : EvD K (tIf tt ta tb) ρ d := ev_if h (fun z => nomatch z) fun _ => h1
/-! ### texts -/
theorem str_eqv (x y : Str) : PyData.eqv (D.str x).pd (D.str y).pd = decide (x = y) := by
  show (x == y) = _
  rw [Bool.beq_eq_decide_eq]
theorem ev_eqS {x y : Str} (ha : EvD K ta ρ (.str x)) (hb : EvD K tb ρ (.str y)) (fx : (D.str x).fit = true) (fy : (D.str y).fit = true) : EvD K (tOp (rEqD K) ta tb) ρ (.bl (decide (x = y))) := (ev_eq ha.r hb.r fx fy).is (by rw [str_eqv])
theorem ev_neS {x y : Str} (ha : EvD K ta ρ (.str x)) (hb : EvD K tb ρ (.str y)) (fx : (D.str x).fit = true) (fy : (D.str y).fit = true) : EvD K (tOp (rNeD K) ta tb) ρ (.bl (!decide (x = y))) := (ev_ne ha.r hb.r fx fy).is (by rw [str_eqv])
/-! ### tuples -/
theorem cutD_all (lo hi : Option Int) (h : HT.sIx ds.length 0 lo = 0 ∧ HT.sIx ds.length ds.length hi = ds.length) : cutD ds lo hi = ds := by
  unfold cutD
  rw [h.1, h.2, List.drop_zero, Nat.sub_zero, List.take_length]
theorem ev_slT {tl th : TO} {lo hi : Option Int} (ha : EvD K ta ρ (.tup ds)) (hl : EvO K tl ρ lo) (hh : EvO K th ρ hi) : EvD K (tSl (rSlA' K) ta tl th) ρ (.tup (cutD ds lo hi)) := fun B Hs H σ r Q q =>
  ha B Hs H σ r _ fun Hs1 H1 x g1 x1 => hl B Hs1 H1 σ (r.grow g1) _ fun Hs2 H2 g2 => hh B Hs2 H2 σ ((r.grow g1).grow g2) _ fun Hs3 H3 g3 => by
    cases x1 with
    | @tup p vs _ hp xs =>
      have g := (g1.trans g2).trans g3
      have hp3 : Hs3 p = some (.tup vs) := g3.sh _ _ (g2.sh _ _ hp)
      refine .inr ⟨p, vs, rfl, .of (g3.lv _ _ hp3), fun hf => ?_, fun hf l hn => ?_⟩
      · have e := cutD_all (ds := ds) lo hi (by rw [← xs.length]; exact hf)
        exact q Hs3 H3 _ g (by rw [e]; exact .tup hp3 (xs.mono (g2.sh.trans g3.sh)))
      · obtain ⟨n1, n2⟩ := gr_none g hn
        exact q _ _ _ (g.trans (Gr.new g3.lv hn)) (.tup upd_same (((xs.mono (g2.sh.trans g3.sh)).cut lo hi).mono (Ex.new n2)))
theorem ev_addT (ha : EvD K ta ρ (.tup ds)) (hb : EvD K tb ρ (.tup es)) (hl : ds.length + es.length ≤ 100000) : EvD K (tOp (rAddA K) ta tb) ρ (.tup (ds ++ es)) := fun B Hs H σ r Q q =>
  ha B Hs H σ r _ fun Hs1 H1 x g1 x1 => hb B Hs1 H1 σ (r.grow g1) _ fun Hs2 H2 y g2 y1 => by
    cases x1 with
    | @tup p vs _ hp xs =>
      cases y1 with
      | @tup p2 ws _ hp2 ys =>
        have g := g1.trans g2
        have hp' : Hs2 p = some (.tup vs) := g2.sh _ _ hp
        refine .inr (.inr (.inl ⟨p, p2, vs, ws, rfl, rfl, .of (g2.lv _ _ hp'), .of (g2.lv _ _ hp2), by rw [xs.length, ys.length]; exact sz_of hl, fun hf => ?_, fun _ hf => ?_, fun _ _ l hn => ?_⟩))
        · subst hf
          cases xs
          exact q Hs2 H2 _ g (.tup hp2 ys)
        · subst hf
          cases ys
          exact q Hs2 H2 _ g (by rw [List.append_nil]; exact .tup hp' (xs.mono g2.sh))
        · obtain ⟨n1, n2⟩ := gr_none g hn
          exact q _ _ _ (g.trans (Gr.new g2.lv hn)) (.tup upd_same (((xs.mono g2.sh).append ys).mono (Ex.new n2)))
/-- == and != with () -/
theorem ev_eqNT {xs : List D} (ha : EvR K ta ρ (.tup xs)) (hb : EvR K tb ρ (.tup [])) (fx : (D.tup xs).fit = true) : EvD K (tOp (rEqD K) ta tb) ρ (.bl xs.isEmpty) := (ev_eq ha hb fx rfl).is (by
  cases xs <;> rfl)
theorem ev_neNT {xs : List D} (ha : EvR K ta ρ (.tup xs)) (hb : EvR K tb ρ (.tup [])) (fx : (D.tup xs).fit = true) : EvD K (tOp (rNeD K) ta tb) ρ (.bl (!xs.isEmpty)) := (ev_ne ha hb fx rfl).is (by
  cases xs <;> rfl)
/-! ### int(True), divmod -/
abbrev rInt1 : List V → Hp → VK → Prop := fun xs H Q => (∃ i, xs = [V.int i] ∧ Q (.int i) H) ∨ ∃ k, xs = [V.bl k] ∧ Q (.int (if k then 1 else 0)) H
theorem ev_intI {i : Int} (ha : EvD K ta ρ (.int i)) : EvD K (tCB rInt1 (tCons ta tNil)) ρ (.int i) := fun B Hs H σ r Q q =>
  ha B Hs H σ r _ fun Hs1 H1 v g x => by
    cases x
    exact .inl ⟨i, rfl, q Hs1 H1 _ g (.int _)⟩
theorem ev_intB {k : Bool} (ha : EvD K ta ρ (.bl k)) : EvD K (tCB rInt1 (tCons ta tNil)) ρ (.int (if k then 1 else 0)) := fun B Hs H σ r Q q =>
  ha B Hs H σ r _ fun Hs1 H1 v g x => by
    cases x
    exact .inr ⟨k, rfl, q Hs1 H1 _ g (.int _)⟩
abbrev rDivmod : List V → Hp → VK → Prop := fun xs H Q => ∃ i j : Int, xs = [V.int i, V.int j] ∧ CDiv i j ∧ ∀ p, H p = none → Q (.ref p) (upd H p (.tup [V.int (i / j), V.int (i % j)]))
theorem ev_divmod {i j : Int} (ha : EvD K ta ρ (.int i)) (hb : EvD K tb ρ (.int j)) (hc : CDiv i j) : EvD K (tCB rDivmod (tCons ta (tCons tb tNil))) ρ (.tup [.int (i / j), .int (i % j)]) := fun B Hs H σ r Q q =>
  ha B Hs H σ r _ fun Hs1 H1 v g1 x => hb B Hs1 H1 σ (r.grow g1) _ fun Hs2 H2 w g2 y => by
    cases x
    cases y
    refine ⟨i, j, rfl, hc, fun p hn => ?_⟩
    have g := g1.trans g2
    obtain ⟨n1, n2⟩ := gr_none g hn
    exact q _ _ _ (g.trans (Gr.new g2.lv hn)) (.tup upd_same (.cons (.int _) (.cons (.int _) .nil)))
/-! ### xs[::-1] -/
theorem ef_rev (ha : EvB K ta ρ ds) : EvF K (tRevL K ta) ρ ds.reverse := fun B Hs H σ r Q q =>
  ha B Hs H σ r _ fun Hs1 H1 p vs g hp xs => ⟨p, vs, rfl, hp, fun l hn => by
    obtain ⟨n1, n2⟩ := gr_none g hn
    exact q Hs1 _ l _ (g.trans (Gr.newO g.lv hn)) n1 n2 upd_same xs.rev⟩
/-! ### sorted of pairs of numbers: some arrangement -/
theorem perm_reps {H : Hp} : ∀ {vs ws : List V}, ws.Perm vs → ∀ {ds : List D}, RepL K H vs ds → ∃ es, es.Perm ds ∧ RepL K H ws es := by
  intro vs ws hp
  induction hp with
  | nil => intro ds h; cases h; exact ⟨[], .nil, .nil⟩
  | cons x _ ih =>
    intro ds h
    cases h with
    | cons a b =>
      obtain ⟨es, p, r⟩ := ih b
      exact ⟨_ :: es, p.cons _, .cons a r⟩
  | swap x y l =>
    intro ds h
    cases h with
    | cons a b =>
      cases b with
      | cons c d => exact ⟨_, List.Perm.swap _ _ _, .cons c (.cons a d)⟩
  | trans _ _ ih1 ih2 =>
    intro ds h
    obtain ⟨es, p, r⟩ := ih2 h
    obtain ⟨fs, p2, r2⟩ := ih1 r
    exact ⟨fs, p2.trans p, r2⟩
theorem xs_sortP {i : Nat} {ps : List (Int × Int)} (ha : EvB K ta ρ (ps.map fun x => D.tup [.int x.1, .int x.2])) (q : ∀ qs : List (Int × Int), qs.Perm ps → R.nx (ρ.set i (some (.ol (qs.map fun x => D.tup [.int x.1, .int x.2]))))) :
    ExS K (tAsg (tCB (rSortedP K) (tCons ta tNil)) (gName i)) ρ R := fun B Hs H σ Dn r l =>
  ha B Hs H σ r _ fun Hs1 H1 p vs g hp xs => by
    refine ⟨p, vs, rfl, hp, fun x m => ?_, fun ys p2 pm hn => ?_⟩
    · obtain ⟨j, hj⟩ := List.mem_iff_getElem?.mp m
      obtain ⟨d, hd, rd⟩ := xs.get hj
      rw [List.getElem?_map] at hd
      obtain ⟨z, _, rfl⟩ := Option.map_eq_some_iff.mp hd
      cases rd with
      | @tup t ws _ ht rs =>
        have e := RepL.ints (ns := [z.1, z.2]) rs
        subst e
        exact ⟨t, z.1, z.2, rfl, g.lv _ _ ht⟩
    · obtain ⟨es, pe, re⟩ := perm_reps pm xs
      obtain ⟨n1, n2⟩ := gr_none g hn
      have key : ∀ {es ds : List D}, es.Perm ds → ∀ ps : List (Int × Int), ds = ps.map (fun x => D.tup [.int x.1, .int x.2]) → ∃ qs : List (Int × Int), qs.Perm ps ∧ es = qs.map fun x => D.tup [.int x.1, .int x.2] := by
        intro es ds hp
        induction hp with
        | nil =>
          intro ps e
          cases ps with
          | nil => exact ⟨[], .nil, rfl⟩
          | cons _ _ => cases e
        | cons x _ ih =>
          intro ps e
          cases ps with
          | nil => cases e
          | cons a ps =>
            have e1 := (List.cons.inj e).1
            obtain ⟨qs, h1, h2⟩ := ih ps (List.cons.inj e).2
            exact ⟨a :: qs, h1.cons _, by rw [e1, h2]; rfl⟩
        | swap x y l =>
          intro ps e
          match ps, e with
          | a :: b :: ps, e =>
            have e1 := (List.cons.inj e).1
            have e2 := (List.cons.inj (List.cons.inj e).2).1
            have e3 := (List.cons.inj (List.cons.inj e).2).2
            exact ⟨b :: a :: ps, List.Perm.swap _ _ _, by rw [e1, e2, e3]; rfl⟩
        | trans _ _ ih1 ih2 =>
          intro ps e
          obtain ⟨qs, h1, h2⟩ := ih2 ps e
          obtain ⟨rs, h3, h4⟩ := ih1 qs h2
          exact ⟨rs, h3.trans h1, h4⟩
      obtain ⟨qs, h1, rfl⟩ := key pe ps rfl
      exact l.nx _ _ _ _ (r.setO (g.trans (Gr.newO g.lv hn)) i n1 upd_same n2 re) (q qs h1)
/-! ### own lists -/
/-- xs.clear() -/
theorem xs_clear {i : Nat} (hx : ρ[i]? = some (some (.ol ds))) (q : R.nx (ρ.set i (some (.ol [])))) : ExS K (tDrop (tBM0 K "list" rClear (tVar i))) ρ R := fun B Hs H σ Dn r l => by
  obtain ⟨p, vs, e, hp, x, m⟩ := r.mutL i hx
  refine ⟨.ref p, e, .inl ⟨rfl, _, .of hp⟩, p, vs, rfl, rfl, hp, ?_⟩
  exact l.nx Hs _ _ _ (m _ _ .nil) q
/-- an own list comes back as a new one -/
theorem xs_retV {i : Nat} (hi : ρ[i]? = some (some (.ol ds))) (q : R.rf ds) : ExS K (tRet (tVar i)) ρ R := fun B Hs H σ Dn r l => by
  obtain ⟨S, h1, h2, h3, h4⟩ := id r.reg
  obtain ⟨v, hv, p, vs, e1, e2, x⟩ := h1 i _ hi
  subst e1
  have hp : S i p = some (.lst vs) := by rw [e2]; exact if_pos rfl
  exact ⟨.ref p, hv, l.rf Hs H p vs ds r.gr (h4 i _ p hi rfl (by rw [hp]; exact fun z => nomatch z)) (h2 i p _ hp).2.1 (h2 i p _ hp).1 x q⟩
/-- what follows is shown once, whatever way came ahead -/
theorem xs_cut {ts us : TS} (I : Env → Prop) (h1 : ExS K ts ρ { R with nx := I }) (h2 : ∀ ρ', I ρ' → ExS K us ρ' R) : ExS K (tSeq ts us) ρ R := fun B Hs H σ Dn r l =>
  h1 B Hs H σ _ r ⟨fun Hs' H' σ' ρ' r' q => h2 ρ' q B Hs' H' σ' Dn r' l, l.rt, l.rf, l.bk, l.ct, l.ro, l.ex, l.rn⟩
/-- a value of which only something is known -/
theorem xs_asgR {α : Type} {pre : α → Prop} {arg : α → List D} {post : α → D → Prop} {E : XK} {ta : TA} {i : Nat} (x : α) (h : EvA K ta ρ (arg x)) (p : pre x) (q : ∀ d, post x d → R.nx (ρ.set i (some (.sh d)))) :
    ExS K (tAsg (tCall (spR K pre arg post) [] E ta) (gName i)) ρ R := fun B Hs H σ Dn r l =>
  h B Hs H σ r _ fun Hs1 H1 vs g1 xs => by
    rw [List.append_nil]
    exact ⟨Hs1, x, g1.lv, xs, p, fun Hs' H' v d g y e => l.nx Hs' H' _ _ ((r.grow (g1.trans g)).set i y) (q d e)⟩
theorem xs_retR {α : Type} {pre : α → Prop} {arg : α → List D} {post : α → D → Prop} {E : XK} {ta : TA} (x : α) (h : EvA K ta ρ (arg x)) (p : pre x) (q : ∀ d, post x d → R.rt d) :
    ExS K (tRet (tCall (spR K pre arg post) [] E ta)) ρ R := fun B Hs H σ Dn r l =>
  h B Hs H σ r _ fun Hs1 H1 vs g1 xs => by
    rw [List.append_nil]
    exact ⟨Hs1, x, g1.lv, xs, p, fun Hs' H' v d g y e => l.rt Hs' H' v d (r.gr.trans (g1.trans g)) y (q d e)⟩
theorem ev_lenS1 {α : Type} {f : α → D} {xs : List α} {d : D} (ha : EvB K ta ρ (xs.map f ++ [d])) : EvD K (tCB (rLenA K) (tCons ta tNil)) ρ (.int ((xs.length : Int) + 1)) := (ev_lenLA ha).is (by simp)
/-! ### in -/
theorem inV_ints (i : Int) : ∀ xs : List Int, inV (.int i) (xs.map V.int) = decide (i ∈ xs)
  | [] => rfl
  | x :: xs => by
    have ih := inV_ints i xs
    unfold inV at ih ⊢
    rw [List.map_cons, List.any_cons, ih]
    by_cases h : x = i
    · subst h
      simp [eqV]
    · have h2 : (x == i) = false := by simpa using h
      have h3 : ¬ i = x := fun z => h z.symm
      simp [eqV, h2, h3]
theorem ev_inI {i : Int} {xs : List Int} (ha : EvD K ta ρ (.int i)) (hb : EvB K tb ρ (xs.map D.int)) : EvD K (tOp (rInA K) ta tb) ρ (.bl (decide (i ∈ xs))) := fun B Hs H σ r Q q =>
  ha B Hs H σ r _ fun Hs1 H1 x g1 x1 => hb B Hs1 H1 σ (r.grow g1) _ fun Hs2 H2 p vs g2 hp ys => by
    cases x1
    have e := ys.ints
    subst e
    refine .inl ⟨p, xs.map V.int, rfl, .inl hp, rfl, by simp [flatV], ?_⟩
    rw [if_neg (by decide), inV_ints]
    exact q Hs2 H2 _ (g1.trans g2) (.bl _)
theorem ev_notInI {i : Int} {xs : List Int} (ha : EvD K ta ρ (.int i)) (hb : EvB K tb ρ (xs.map D.int)) : EvD K (tOp (rNotInA K) ta tb) ρ (.bl (!decide (i ∈ xs))) := fun B Hs H σ r Q q =>
  ha B Hs H σ r _ fun Hs1 H1 x g1 x1 => hb B Hs1 H1 σ (r.grow g1) _ fun Hs2 H2 p vs g2 hp ys => by
    cases x1
    have e := ys.ints
    subst e
    refine .inl ⟨p, xs.map V.int, rfl, .inl hp, rfl, by simp [flatV], ?_⟩
    rw [if_pos rfl, inV_ints]
    exact q Hs2 H2 _ (g1.trans g2) (.bl _)
/-- in a list of data of a kind -/
theorem any_cod {α : Type} [DecidableEq α] {n : Nat} {f : α → D} (c : Cod n f) (x : α) : ∀ xs : List α, (D.pds (xs.map f)).any (fun z => PyData.eqv z (f x).pd) = decide (x ∈ xs)
  | [] => rfl
  | y :: ys => by
    have ih := any_cod c x ys
    show (PyData.eqv (f y).pd (f x).pd || (D.pds (ys.map f)).any fun z => PyData.eqv z (f x).pd) = _
    rw [ih, c.eq]
    by_cases h : y = x
    · subst h
      simp
    · have h3 : ¬ x = y := fun z => h z.symm
      simp [h, h3]
theorem ev_inC {α : Type} [DecidableEq α] {n : Nat} {f : α → D} (c : Cod n f) (hn : n < 64) {x : α} {xs : List α} (ha : EvR K ta ρ (f x)) (hb : EvR K tb ρ (.lst (xs.map f))) : EvD K (tOp (rInA K) ta tb) ρ (.bl (decide (x ∈ xs))) := fun B Hs H σ r Q q =>
  ha B Hs H σ r _ fun Hs1 H1 x g1 x1 => hb B Hs1 H1 σ (r.grow g1) _ fun Hs2 H2 y g2 y1 => by
    have f1 := c.fit (by omega) ‹α›
    have f2 := c.lst.fit (by omega) xs
    unfold D.fit at f1 f2
    rw [Bool.and_eq_true] at f1 f2
    refine .inr (.inl ⟨_, _, (x1.mono g2.fr).dp f1.1, y1.dp f2.1, f1.2, f2.2, ?_⟩)
    rw [any_cod c]
    exact q Hs2 H2 _ (g1.trans g2) (.bl _)
/-! ### the same data on both sides -/
mutual
theorem D.eqv_refl : ∀ d : D, PyData.eqv d.pd d.pd = true
  | .non => rfl
  | .bl b => by show (b == b) = true; exact beq_self_eq_true b
  | .int i => by show (i == i) = true; exact beq_self_eq_true i
  | .str s => by rw [str_eqv]; exact decide_eq_true rfl
  | .ty _ => rfl
  | .fn _ => rfl
  | .lst xs => D.eqv_refls xs
  | .scr xs => D.eqv_refls xs
  | .tup xs => D.eqv_refls xs
  | .obj _ _ _ => rfl
theorem D.eqv_refls : ∀ ds : List D, PyData.eqvAll (D.pds ds) (D.pds ds) = true
  | [] => rfl
  | d :: ds => by
    show (PyData.eqv d.pd d.pd && PyData.eqvAll (D.pds ds) (D.pds ds)) = true
    rw [D.eqv_refl d, D.eqv_refls ds]
    rfl
end
structure Ft (n : Nat) (d : D) : Prop where
  pl : d.pl = true
  lay : d.pd.canLay0 = true
  dp : d.pd.depth ≤ n
theorem Ft.fit {n : Nat} {d : D} (f : Ft n d) (hn : n ≤ 64) : d.fit = true := by
  unfold D.fit SeqAt.shaped
  have h2 : decide (d.pd.depth ≤ 64) = true := decide_eq_true (Nat.le_trans f.dp hn)
  rw [f.pl, f.lay, h2]
  rfl
theorem Ft.up {n m : Nat} {d : D} (f : Ft n d) (h : n ≤ m) : Ft m d := ⟨f.pl, f.lay, Nat.le_trans f.dp h⟩
theorem ft_int (i : Int) : Ft 0 (.int i) := ⟨rfl, rfl, Nat.le_refl _⟩
theorem ft_bl (i : Bool) : Ft 0 (.bl i) := ⟨rfl, rfl, Nat.le_refl _⟩
theorem ft_non : Ft 0 .non := ⟨rfl, rfl, Nat.le_refl _⟩
theorem ft_str {x : Str} (h : (D.str x).pd.canLay0 = true) : Ft 0 (.str x) := ⟨rfl, h, Nat.le_refl _⟩
theorem ft_alls {n : Nat} : ∀ ds : List D, (∀ d ∈ ds, Ft n d) → D.pls ds = true ∧ PyData.canLayAll0 (D.pds ds) = true ∧ PyData.depthAll (D.pds ds) ≤ n
  | [], _ => ⟨rfl, rfl, Nat.zero_le _⟩
  | d :: ds, h => by
    obtain ⟨h1, h2, h3⟩ := ft_alls ds fun x hx => h x (List.mem_cons_of_mem _ hx)
    have f := h d List.mem_cons_self
    refine ⟨?_, ?_, ?_⟩
    · show (D.pl d && D.pls ds) = true
      rw [f.pl, h1]
      rfl
    · show (PyData.canLay0 d.pd && PyData.canLayAll0 (D.pds ds)) = true
      rw [f.lay, h2]
      rfl
    · have := f.dp
      show PyData.depthAll (d.pd :: D.pds ds) ≤ n
      simp only [PyData.depthAll]
      omega
theorem ft_tup {n : Nat} {ds : List D} (h : ∀ d ∈ ds, Ft n d) : Ft (n + 1) (.tup ds) := by
  obtain ⟨h1, h2, h3⟩ := ft_alls ds h
  refine ⟨h1, h2, ?_⟩
  show PyData.depthAll (D.pds ds) + 1 ≤ n + 1
  omega
theorem ft_lst {n : Nat} {ds : List D} (h : ∀ d ∈ ds, Ft n d) : Ft (n + 1) (.lst ds) := by
  obtain ⟨h1, h2, h3⟩ := ft_alls ds h
  refine ⟨h1, h2, ?_⟩
  show PyData.depthAll (D.pds ds) + 1 ≤ n + 1
  omega
theorem ft_ints (xs : List Int) : Ft 1 (.lst (xs.map .int)) := ft_lst fun d h => by
  obtain ⟨i, _, rfl⟩ := List.mem_map.mp h
  exact ft_int i
theorem ft_tints (xs : List Int) : Ft 1 (.tup (xs.map .int)) := ft_tup fun d h => by
  obtain ⟨i, _, rfl⟩ := List.mem_map.mp h
  exact ft_int i
theorem ev_eqX {d : D} (ha : EvR K ta ρ d) (hb : EvR K tb ρ d) (f : d.fit = true) : EvD K (tOp (rEqD K) ta tb) ρ (.bl true) := (ev_eq ha hb f f).is (by rw [D.eqv_refl])
theorem ev_neX {d : D} (ha : EvR K ta ρ d) (hb : EvR K tb ρ d) (f : d.fit = true) : EvD K (tOp (rNeD K) ta tb) ρ (.bl false) := (ev_ne ha hb f f).is (by rw [D.eqv_refl]; rfl)
/-- stretches of a .. a + n - 1 -/
theorem span_take (a n : Int) (m : Nat) : (span a n).take m = span a (min (m : Int) n) := by
  unfold span
  rw [← List.map_take, List.take_range]
  congr 2
  omega
theorem span_drop (a n : Int) (m : Nat) : (span a n).drop m = span (a + m) (n - m) := by
  unfold span
  apply List.ext_getElem
  · simp only [List.length_drop, List.length_map, List.length_range]
    omega
  · intro i h1 h2
    simp only [List.getElem_drop, List.getElem_map, List.getElem_range]
    omega
theorem filter_perm {α : Type} (p : α → Bool) : ∀ xs : List α, (xs.filter p ++ xs.filter fun x => !p x).Perm xs
  | [] => .nil
  | x :: xs => by
    have ih := filter_perm p xs
    cases h : p x with
    | true =>
      rw [List.filter_cons_of_pos h, List.filter_cons_of_neg (by simp [h])]
      exact ih.cons x
    | false =>
      rw [List.filter_cons_of_neg (by simp [h]), List.filter_cons_of_pos (by simp [h])]
      exact List.perm_middle.trans (ih.cons x)
theorem get_span {α : Type} (xs : List α) (d : α) : (span 0 (xs.length : Int)).map (fun k => xs.getD k.toNat d) = xs := by
  unfold span
  rw [List.map_map]
  apply List.ext_getElem
  · simp
  · intro i h1 h2
    simp only [List.getElem_map, List.getElem_range, Function.comp_apply]
    rw [show ((0 : Int) + (i : Int)).toNat = i by omega, List.getD_eq_getElem?_getD, List.getElem?_eq_getElem h2]
    rfl
/-- f(g(..)), of g's answer only something is known -/
theorem ev_call_R {α β : Type} {pre : α → Prop} {arg : α → List D} {post : α → D → Prop} {pre2 : β → Prop} {arg2 : β → List D} {res2 : β → D} {E E2 : XK} {ta : TA} (x : α) (h : EvA K ta ρ (arg x)) (p : pre x) (k : ∀ e, post x e → ∃ y : β, arg2 y = [e] ∧ pre2 y ∧ res2 y = d) :
    EvD K (tCall (spG K pre2 arg2 res2) [] E2 (tCons (tCall (spR K pre arg post) [] E ta) tNil)) ρ d := fun B Hs H σ r Q q =>
  h B Hs H σ r _ fun Hs1 H1 vs g1 xs => by
    rw [List.append_nil]
    refine ⟨Hs1, x, g1.lv, xs, p, fun Hs' H' v e g y z => ?_⟩
    obtain ⟨b, e1, e2, e3⟩ := k e z
    show spG K pre2 arg2 res2 ([v] ++ []) H' Q E2
    exact ⟨Hs', b, g.lv, by rw [e1]; exact .cons y .nil, e2, fun Hs2 H2 u f g2 y2 z2 => q Hs2 H2 u ((g1.trans g).trans g2) (by rw [z2, e3] at y2; exact y2)⟩
/-- a statement that is never reached -/
theorem xs_never (h : False) {t : TS} : ExS K t ρ R := h.elim
end
section
variable {X : Cx} {K : PySem.W.Frag}
theorem revLK (h : X.K = K) {e : Expr} {te : TE} {k : Nat} {p1 p2 p3 pos : Pos} (he : PE X e te) : PE X (.Subscript e (.Slice none none (some (.UnaryOp .USub (.Constant (.int 1) k p1) p2)) p3) pos) (tRevL K te) := by subst h; exact pe_revL he
theorem sortPK (h : X.K = K) : CallR X (.builtin "sorted") (rSortedP K) := by subst h; exact cr_sortedP
end
end DL

/-! DTree: slots that hold trees: reading at a path, changing there, new trees, freezing. -/
namespace DL
open PySem L2
@[reducible] def SV.tr (K : PySem.W.Frag) (nw : Bool) (o : O) : SV := .ow nw fun Hs v R => Own K Hs v o R
section
variable {K : PySem.W.Frag} {B : Base} {Hs H Hs' H' : Hp} {σ : St} {ρ ρ' : Env} {nw : Bool} {o o1 : O} {i : Nat} {p : List Nat}
/-- what lies at a path of slot i's tree, and how it may be changed -/
theorem RS.part (r : RS K B Hs H σ ρ) {R : Nat → Hp} (rg : Reg K B Hs H σ ρ R) (hi : ρ[i]? = some (some (.tr K nw o))) (hp : o.at_ p = some o1) :
    ∃ v0 v1 S, σ[i]? = some (some v0) ∧ VAt H v0 p v1 ∧ Own K Hs v1 o1 S ∧ (∀ a u, S a = some u → H a = some u ∧ Hs a = none ∧ R i a ≠ none) ∧
      ∀ {H' S' : Hp} {o' : O}, Own K Hs v1 o' S' → (∀ a u, S' a = some u → H' a = some u ∧ (S a ≠ none ∨ Fresh B Hs R a)) → (∀ a u, S a = none → H a = some u → H' a = some u) → (∀ a, H a ≠ none → H' a ≠ none) → RS K B Hs H' σ (ρ.set i (some (.tr K nw (o.put p o')))) := by
  obtain ⟨v0, hv, hh⟩ := rg.1 i _ hi
  have ow : Own K Hs v0 o (R i) := hh Hs (Ex.refl Hs)
  obtain ⟨v1, S, T, va, h1, d1, e1, k1⟩ := ow.part hp
  have sub : ∀ a u, S a = some u → R i a = some u := fun a u e => by rw [e1, jn_l e]
  refine ⟨v0, v1, S, hv, va.mono fun a u e => (rg.2.1 i a u e).1, h1, fun a u e => ⟨(rg.2.1 i a u (sub a u e)).1, (rg.2.1 i a u (sub a u e)).2.1, by rw [sub a u e]; exact fun z => nomatch z⟩, fun {H' S' o'} h' c1 c2 c3 => ?_⟩
  have dT : ∀ a, S' a ≠ none → T a = none := fun a ha => by
    cases z : S' a with
    | none => exact absurd z ha
    | some u =>
      rcases (c1 a u z).2 with y | y
      · exact d1 a y
      · have := y.1 i
        rw [e1] at this
        exact (jn_none.mp this).2
  refine r.mutR rg i hi (fun z => z) hv (T := jn S' T) (fun Hs1 x => (k1 (Ex.refl Hs) h' dT).mono x) (fun a u e => ?_) (fun a u e e' => ?_) c3
  · cases z : S' a with
    | some w =>
      rw [jn_l z] at e
      have e' := Option.some.inj e
      subst e'
      refine ⟨(c1 a w z).1, (c1 a w z).2.imp (fun y => ?_) id⟩
      rw [e1]
      intro q
      exact y (jn_none.mp q).1
    | none =>
      rw [jn_r z] at e
      have hS : S a = none := by
        cases y : S a with
        | none => rfl
        | some w =>
          rw [d1 a (by rw [y]; exact fun z => nomatch z)] at e
          cases e
      have hR : R i a = some u := by rw [e1, jn_r hS, e]
      exact ⟨c2 a u hS (rg.2.1 i a u hR).1, .inl (by rw [hR]; exact fun z => nomatch z)⟩
  · rw [e1] at e
    exact c2 a u (jn_none.mp e).1 e'
/-! ### freezing -/
mutual
def O.toD : O → D
  | .sh d => d
  | .ol xs => .lst (O.toDs xs)
  | .ob C ns xs => .obj C ns (O.toDs xs)
  | .dg _ _ => .non
def O.toDs : List O → List D
  | [] => []
  | x :: xs => x.toD :: O.toDs xs
end
mutual
/-- no dict in it -/
def O.frz : O → Bool
  | .sh _ => true
  | .ol xs => O.frzs xs
  | .ob _ _ xs => O.frzs xs
  | .dg _ _ => false
def O.frzs : List O → Bool
  | [] => true
  | x :: xs => x.frz && O.frzs xs
end
theorem jn_ex {R S Hs : Hp} (h : ∀ a u, R a = some u → S a = some u) : Ex (jn R Hs) (jn S Hs) → Ex (jn R Hs) (jn S Hs) := id
mutual
theorem Own.fz : ∀ {v : V} {o : O} {R : Hp}, Own K Hs v o R → o.frz = true → (∀ a u, R a = some u → Hs a = none) → ∀ G, (∀ a u, R a = some u → G a = some u) → Ex Hs G → Rep K G v o.toD
  | _, _, _, .sh h, _, _, G, _, e => by
    unfold O.toD
    exact h.mono e
  | _, _, _, .ol (p := p) (vs := vs) (R := R1) n h, f, d, G, g, e => by
    unfold O.toD
    refine .lst (g p _ upd_same) (OwnL.fz h (by unfold O.frz at f; exact f) (fun a u z => ?_) G (fun a u z => ?_) e)
    · have na : a ≠ p := fun y => by rw [y, n] at z; cases z
      exact d a u (by rw [upd_ne na]; exact z)
    · have na : a ≠ p := fun y => by rw [y, n] at z; cases z
      exact g a u (by rw [upd_ne na]; exact z)
  | _, _, _, .ob (p := p) (vs := vs) (R := R1) n l h, f, d, G, g, e => by
    unfold O.toD
    refine .obj (g p _ upd_same) (OwnL.fz h (by unfold O.frz at f; exact f) (fun a u z => ?_) G (fun a u z => ?_) e)
    · have na : a ≠ p := fun y => by rw [y, n] at z; cases z
      exact d a u (by rw [upd_ne na]; exact z)
    · have na : a ≠ p := fun y => by rw [y, n] at z; cases z
      exact g a u (by rw [upd_ne na]; exact z)
  | _, _, _, .dg _, f, _, _, _, _ => by cases f
theorem OwnL.fz : ∀ {vs : List V} {os : List O} {R : Hp}, OwnL K Hs vs os R → O.frzs os = true → (∀ a u, R a = some u → Hs a = none) → ∀ G, (∀ a u, R a = some u → G a = some u) → Ex Hs G → RepL K G vs (O.toDs os)
  | _, _, _, .nil, _, _, G, _, _ => by
    unfold O.toDs
    exact .nil
  | _, _, _, .cons (R := R1) (S := R2) h r c, f, d, G, g, e => by
    unfold O.toDs
    unfold O.frzs at f
    rw [Bool.and_eq_true] at f
    refine .cons (Own.fz h f.1 (fun a u z => d a u (jn_l z)) G (fun a u z => g a u (jn_l z)) e) (OwnL.fz r f.2 (fun a u z => ?_) G (fun a u z => ?_) e)
    · have : R1 a = none := by
        cases y : R1 a with
        | none => rfl
        | some w =>
          rw [c a (by rw [y]; exact fun q => nomatch q)] at z
          cases z
      exact d a u (by rw [jn_r this]; exact z)
    · have : R1 a = none := by
        cases y : R1 a with
        | none => rfl
        | some w =>
          rw [c a (by rw [y]; exact fun q => nomatch q)] at z
          cases z
      exact g a u (by rw [jn_r this]; exact z)
end
theorem Own.fzJ {v : V} {R : Hp} (h : Own K Hs v o R) (f : o.frz = true) (d : ∀ a u, R a = some u → Hs a = none) : Rep K (jn R Hs) v o.toD :=
  h.fz f d (jn R Hs) (fun a u z => jn_l z) fun a u z => by
    rw [jn_r]
    · exact z
    · cases y : R a with
      | none => rfl
      | some w =>
        rw [d a w y] at z
        cases z
theorem RS.fzT (r : RS K B Hs H σ ρ) (hi : ρ[i]? = some (some (.tr K nw o))) (hn : nw = true ∨ ∀ a, B.h a = none) (f : o.frz = true) : ∃ Hs2, Ex Hs Hs2 ∧ Ex Hs2 H ∧ RS K B Hs2 H σ (ρ.set i (some (.sh o.toD))) :=
  r.fzR i hi hn fun v R hh d => Own.fzJ (hh Hs (Ex.refl Hs)) f d
end
section
variable {K : PySem.W.Frag} {ρ ρ' : Env} {nw : Bool} {o o1 o2 : O} {i : Nat} {p : List Nat} {te ta tb ti tw : TE} {d : D} {ds es : List D} {tt : TT} {R : DEnds} {xs : List O}
theorem xs_frz {ts : TS} (i : Nat) (hi : ρ[i]? = some (some (.tr K true o))) (f : o.frz = true) (h : ExS K ts (ρ.set i (some (.sh o.toD))) R) : ExS K ts ρ R := fun B Hs H σ Dn r l => by
  obtain ⟨Hs2, e1, e2, r2⟩ := r.fzT hi (.inl rfl) f
  exact h B Hs2 H σ Dn r2 l
theorem EvD.thawT (i : Nat) (hi : ρ[i]? = some (some (.tr K nw o))) (f : o.frz = true) (h : EvD K te (ρ.set i (some (.sh o.toD))) d) (hd : d.scal = true) : EvD K te ρ d := fun B Hs H σ r Q q => by
  obtain ⟨Hs2, e1, e2, r2⟩ := r.temp.fzT hi (.inr fun _ => rfl) f
  exact h _ Hs2 H σ r2 Q fun Hs' H' v g x => q Hs H' v (gr_thaw e1 g) (x.scal hd)
theorem EvT.thawT (i : Nat) {b : Bool} (hi : ρ[i]? = some (some (.tr K nw o))) (f : o.frz = true) (h : EvT K tt (ρ.set i (some (.sh o.toD))) b) : EvT K tt ρ b := fun B Hs H σ r Q q => by
  obtain ⟨Hs2, e1, e2, r2⟩ := r.temp.fzT hi (.inr fun _ => rfl) f
  exact h _ Hs2 H σ r2 Q fun Hs' H' g => q Hs H' (gr_thaw e1 g)
theorem EvF.thawT (i : Nat) (hi : ρ[i]? = some (some (.tr K nw o))) (f : o.frz = true) (h : EvF K te (ρ.set i (some (.sh o.toD))) es) (hd : es.all D.scal = true) : EvF K te ρ es := fun B Hs H σ r Q q => by
  obtain ⟨Hs2, e1, e2, r2⟩ := r.temp.fzT hi (.inr fun _ => rfl) f
  refine h _ Hs2 H σ r2 Q fun Hs' H' p vs g n ns e x => q Hs H' p vs (gr_thaw e1 g) n ?_ e (x.scal hd)
  cases z : Hs p with
  | none => rfl
  | some o =>
    rw [r.ex p o z] at n
    cases n
/-! ### reading at a path -/
/-- te gives what lies at the path p of slot i -/
def EvW (K : PySem.W.Frag) (te : TE) (ρ : Env) (i : Nat) (p : List Nat) : Prop := ∀ B Hs H σ, RS K B Hs H σ ρ → ∀ Q : VK, (∀ Hs' H' v0 v, Gr Hs H H Hs' H' → σ[i]? = some (some v0) → VAt H' v0 p v → Q v H') → te σ H Q
theorem ew_var (hi : ρ[i]? = some (some (.tr K nw o))) : EvW K (tVar i) ρ i [] := fun B Hs H σ r Q q => by
  obtain ⟨R, rg⟩ := r.reg
  obtain ⟨v0, hv, _⟩ := rg.1 i _ hi
  exact ⟨v0, hv, q Hs H v0 v0 (Gr.refl r.ex) hv .nil⟩
theorem Own.ob_inv {Hs : Hp} {v : V} {C : Addr} {ns : List Str} {S : Hp} (h : Own K Hs v (.ob C ns xs) S) : ∃ q dx vs R1, v = .ref q ∧ R1 q = none ∧ ns.length = xs.length ∧ OwnL K Hs vs xs R1 ∧ S = upd R1 q (.ins C dx (ns.zip vs)) := by
  cases h with
  | ob n l h => exact ⟨_, _, _, _, rfl, n, l, h, rfl⟩
theorem Own.ol_inv {Hs : Hp} {v : V} {S : Hp} (h : Own K Hs v (.ol xs) S) : ∃ q vs R1, v = .ref q ∧ R1 q = none ∧ OwnL K Hs vs xs R1 ∧ S = upd R1 q (.lst vs) := by
  cases h with
  | ol n h => exact ⟨_, _, _, rfl, n, h, rfl⟩
theorem look_zipN {f : Str} : ∀ {ns : List Str} {vs : List V} {j : Nat}, ns.findIdx? (· == f) = some j → ns.length = vs.length → ∃ u, (ns.zip vs).lookup f = some u ∧ vs[j]? = some u
  | [], vs, j, h, _ => by simp at h
  | n :: ns, [], j, _, hl => by simp at hl
  | n :: ns, v :: vs, j, h, hl => by
    rw [List.findIdx?_cons] at h
    rw [List.zip_cons_cons, List.lookup_cons]
    by_cases e : (n == f) = true
    · rw [if_pos e] at h
      have h' := Option.some.inj h
      subst h'
      have e2 : (f == n) = true := by rw [beq_iff_eq] at e ⊢; exact e.symm
      rw [e2]
      exact ⟨v, rfl, rfl⟩
    · rw [if_neg e] at h
      obtain ⟨k, hk, rfl⟩ := Option.map_eq_some_iff.mp h
      have e2 : (f == n) = false := by
        cases z : (f == n) with
        | false => rfl
        | true => rw [beq_iff_eq] at z; exact absurd (by rw [z]; exact beq_self_eq_true n) e
      rw [e2]
      exact look_zipN (j := k) hk (by simpa using hl)
theorem ew_fld {f : Str} {C : Addr} {ns : List Str} {j : Nat} (h : EvW K te ρ i p) (hi : ρ[i]? = some (some (.tr K nw o))) (hp : o.at_ p = some (.ob C ns xs)) (hj : ns.findIdx? (· == f) = some j) (hc : Cls K C) (hn : NoAttr K C f) : EvW K (tFld K te f) ρ i (p ++ [j]) := fun B Hs H σ r Q q =>
  h B Hs H σ r _ fun Hs1 H1 v0 v g hv va => by
    have r1 := r.grow g
    obtain ⟨R, rg⟩ := r1.reg
    obtain ⟨v0', v1, S, hv', va', ow, sub, _⟩ := r1.part rg hi hp
    rw [hv] at hv'
    cases hv'
    have e := va.det va'
    subst e
    obtain ⟨a, dx, vs, R1, rfl, n, l, hl, rfl⟩ := ow.ob_inv
    obtain ⟨u, h1, h2⟩ := look_zipN hj (by rw [hl.length]; exact l)
    have ha := (sub a _ upd_same).1
    refine ⟨a, C, dx, _, u, rfl, ha, hc, hn, h1, q Hs1 H1 v0 u g hv (va.app ?_)⟩
    obtain ⟨f', hf⟩ := zip_get (ns := ns) (by rw [hl.length]; exact l) h2
    exact .ins ha hf .nil
theorem ew_ix {n : Int} {j : Nat} (h : EvW K te ρ i p) (hi : ρ[i]? = some (some (.tr K nw o))) (hp : o.at_ p = some (.ol xs)) (hk : EvD K ti ρ (.int n)) (hj : ixN xs.length n = some j) (hl : j < xs.length) : EvW K (tOp (rIx K) te ti) ρ i (p ++ [j]) := fun B Hs H σ r Q q =>
  h B Hs H σ r _ fun Hs1 H1 v0 v g hv va => hk B Hs1 H1 σ (r.grow g) _ fun Hs2 H2 y g2 y2 => by
    cases y2
    have r2 := (r.grow g).grow g2
    obtain ⟨R, rg⟩ := r2.reg
    obtain ⟨v0', v1, S, hv', va', ow, sub, _⟩ := r2.part rg hi hp
    rw [hv] at hv'
    cases hv'
    have va2 := va.mono g2.fr
    have e := va2.det va'
    subst e
    obtain ⟨a, vs, R1, rfl, nn, hl', rfl⟩ := ow.ol_inv
    have ha := (sub a _ upd_same).1
    have hjv : j < vs.length := by rw [hl'.length]; exact hl
    refine .inl ⟨a, vs, n, vs[j], rfl, rfl, .of ha, ?_, q Hs2 H2 v0 _ (g.trans g2) hv (va2.app (.lst ha (List.getElem?_eq_getElem hjv) .nil))⟩
    unfold atI
    rw [hl'.length, hj]
    exact List.getElem?_eq_getElem hjv
theorem ev_W (h : EvW K te ρ i p) (hi : ρ[i]? = some (some (.tr K nw o))) (hp : o.at_ p = some (.sh d)) : EvD K te ρ d := fun B Hs H σ r Q q =>
  h B Hs H σ r _ fun Hs1 H1 v0 v g hv va => by
    have r1 := r.grow g
    obtain ⟨R, rg⟩ := r1.reg
    obtain ⟨v0', v1, S, hv', va', ow, sub, _⟩ := r1.part rg hi hp
    rw [hv] at hv'
    cases hv'
    have e := va.det va'
    subst e
    cases ow with
    | sh x => exact q Hs1 H1 v g x
theorem em_W (h : EvW K te ρ i p) (hi : ρ[i]? = some (some (.tr K nw o))) (hp : o.at_ p = some (.ol (ds.map .sh))) : EvM K te ρ ds := fun B Hs H σ r Q q =>
  h B Hs H σ r _ fun Hs1 H1 v0 v g hv va => by
    have r1 := r.grow g
    obtain ⟨R, rg⟩ := r1.reg
    obtain ⟨v0', v1, S, hv', va', ow, sub, _⟩ := r1.part rg hi hp
    rw [hv] at hv'
    cases hv'
    have e := va.det va'
    subst e
    obtain ⟨a, vs, R1, rfl, nn, hl', rfl⟩ := ow.ol_inv
    exact q Hs1 H1 a vs g (sub a _ upd_same).1 hl'.reps.1
/-- how many a list at a path has -/
theorem ev_lenW (h : EvW K te ρ i p) (hi : ρ[i]? = some (some (.tr K nw o))) (hp : o.at_ p = some (.ol xs)) : EvD K (tCB (rLenA K) (tCons te tNil)) ρ (.int (xs.length : Int)) := fun B Hs H σ r Q q =>
  h B Hs H σ r _ fun Hs1 H1 v0 v g hv va => by
    have r1 := r.grow g
    obtain ⟨R, rg⟩ := r1.reg
    obtain ⟨v0', v1, S, hv', va', ow, sub, _⟩ := r1.part rg hi hp
    rw [hv] at hv'
    cases hv'
    have e := va.det va'
    subst e
    obtain ⟨a, vs, R1, rfl, nn, hl', rfl⟩ := ow.ol_inv
    refine .inl ⟨a, vs, rfl, .inl (.of (sub a _ upd_same).1), ?_⟩
    rw [hl'.length]
    exact q Hs1 H1 _ g (.int _)
theorem ev_inW {P : Int → Bool} {n : Nat} {k : Int} (hk : EvD K ta ρ (.int k)) (h : EvW K te ρ i p) (hi : ρ[i]? = some (some (.tr K nw o))) (hp : o.at_ p = some (.dk P n)) : EvD K (tOp (rInA K) ta te) ρ (.bl (P k)) := fun B Hs H σ r Q q =>
  hk B Hs H σ r _ fun Hs0 H0 y g0 y0 => h B Hs0 H0 σ (r.grow g0) _ fun Hs1 H1 v0 v g hv va => by
    cases y0
    have r1 := (r.grow g0).grow g
    obtain ⟨R, rg⟩ := r1.reg
    obtain ⟨v0', v1, S, hv', va', ow, sub, _⟩ := r1.part rg hi hp
    rw [hv] at hv'
    cases hv'
    have e := va.det va'
    subst e
    cases ow with
    | @dg a _ _ kvs hk =>
      refine .inr (.inr (.inl ⟨a, _, rfl, DGet.k (k := (Sum.inl k : Key)) (sub a _ upd_same).1, ?_⟩))
      rw [hk.2 k]
      exact q Hs1 H1 _ (g0.trans g) (.bl _)
theorem ev_notInW {P : Int → Bool} {n : Nat} {k : Int} (hk : EvD K ta ρ (.int k)) (h : EvW K te ρ i p) (hi : ρ[i]? = some (some (.tr K nw o))) (hp : o.at_ p = some (.dk P n)) : EvD K (tOp (rNotInA K) ta te) ρ (.bl (!P k)) := fun B Hs H σ r Q q =>
  hk B Hs H σ r _ fun Hs0 H0 y g0 y0 => h B Hs0 H0 σ (r.grow g0) _ fun Hs1 H1 v0 v g hv va => by
    cases y0
    have r1 := (r.grow g0).grow g
    obtain ⟨R, rg⟩ := r1.reg
    obtain ⟨v0', v1, S, hv', va', ow, sub, _⟩ := r1.part rg hi hp
    rw [hv] at hv'
    cases hv'
    have e := va.det va'
    subst e
    cases ow with
    | @dg a _ _ kvs hk =>
      refine .inr (.inr (.inl ⟨a, _, rfl, DGet.k (k := (Sum.inl k : Key)) (sub a _ upd_same).1, ?_⟩))
      rw [hk.2 k]
      exact q Hs1 H1 _ (g0.trans g) (.bl _)
/-! ### new trees -/
def EvN (K : PySem.W.Frag) (te : TE) (ρ : Env) (o : O) : Prop := ∀ B Hs H σ, RS K B Hs H σ ρ → ∀ Q : VK, (∀ Hs' H' v S, Gr Hs H H Hs' H' → Own K Hs' v o S → (∀ a u, S a = some u → H' a = some u ∧ H a = none ∧ Hs' a = none) → Q v H') → te σ H Q
theorem EvF.n (h : EvF K te ρ ds) : EvN K te ρ (.ol (ds.map .sh)) := fun B Hs H σ r Q q => h B Hs H σ r _ fun Hs1 H1 p vs g n ns e x => by
  refine q Hs1 H1 _ _ g (.ol rfl (ownL_sh x)) fun a u z => ?_
  by_cases y : a = p
  · subst y
    rw [upd_same] at z
    cases z
    exact ⟨e, n, ns⟩
  · rw [upd_ne y] at z
    cases z
theorem EvN.is (h : EvN K te ρ o) (e : o = o1) : EvN K te ρ o1 := e ▸ h
theorem EvN.v (h : EvN K te ρ o) (f : o.frz = true) : EvD K te ρ o.toD := fun B Hs H σ r Q q => h B Hs H σ r _ fun Hs1 H1 v S g ow sub => by
  have d : ∀ a u, S a = some u → Hs1 a = none := fun a u e => (sub a u e).2.2
  have ex1 : Ex Hs1 (jn S Hs1) := fun a u e => by
    rw [jn_r]
    · exact e
    · cases y : S a with
      | none => rfl
      | some w =>
        rw [d a w y] at e
        cases e
  have ex2 : Ex (jn S Hs1) H1 := fun a u e => by
    cases y : S a with
    | some w =>
      rw [jn_l y] at e
      have e' := Option.some.inj e
      subst e'
      exact (sub a w y).1
    | none =>
      rw [jn_r y] at e
      exact g.lv a u e
  refine q (jn S Hs1) H1 v ⟨g.fr, g.sh.trans ex1, ex2, fun a x => ?_, g.dm⟩ (ow.fzJ f d)
  cases y : S a with
  | some w => exact absurd (sub a w y).2.1 x
  | none =>
    rw [jn_r y]
    exact g.nw a x
theorem en_dict : EvN K tDNewK ρ (.dk (fun _ => false) 0) := fun B Hs H σ r Q q => fun p hp => by
  obtain ⟨n1, n2⟩ := gr_none (Gr.refl r.ex) hp
  refine q Hs _ _ _ (Gr.newO r.ex hp) (.dg (kvs := []) ⟨Nat.le_refl _, fun i => rfl⟩) fun a u z => ?_
  by_cases y : a = p
  · subst y
    rw [upd_same] at z ⊢
    exact ⟨z, hp, n2⟩
  · rw [upd_ne y] at z
    cases z
theorem xs_asgN (h : EvN K te ρ o) (q : R.nx (ρ.set i (some (.tr K true o)))) : ExS K (tAsg te (gName i)) ρ R := fun B Hs H σ Dn r l =>
  h B Hs H σ r _ fun Hs1 H1 v S g ow sub => l.nx Hs1 H1 _ _ (r.setR g i (sv := .tr K true o) (T := S) (fun a u e => ⟨(sub a u e).2.1, (sub a u e).1, (sub a u e).2.2⟩) (fun Hs2 x => ow.mono x)) q
/-! ### changes at a path -/
theorem upd_keep {H : Hp} {q a : Addr} {x y : HO} (h : H q = some x) (e : H a ≠ none) : upd H q y a ≠ none := by
  by_cases z : a = q
  · rw [z, upd_same]
    exact fun w => nomatch w
  · rw [upd_ne z]
    exact e
/-- .append(e) at a path -/
theorem xs_appW (hw : EvW K te ρ i p) (hi : ρ[i]? = some (some (.tr K nw o))) (hp : o.at_ p = some (.ol xs)) (h : EvD K ta ρ d) (hz : xs.length < 100000) (q : R.nx (ρ.set i (some (.tr K nw (o.put p (.ol (xs ++ [.sh d]))))))) :
    ExS K (tDrop (tBM K "list" rAppend te (tCons ta tNil))) ρ R := fun B Hs H σ Dn r l =>
  hw B Hs H σ r _ fun Hs1 H1 v0 v g hv va => by
    have r1 := r.grow g
    obtain ⟨R1, rg1⟩ := r1.reg
    obtain ⟨v0', v1, S, hv', va', ow, sub, _⟩ := r1.part rg1 hi hp
    rw [hv] at hv'
    cases hv'
    have e := va.det va'
    subst e
    obtain ⟨a, vs, Ra, rfl, nn, hl', rfl⟩ := ow.ol_inv
    refine ⟨.inl ⟨rfl, _, .of (sub a _ upd_same).1⟩, h B Hs1 H1 σ r1 _ fun Hs2 H2 w g2 y => ?_⟩
    have r2 := r1.grow g2
    have rg2 : Reg K B Hs2 H2 σ ρ R1 := Reg.grow rg1 g2
    obtain ⟨v0', v1, S, hv', va', ow, sub, k⟩ := r2.part rg2 hi hp
    rw [hv] at hv'
    cases hv'
    have e := (va.mono g2.fr).det va'
    subst e
    obtain ⟨a', vs, Ra, ea, nn, hl', rfl⟩ := ow.ol_inv
    cases ea
    have ha := (sub a _ upd_same).1
    refine ⟨a, vs, w, rfl, rfl, ha, by rw [hl'.length]; exact sz_lt hz, l.nx Hs2 _ _ _ (k (S' := upd Ra a (.lst (vs ++ [w]))) (o' := .ol (xs ++ [.sh d])) (.ol nn ?_) (fun b u z => ?_) (fun b u z e => ?_) fun b e => upd_keep ha e) q⟩
    · have c := OwnL.snoc (Own.sh y) hl' fun a ha => absurd rfl ha
      rw [jn_em] at c
      exact c
    · by_cases eb : b = a
      · subst eb
        rw [upd_same] at z ⊢
        exact ⟨z, .inl (by rw [upd_same]; exact fun q => nomatch q)⟩
      · rw [upd_ne eb] at z ⊢
        exact ⟨(sub b u (by rw [upd_ne eb]; exact z)).1, .inl (by rw [upd_ne eb, z]; exact fun q => nomatch q)⟩
    · rw [upd_ne (fun eb => by rw [eb, upd_same] at z; cases z)]
      exact e
/-- .append(a new tree) at a path -/
theorem xs_appWN (hw : EvW K te ρ i p) (hi : ρ[i]? = some (some (.tr K nw o))) (hp : o.at_ p = some (.ol xs)) (h : EvN K ta ρ o2) (hz : xs.length < 100000) (q : R.nx (ρ.set i (some (.tr K nw (o.put p (.ol (xs ++ [o2]))))))) :
    ExS K (tDrop (tBM K "list" rAppend te (tCons ta tNil))) ρ R := fun B Hs H σ Dn r l =>
  hw B Hs H σ r _ fun Hs1 H1 v0 v g hv va => by
    have r1 := r.grow g
    obtain ⟨R1, rg1⟩ := r1.reg
    obtain ⟨v0', v1, S, hv', va', ow, sub, _⟩ := r1.part rg1 hi hp
    rw [hv] at hv'
    cases hv'
    have e := va.det va'
    subst e
    obtain ⟨a, vs, Ra, rfl, nn, hl', rfl⟩ := ow.ol_inv
    refine ⟨.inl ⟨rfl, _, .of (sub a _ upd_same).1⟩, h B Hs1 H1 σ r1 _ fun Hs2 H2 w Sn g2 own subn => ?_⟩
    have r2 := r1.grow g2
    have rg2 : Reg K B Hs2 H2 σ ρ R1 := Reg.grow rg1 g2
    obtain ⟨v0', v1, S, hv', va', ow, sub, k⟩ := r2.part rg2 hi hp
    rw [hv] at hv'
    cases hv'
    have e := (va.mono g2.fr).det va'
    subst e
    obtain ⟨a', vs, Ra, ea, nn, hl', rfl⟩ := ow.ol_inv
    cases ea
    have ha := (sub a _ upd_same).1
    have hRa : ∀ b u, Ra b = some u → b ≠ a := fun b u z eb => by rw [eb, nn] at z; cases z
    have disj : ∀ b, Sn b ≠ none → upd Ra a (.lst vs) b = none := fun b hb => by
      cases z : Sn b with
      | none => exact absurd z hb
      | some u =>
        cases y : upd Ra a (.lst vs) b with
        | none => rfl
        | some w =>
          have := (r1.fresh rg1 (subn b u z).2.1).1 i
          exact absurd this (sub b w y).2.2
    have nSa : Sn a = none := by
      cases z : Sn a with
      | none => rfl
      | some u =>
        have := disj a (by rw [z]; exact fun q => nomatch q)
        rw [upd_same] at this
        cases this
    refine ⟨a, vs, w, rfl, rfl, ha, by rw [hl'.length]; exact sz_lt hz, l.nx Hs2 _ _ _ (k (S' := upd (jn Sn Ra) a (.lst (vs ++ [w]))) (o' := .ol (xs ++ [o2])) (.ol (jn_none.mpr ⟨nSa, nn⟩) ?_) (fun b u z => ?_) (fun b u z e => ?_) fun b e => upd_keep ha e) q⟩
    · refine OwnL.snoc own hl' fun b hb => ?_
      have := disj b hb
      by_cases eb : b = a
      · subst eb
        exact nn
      · rw [upd_ne eb] at this
        exact this
    · by_cases eb : b = a
      · subst eb
        rw [upd_same] at z ⊢
        exact ⟨z, .inl (by rw [upd_same]; exact fun q => nomatch q)⟩
      · rw [upd_ne eb] at z ⊢
        cases y : Sn b with
        | some w' =>
          rw [jn_l y] at z
          have z' := Option.some.inj z
          subst z'
          exact ⟨(subn b w' y).1, .inr ((r1.fresh rg1 (subn b w' y).2.1).grow (subn b w' y).2.2)⟩
        | none =>
          rw [jn_r y] at z
          exact ⟨(sub b u (by rw [upd_ne eb]; exact z)).1, .inl (by rw [upd_ne eb, z]; exact fun q => nomatch q)⟩
    · rw [upd_ne (fun eb => by rw [eb, upd_same] at z; cases z)]
      exact e
/-- d[k] = v, a dict of numbers at a path -/
theorem xs_putW {P : Int → Bool} {n : Nat} {k : Int} (h : EvD K ta ρ d) (hw : EvW K te ρ i p) (hi : ρ[i]? = some (some (.tr K nw o))) (hp : o.at_ p = some (.dk P n)) (hk : EvD K ti ρ (.int k)) (hz : n < 100000) (q : R.nx (ρ.set i (some (.tr K nw (o.put p (.dk (fun x => P x || decide (x = k)) (n + 1))))))) :
    ExS K (tAsg ta (gSub te ti rSetA)) ρ R := fun B Hs H σ Dn r l =>
  h B Hs H σ r _ fun Hs0 H0 w g0 y0 => hw B Hs0 H0 σ (r.grow g0) _ fun Hs1 H1 v0 v g hv va => hk B Hs1 H1 σ ((r.grow g0).grow g) _ fun Hs2 H2 z g2 z2 => by
    cases z2
    have r2 := ((r.grow g0).grow g).grow g2
    obtain ⟨R2, rg2⟩ := r2.reg
    obtain ⟨v0', v1, S, hv', va', ow, sub, kk⟩ := r2.part rg2 hi hp
    rw [hv] at hv'
    cases hv'
    have e := (va.mono g2.fr).det va'
    subst e
    cases ow with
    | @dg a _ _ kvs hkv =>
      have ha := (sub a _ upd_same).1
      refine .inr ⟨a, _, rfl, DPut.k (k := (Sum.inl k : Key)) ha (Nat.lt_of_le_of_lt hkv.1 (sz_lt hz)), l.nx Hs2 _ _ _ (kk (S' := upd em a (.dK (putK kvs (Sum.inl k : Key) w))) (.dg ⟨?_, fun x => ?_⟩) (fun b u z => ?_) (fun b u z e => ?_) fun b e => upd_keep ha e) q⟩
      · have := length_putK kvs (Sum.inl k : Key) w
        have := hkv.1
        omega
      · rw [valV_put]
        by_cases e : x = k
        · subst e
          rw [if_pos rfl]
          simp
        · rw [if_neg (fun z => e (Sum.inl.inj z)), hkv.2 x]
          simp [e]
      · by_cases eb : b = a
        · subst eb
          rw [upd_same] at z ⊢
          exact ⟨z, .inl (by rw [upd_same]; exact fun q => nomatch q)⟩
        · rw [upd_ne eb] at z
          cases z
      · rw [upd_ne (fun eb => by rw [eb, upd_same] at z; cases z)]
        exact e
end
end DL
namespace DL
open PySem L2
open PyProof.Rows (envOfC)
section
variable {K : PySem.W.Frag} {ρ ρ' : Env} {nw : Bool} {o o1 o2 : O} {i : Nat} {p : List Nat} {te ta tb ti tw : TE} {d : D} {ds es : List D} {tt : TT} {R : DEnds} {xs : List O}
/-! ### defs that give a new tree -/
def spN (K : PySem.W.Frag) {α : Type} (pre : α → Prop) (arg : α → List D) (res : α → O) : Sp := fun vs H Q _ => ∃ (Hs : Hp) (x : α), Ex Hs H ∧ RepL K Hs vs (arg x) ∧ pre x ∧
  ∀ Hs' H' v S, Gr Hs H H Hs' H' → Own K Hs' v (res x) S → (∀ a u, S a = some u → H' a = some u ∧ H a = none ∧ Hs' a = none) → Q v H'
theorem en_call {α : Type} {pre : α → Prop} {arg : α → List D} {res : α → O} {E : XK} {ta : TA} (x : α) (h : EvA K ta ρ (arg x)) (p : pre x) : EvN K (tCall (spN K pre arg res) [] E ta) ρ (res x) := fun B Hs H σ r Q q =>
  h B Hs H σ r _ fun Hs1 H1 vs g1 xs => by
    rw [List.append_nil]
    refine ⟨Hs1, x, g1.lv, xs, p, fun Hs' H' v S g ow c => q Hs' H' v S (g1.trans g) ow fun a u e => ⟨(c a u e).1, ?_, (c a u e).2.2⟩⟩
    have n := (c a u e).2.1
    cases z : H a with
    | none => rfl
    | some w =>
      rw [g1.fr a w z] at n
      cases n
theorem xs_retN' (h : EvN K te ρ o) (q : R.rn o) : ExS K (tRet te) ρ R := fun B Hs H σ Dn r l =>
  h B Hs H σ r _ fun Hs1 H1 v S g ow c => l.rn Hs1 H1 v o S (r.gr.trans g) ow (fun a u e => ⟨(c a u e).1, by
    have n := (c a u e).2.1
    cases z : B.h a with
    | none => rfl
    | some w => exact absurd n (r.gr.dm a (by rw [z]; exact fun y => nomatch y)), (c a u e).2.2⟩) q
theorem xs_retT (hi : ρ[i]? = some (some (.tr K true o))) (q : R.rn o) : ExS K (tRet (tVar i)) ρ R := fun B Hs H σ Dn r l => by
  obtain ⟨S, rg⟩ := r.reg
  obtain ⟨v0, hv, hh⟩ := rg.1 i _ hi
  exact ⟨v0, hv, l.rn Hs H v0 o (S i) r.gr (hh Hs (Ex.refl Hs)) (fun a u e => ⟨(rg.2.1 i a u e).1, rg.2.2.2 i _ a hi rfl (by rw [e]; exact fun z => nomatch z), (rg.2.1 i a u e).2.1⟩) q⟩
variable {P : Program} {w : World} {mg : Str → Option Value} {base : Heap} {x qual : Str} {st : Stmt} {f : Addr} {fd : FuncData} {N ps : List Str} {k : Nat} {α : Type} {pre : α → Prop} {arg : α → List D}
theorem fn_n {res : α → O} (F : Fun K x qual st f fd) (S : FnScope N ps (defScope st)) (hl : ∀ x, (arg x).length = ps.length) {t : TS}
    (hb : ∀ (cdv : Value) (A : Around) (outer : List PySem.Env) (s : Shared) (H : Hp) (E : XK), Room k (A.deeper (envOfC qual (defScope st) s.heap.objs.size f cdv)) → PSs (cxOf CX0 P w K mg base N qual (defScope st) f cdv A outer s H E).nox (defBody st) t)
    (hd : ∀ x, pre x → ExS K t (entry N (arg x)) { nx := fun _ => False, rt := fun _ => False, rn := fun o => o = res x }) : FnOk P w K mg base CX0 (k + 1) f fd ps (spN K pre arg res) := by
  have hN : ps.length ≤ N.length := by have := congrArg List.length S.pre; rw [List.length_take] at this; omega
  refine F.ok S (fun vs H Q E h => ?_) (fun cdv A outer s H vs Q E hr h => ?_)
  · obtain ⟨Hs, x, _, r, _⟩ := h
    rw [r.length, hl]
  · obtain ⟨Hs, x, e, r, hp, q⟩ := h
    refine ⟨t, hb cdv A outer s H E hr, ?_⟩
    exact hd x hp ⟨Hs, H, H⟩ Hs H (L2.start N vs) _ (rs_entry e r (by rw [hl]; exact hN))
      ⟨fun Hs' H' σ ρ r' z => z.elim, fun Hs' H' v d g x z => z.elim, fun Hs' H' p ws ds g n ns e x z => z.elim, fun _ _ _ _ _ z => z.elim, fun _ _ _ _ _ z => z.elim, fun _ _ _ _ _ _ _ _ z => z.elim, fun _ _ _ _ _ _ _ _ _ z => z.elim,
        fun Hs' H' v o S g ow c z => q Hs' H' v S g (z ▸ ow) c⟩
/-- an own list is a tree -/
theorem RS.tree {B : Base} {Hs H : Hp} {σ : St} (r : RS K B Hs H σ ρ) (hi : ρ[i]? = some (some (.ol ds))) : RS K B Hs H σ (ρ.set i (some (.tr K true (.ol (ds.map .sh))))) := by
  obtain ⟨S, rg⟩ := r.reg
  obtain ⟨v0, hv, pp, vs, rfl, e2, q⟩ := rg.1 i _ hi
  refine r.mutR rg i hi (fun _ => rfl) hv (T := S i) (fun Hs1 x => ?_) (fun a u e => ⟨(rg.2.1 i a u e).1, .inl (by rw [e]; exact fun z => nomatch z)⟩) (fun a u _ e => e) fun a e => e
  have e : S i = upd em pp (.lst vs) := by
    rw [e2]
    funext a
    by_cases z : a = pp
    · rw [if_pos z, z, upd_same]
    · rw [if_neg z, upd_ne z]
      rfl
  show Own K Hs1 (.ref pp) (.ol (ds.map .sh)) (S i)
  rw [e]
  exact .ol rfl (ownL_sh (q.mono x))
theorem xs_tree {ts : TS} (i : Nat) (hi : ρ[i]? = some (some (.ol ds))) (h : ExS K ts (ρ.set i (some (.tr K true (.ol (ds.map .sh))))) R) : ExS K ts ρ R := fun B Hs H σ Dn r l => h B Hs H σ Dn (r.tree hi) l
/-- .insert(0, e) at a path -/
abbrev rInsert : V → List V → Hp → VK → Prop := fun x vs H Q => ∃ (l : Addr) (xs : List V) (i : Int) (y : V), x = .ref l ∧ vs = [.int i, y] ∧ H l = some (.lst xs) ∧ xs.length < sizeLine ∧ 0 ≤ i ∧ i < 2 ^ 63 ∧ Q .non (upd H l (.lst (xs.take i.toNat ++ [y] ++ xs.drop i.toNat)))
theorem OwnL.ins0 {Hs : Hp} {v : V} {vs : List V} {S : Hp} (h : OwnL K Hs vs xs S) (x : Rep K Hs v d) : OwnL K Hs (v :: vs) (.sh d :: xs) S := by
  have c := OwnL.cons (Own.sh x) h fun a ha => absurd rfl ha
  rw [jn_em] at c
  exact c
theorem xs_insW (hw : EvW K te ρ i p) (hi : ρ[i]? = some (some (.tr K nw o))) (hp : o.at_ p = some (.ol xs)) (hk : EvD K ti ρ (.int 0)) (h : EvD K ta ρ d) (hz : xs.length < 100000) (q : R.nx (ρ.set i (some (.tr K nw (o.put p (.ol (.sh d :: xs))))))) :
    ExS K (tDrop (tBM K "list" rInsert te (tCons ti (tCons ta tNil)))) ρ R := fun B Hs H σ Dn r l =>
  hw B Hs H σ r _ fun Hs1 H1 v0 v g hv va => by
    have r1 := r.grow g
    obtain ⟨R1, rg1⟩ := r1.reg
    obtain ⟨v0', v1, S, hv', va', ow, sub, _⟩ := r1.part rg1 hi hp
    rw [hv] at hv'
    cases hv'
    have e := va.det va'
    subst e
    obtain ⟨a, vs, Ra, rfl, nn, hl', rfl⟩ := ow.ol_inv
    refine ⟨.inl ⟨rfl, _, .of (sub a _ upd_same).1⟩, hk B Hs1 H1 σ r1 _ fun Hs0 H0 z0 g0 y0 => h B Hs0 H0 σ (r1.grow g0) _ fun Hs2 H2 w g2 y => ?_⟩
    cases y0
    have r2 := (r1.grow g0).grow g2
    have rg2 : Reg K B Hs2 H2 σ ρ R1 := Reg.grow (Reg.grow rg1 g0) g2
    obtain ⟨v0', v1, S, hv', va', ow, sub, k⟩ := r2.part rg2 hi hp
    rw [hv] at hv'
    cases hv'
    have e := (va.mono (g0.fr.trans g2.fr)).det va'
    subst e
    obtain ⟨a', vs, Ra, ea, nn, hl', rfl⟩ := ow.ol_inv
    cases ea
    have ha := (sub a _ upd_same).1
    refine ⟨a, vs, 0, w, rfl, rfl, ha, by rw [hl'.length]; exact sz_lt hz, by decide, by decide, l.nx Hs2 _ _ _ (k (S' := upd Ra a (.lst (w :: vs))) (o' := .ol (.sh d :: xs)) (.ol nn (hl'.ins0 y)) (fun b u z => ?_) (fun b u z e => ?_) fun b e => upd_keep ha e) q⟩
    · by_cases eb : b = a
      · subst eb
        rw [upd_same] at z ⊢
        exact ⟨z, .inl (by rw [upd_same]; exact fun q => nomatch q)⟩
      · rw [upd_ne eb] at z ⊢
        exact ⟨(sub b u (by rw [upd_ne eb]; exact z)).1, .inl (by rw [upd_ne eb, z]; exact fun q => nomatch q)⟩
    · rw [upd_ne (fun eb => by rw [eb, upd_same] at z; cases z)]
      exact e
/-- trees that are lists of lists -/
def llO (dss : List (List D)) : O := .ol (dss.map fun ds : List D => O.ol (ds.map .sh))
theorem toDs_sh : ∀ ds : List D, O.toDs (ds.map .sh) = ds
  | [] => rfl
  | d :: ds => by
    show O.toD (.sh d) :: O.toDs (ds.map .sh) = d :: ds
    rw [toDs_sh ds]
    rfl
theorem frzs_sh : ∀ ds : List D, O.frzs (ds.map .sh) = true
  | [] => rfl
  | d :: ds => by
    show (O.frz (.sh d) && O.frzs (ds.map .sh)) = true
    rw [frzs_sh ds]
    rfl
theorem llO_toD : ∀ dss : List (List D), (llO dss).toD = .lst (dss.map D.lst) := by
  intro dss
  show D.lst (O.toDs _) = _
  congr 1
  induction dss with
  | nil => rfl
  | cons ds dss ih =>
    show D.lst (O.toDs (ds.map .sh)) :: O.toDs _ = _
    rw [toDs_sh, ih]
    rfl
theorem llO_frz : ∀ dss : List (List D), (llO dss).frz = true := by
  intro dss
  show O.frzs _ = true
  induction dss with
  | nil => rfl
  | cons ds dss ih =>
    show (O.frzs (ds.map .sh) && O.frzs _) = true
    rw [frzs_sh, ih]
    rfl
theorem llO_kid {dss : List (List D)} {j : Nat} {ds : List D} (h : dss[j]? = some ds) : (llO dss).at_ [j] = some (.ol (ds.map .sh)) := by
  show ((dss.map fun ds : List D => O.ol (ds.map .sh))[j]?).bind (fun x => x.at_ []) = _
  rw [List.getElem?_map, h]
  rfl
theorem llO_put {dss : List (List D)} {j : Nat} {ds es : List D} (h : dss[j]? = some ds) : (llO dss).put [j] (.ol (es.map .sh)) = llO (dss.set j es) := by
  show (match (dss.map fun ds : List D => O.ol (ds.map .sh))[j]? with
    | none => llO dss
    | some x => (llO dss).wk ((dss.map fun ds : List D => O.ol (ds.map .sh)).set j (x.put [] (.ol (es.map .sh))))) = _
  rw [List.getElem?_map, h]
  show O.ol _ = O.ol _
  congr 1
  rw [List.map_set]
  rfl
end
end DL
namespace DL
open PySem L2
/-- an own list at a known address -/
@[reducible] def SV.trA (K : PySem.W.Frag) (a : Addr) (ds : List D) : SV := .ow true fun Hs v R => v = .ref a ∧ ∃ vs, RepL K Hs vs ds ∧ R = upd em a (.lst vs)
/-- a tree without what lies at p; that is at a -/
@[reducible] def SV.hole (K : PySem.W.Frag) (o : O) (p : List Nat) (a : Addr) (u : V) : SV := .ow true fun Hs v R => v = u ∧ ∀ (o' : O) (S' : Hp), Own K Hs (.ref a) o' S' → (∀ b, S' b ≠ none → R b = none) → Own K Hs v (o.put p o') (jn S' R)
section
variable {K : PySem.W.Frag} {B : Base} {Hs H Hs' H' : Hp} {σ : St} {ρ ρ' : Env} {o : O} {i j : Nat} {p : List Nat} {ds es : List D} {R : DEnds} {te ta : TE} {d : D}
/-- the regions of two slots dealt out anew -/
theorem RS.deal (r : RS K B Hs H σ ρ) {R : Nat → Hp} (rg : Reg K B Hs H σ ρ R) (hij : i ≠ j) {vi : V} {svi : SV} {oj : Option SV} {xj : Option V} (hl : i < ρ.length) {T S : Hp} (ht : ∀ a u, T a = some u → R i a = some u ∨ R j a = some u) (hs : ∀ a u, S a = some u → R i a = some u ∨ R j a = some u)
    (hd : ∀ a, T a ≠ none → S a = none) (h1 : Holds K Hs T vi svi) (h2 : ∀ sv, oj = some sv → ∃ v, xj = some v ∧ Holds K Hs S v sv) (hb : ∀ a, T a ≠ none ∨ S a ≠ none → B.h a = none) :
    RS K B Hs H ((σ.set j xj).set i (some vi)) ((ρ.set j oj).set i (some svi)) := by
  obtain ⟨g1, g2, g3, g4⟩ := rg
  have sub : ∀ (m : Nat) (a : Addr), (if m = i then T else if m = j then S else R m) a ≠ none → ∃ m', (m = i ∨ m = j → m' = i ∨ m' = j) ∧ (m ≠ i → m ≠ j → m' = m) ∧ R m' a = (if m = i then T else if m = j then S else R m) a := fun m a ha => by
    by_cases q : m = i
    · rw [if_pos q] at ha ⊢
      cases z : T a with
      | none => exact absurd z ha
      | some u =>
        rcases ht a u z with y | y
        · exact ⟨i, fun _ => .inl rfl, fun n => absurd q n, y⟩
        · exact ⟨j, fun _ => .inr rfl, fun n => absurd q n, y⟩
    · rw [if_neg q] at ha ⊢
      by_cases q' : m = j
      · rw [if_pos q'] at ha ⊢
        cases z : S a with
        | none => exact absurd z ha
        | some u =>
          rcases hs a u z with y | y
          · exact ⟨i, fun _ => .inl rfl, fun _ n => absurd q' n, y⟩
          · exact ⟨j, fun _ => .inr rfl, fun _ n => absurd q' n, y⟩
      · rw [if_neg q']
        exact ⟨m, fun z => by
          rcases z with z | z
          · exact absurd z q
          · exact absurd z q', fun _ _ => rfl, rfl⟩
  refine ⟨r.gr, by rw [List.length_set, List.length_set, List.length_set, List.length_set, r.len], fun m => if m = i then T else if m = j then S else R m, fun m sv e => ?_, fun m a u e => ?_, fun m l a e1 e2 => ?_, fun m sv a e1 e0 e2 => ?_⟩
  · by_cases q : m = i
    · subst q
      rw [List.getElem?_set_self (by rw [List.length_set]; exact hl)] at e
      cases e
      refine ⟨vi, List.getElem?_set_self (by rw [List.length_set, r.len]; exact hl), ?_⟩
      dsimp only
      rw [if_pos rfl]
      exact h1
    · rw [List.getElem?_set_ne (Ne.symm q)] at e ⊢
      dsimp only
      rw [if_neg q]
      by_cases q' : m = j
      · subst q'
        have hl' : m < ρ.length := by
          have := (List.getElem?_eq_some_iff.mp e).1
          rwa [List.length_set] at this
        rw [List.getElem?_set_self hl'] at e
        obtain ⟨v, e1, e2⟩ := h2 sv (Option.some.inj e)
        refine ⟨v, by rw [List.getElem?_set_self (by rw [r.len]; exact hl'), e1], ?_⟩
        rw [if_pos rfl]
        exact e2
      · rw [List.getElem?_set_ne (Ne.symm q')] at e ⊢
        rw [if_neg q']
        exact g1 m sv e
  · dsimp only at e
    obtain ⟨m', _, _, e3⟩ := sub m a (by rw [e]; exact fun z => nomatch z)
    rw [e] at e3
    exact g2 m' a u e3
  · obtain ⟨m1, a1, a2, a3⟩ := sub m a e1
    obtain ⟨m2, b1, b2, b3⟩ := sub l a e2
    have same : m1 = m2 := g3 m1 m2 a (by rw [a3]; exact e1) (by rw [b3]; exact e2)
    dsimp only at e1 e2
    by_cases q : m = i
    · by_cases q' : l = i
      · rw [q, q']
      · by_cases q'' : l = j
        · rw [if_pos q] at e1
          rw [if_neg q', if_pos q''] at e2
          exact absurd (hd a e1) e2
        · have e := b2 q' q''
          rcases a1 (.inl q) with z | z
          · exact absurd (by rw [← e, ← same, z]) q'
          · exact absurd (by rw [← e, ← same, z]) q''
    · by_cases q1 : m = j
      · by_cases q' : l = i
        · rw [if_pos q'] at e2
          rw [if_neg q, if_pos q1] at e1
          exact absurd (hd a e2) e1
        · by_cases q'' : l = j
          · rw [q1, q'']
          · have e := b2 q' q''
            rcases a1 (.inr q1) with z | z
            · exact absurd (by rw [← e, ← same, z]) q'
            · exact absurd (by rw [← e, ← same, z]) q''
      · have e := a2 q q1
        by_cases q' : l = i
        · rcases b1 (.inl q') with z | z
          · exact absurd (by rw [← e, same, z]) q
          · exact absurd (by rw [← e, same, z]) q1
        · by_cases q'' : l = j
          · rcases b1 (.inr q'') with z | z
            · exact absurd (by rw [← e, same, z]) q
            · exact absurd (by rw [← e, same, z]) q1
          · rw [← e, ← b2 q' q'', same]
  · dsimp only at e2
    by_cases q : m = i
    · rw [if_pos q] at e2
      exact hb a (.inl e2)
    · rw [if_neg q] at e2
      rw [List.getElem?_set_ne (Ne.symm q)] at e1
      by_cases q' : m = j
      · rw [if_pos q'] at e2
        exact hb a (.inr e2)
      · rw [if_neg q'] at e2
        rw [List.getElem?_set_ne (Ne.symm q')] at e1
        exact g4 m sv a e1 e0 e2
theorem set_id {α : Type} {l : List α} {i : Nat} {x : α} (h : l[i]? = some x) : l.set i x = l := by
  apply List.ext_getElem?
  intro m
  by_cases q : m = i
  · subst q
    rw [List.getElem?_set_self (List.getElem?_eq_some_iff.mp h).1, h]
  · rw [List.getElem?_set_ne (Ne.symm q)]
/-- a list in a tree comes into a slot of its own -/
theorem RS.split (r : RS K B Hs H σ ρ) (hi : ρ[i]? = some (some (.tr K true o))) (hp : o.at_ p = some (.ol (ds.map .sh))) (hij : i ≠ j) :
    ∃ v0 a, σ[i]? = some (some v0) ∧ VAt H v0 p (.ref a) ∧ RS K B Hs H (σ.set j (some (.ref a))) ((ρ.set j (some (.trA K a ds))).set i (some (.hole K o p a v0))) := by
  obtain ⟨R, rg⟩ := r.reg
  obtain ⟨v0, hv, hh⟩ := rg.1 i _ hi
  have ow : Own K Hs v0 o (R i) := hh Hs (Ex.refl Hs)
  obtain ⟨v1, S, T, va, h1, d1, e1, k1⟩ := ow.part hp
  obtain ⟨a, vs, Ra, rfl, nn, hl, rfl⟩ := h1.ol_inv
  obtain ⟨rs, rfl⟩ := hl.reps
  have sub : ∀ b u, upd em a (.lst vs) b = some u → R i b = some u := fun b u e => by rw [e1, jn_l e]
  have dT : ∀ b, T b ≠ none → upd em a (.lst vs) b = none := fun b hb => by
    cases z : upd em a (.lst vs) b with
    | none => rfl
    | some u => exact absurd (d1 b (by rw [z]; exact fun y => nomatch y)) hb
  have subT : ∀ b u, T b = some u → R i b = some u := fun b u e => by
    rw [e1, jn_r (dT b (by rw [e]; exact fun y => nomatch y)), e]
  have q := r.deal rg hij (vi := v0) (svi := .hole K o p a v0) (oj := some (.trA K a ds)) (xj := some (.ref a)) (List.getElem?_eq_some_iff.mp hi).1 (T := T) (S := upd em a (.lst vs)) (fun b u e => .inl (subT b u e)) (fun b u e => .inl (sub b u e)) dT
    (fun G eg => ⟨rfl, fun o' S' h' d' => k1 eg h' d'⟩) (fun sv e => by
      cases e
      exact ⟨.ref a, rfl, fun G eg => ⟨rfl, vs, rs.mono eg, rfl⟩⟩) (fun b hb => by
      refine rg.2.2.2 i _ b hi rfl ?_
      rcases hb with hb | hb
      · cases z : T b with
        | none => exact absurd z hb
        | some u => rw [subT b u z]; exact fun y => nomatch y
      · cases z : upd em a (.lst vs) b with
        | none => exact absurd z hb
        | some u => rw [sub b u z]; exact fun y => nomatch y)
  refine ⟨v0, a, hv, va.mono fun b u e => (rg.2.1 i b u e).1, ?_⟩
  rw [set_id (l := σ.set j (some (.ref a))) (i := i) (by rw [List.getElem?_set_ne (Ne.symm hij), hv])] at q
  exact q
/-- .. and goes back -/
theorem RS.join {a : Addr} {u : V} (r : RS K B Hs H σ ρ) (hi : ρ[i]? = some (some (.hole K o p a u))) (hj : ρ[j]? = some (some (.trA K a es))) (hij : i ≠ j) : σ[i]? = some (some u) ∧ RS K B Hs H σ ((ρ.set j none).set i (some (.tr K true (o.put p (.ol (es.map .sh)))))) := by
  obtain ⟨R, rg⟩ := r.reg
  obtain ⟨v0, hv, hh⟩ := rg.1 i _ hi
  obtain ⟨w, hw, hk⟩ := rg.1 j _ hj
  obtain ⟨rfl, vs, rs, eR⟩ := hk Hs (Ex.refl Hs)
  obtain ⟨rfl, _⟩ := hh Hs (Ex.refl Hs)
  refine ⟨hv, ?_⟩
  have dj : ∀ b, R j b ≠ none → R i b = none := fun b hb => by
    cases z : R i b with
    | none => rfl
    | some u => exact absurd (rg.2.2.1 i j b (by rw [z]; exact fun y => nomatch y) hb) hij
  have own : ∀ G, Ex Hs G → Own K G v0 (o.put p (.ol (es.map .sh))) (jn (R j) (R i)) := fun G eg => by
    have c : Own K G (.ref a) (.ol (es.map .sh)) (R j) := by
      rw [eR]
      exact .ol rfl (ownL_sh (rs.mono eg))
    exact (hh G eg).2 _ _ c dj
  have q := r.deal rg hij (vi := v0) (svi := .tr K true (o.put p (.ol (es.map .sh)))) (oj := none) (xj := some (.ref a)) (List.getElem?_eq_some_iff.mp hi).1 (T := jn (R j) (R i)) (S := em) (fun b u e => by
      cases z : R j b with
      | some y =>
        rw [jn_l z] at e
        exact .inr (by rw [← e])
      | none =>
        rw [jn_r z] at e
        exact .inl e) (fun b u e => nomatch e) (fun b _ => rfl) (fun G eg => own G eg) (fun sv e => nomatch e) (fun b hb => by
      rcases hb with hb | hb
      · cases z : R j b with
        | some y => exact rg.2.2.2 j _ b hj rfl (by rw [z]; exact fun y => nomatch y)
        | none =>
          rw [jn_r z] at hb
          exact rg.2.2.2 i _ b hi rfl hb
      · exact absurd rfl hb)
  rw [set_id (l := σ) (i := j) (x := some (V.ref a)) hw, set_id (l := σ) (i := i) (x := some v0) hv] at q
  exact q
/-- .append(e), the own list at a known address -/
theorem xs_appA {a : Addr} (hi : ρ[i]? = some (some (.trA K a ds))) (h : EvD K ta ρ d) (hz : ds.length < 100000) (q : R.nx (ρ.set i (some (.trA K a (ds ++ [d]))))) : ExS K (tDrop (tBM K "list" rAppend (tVar i) (tCons ta tNil))) ρ R := fun B Hs H σ Dn r l => by
  obtain ⟨R0, rg0⟩ := r.reg
  obtain ⟨w, hw, hk⟩ := rg0.1 i _ hi
  obtain ⟨rfl, vs0, rs0, eR0⟩ := hk Hs (Ex.refl Hs)
  have ha0 : H a = some (.lst vs0) := (rg0.2.1 i a _ (by rw [eR0]; exact upd_same)).1
  refine ⟨.ref a, hw, .inl ⟨rfl, _, .of ha0⟩, h B Hs H σ r _ fun Hs1 H1 x g y => ?_⟩
  have r1 := r.grow g
  have rg : Reg K B Hs1 H1 σ ρ R0 := Reg.grow rg0 g
  obtain ⟨w', hw', hk⟩ := rg.1 i _ hi
  obtain ⟨rfl, vs, rs, eR⟩ := hk Hs1 (Ex.refl Hs1)
  have ha : H1 a = some (.lst vs) := (rg.2.1 i a _ (by rw [eR]; exact upd_same)).1
  refine ⟨a, vs, x, rfl, rfl, ha, by rw [rs.length]; exact sz_lt hz, l.nx Hs1 _ _ _ (r1.mutR rg i hi (sv' := .trA K a (ds ++ [d])) (fun _ => rfl) hw (T := upd em a (.lst (vs ++ [x]))) (fun G eg => ⟨rfl, _, (rs.mono eg).append (.cons (y.mono eg) .nil), rfl⟩) (fun b u z => ?_) (fun b u z e => ?_) fun b e => upd_keep ha e) q⟩
  · by_cases eb : b = a
    · subst eb
      rw [upd_same] at z ⊢
      exact ⟨z, .inl (by rw [eR, upd_same]; exact fun q => nomatch q)⟩
    · rw [upd_ne eb] at z
      cases z
  · rw [upd_ne (fun eb => by rw [eb, eR, upd_same] at z; cases z)]
    exact e
theorem er_A {a : Addr} (hi : ρ[i]? = some (some (.trA K a ds))) : EvR K (tVar i) ρ (.lst ds) := fun B Hs H σ r Q q => by
  obtain ⟨R0, rg0⟩ := r.reg
  obtain ⟨w, hw, hk⟩ := rg0.1 i _ hi
  obtain ⟨rfl, vs0, rs0, eR0⟩ := hk Hs (Ex.refl Hs)
  exact ⟨.ref a, hw, q Hs H _ (Gr.refl r.ex) (.lst (rg0.2.1 i a _ (by rw [eR0]; exact upd_same)).1 (rs0.mono r.ex))⟩
theorem Reg.drop {Q : Nat → Hp} (rg : Reg K B Hs H σ ρ Q) (j : Nat) : Reg K B Hs H σ (ρ.set j none) (fun m => if m = j then em else Q m) := by
  obtain ⟨g1, g2, g3, g4⟩ := rg
  refine ⟨fun m sv e => ?_, fun m a u e => ?_, fun m l a e1 e2 => ?_, fun m sv a e1 e0 e2 => ?_⟩
  · by_cases q : m = j
    · subst q
      by_cases hl : m < ρ.length
      · rw [List.getElem?_set_self hl] at e
        cases e
      · rw [List.getElem?_eq_none (by rw [List.length_set]; omega)] at e
        cases e
    · rw [List.getElem?_set_ne (Ne.symm q)] at e
      dsimp only
      rw [if_neg q]
      exact g1 m sv e
  · dsimp only at e
    by_cases q : m = j
    · rw [if_pos q] at e
      cases e
    · rw [if_neg q] at e
      exact g2 m a u e
  · dsimp only at e1 e2
    by_cases q : m = j
    · rw [if_pos q] at e1
      exact absurd rfl e1
    · rw [if_neg q] at e1
      by_cases q' : l = j
      · rw [if_pos q'] at e2
        exact absurd rfl e2
      · rw [if_neg q'] at e2
        exact g3 m l a e1 e2
  · dsimp only at e2
    by_cases q : m = j
    · rw [if_pos q] at e2
      exact absurd rfl e2
    · rw [if_neg q] at e2
      rw [List.getElem?_set_ne (Ne.symm q)] at e1
      exact g4 m sv a e1 e0 e2
/-- xs.append(y), y the frame's own: it belongs to xs from now on -/
theorem xs_appMv {xs : List O} {o2 : O} (hij : i ≠ j) (hi : ρ[i]? = some (some (.tr K true (.ol xs)))) (hj : ρ[j]? = some (some (.tr K true o2))) (hz : xs.length < 100000) (q : R.nx ((ρ.set j none).set i (some (.tr K true (.ol (xs ++ [o2])))))) :
    ExS K (tDrop (tBM K "list" rAppend (tVar i) (tCons (tVar j) tNil))) ρ R := fun B Hs H σ Dn r l => by
  obtain ⟨Q, rg⟩ := r.reg
  obtain ⟨v0, hv, hh⟩ := rg.1 i _ hi
  obtain ⟨w, hw, hk⟩ := rg.1 j _ hj
  have own := hk Hs (Ex.refl Hs)
  obtain ⟨a, vs, Ra, rfl, nn, hl, eR⟩ := (hh Hs (Ex.refl Hs)).ol_inv
  have ha : H a = some (.lst vs) := (rg.2.1 i a _ (by rw [eR]; exact upd_same)).1
  refine ⟨.ref a, hv, .inl ⟨rfl, _, .of ha⟩, w, hw, a, vs, w, rfl, rfl, ha, by rw [hl.length]; exact sz_lt hz, ?_⟩
  have dis : ∀ b, Q j b ≠ none → Q i b = none := fun b hb => by
    cases z : Q i b with
    | none => rfl
    | some u => exact absurd (rg.2.2.1 i j b (by rw [z]; exact fun y => nomatch y) hb) hij
  have nja : Q j a = none := by
    cases z : Q j a with
    | none => rfl
    | some u =>
      have := dis a (by rw [z]; exact fun y => nomatch y)
      rw [eR, upd_same] at this
      cases this
  have r2 := r.forget j (some w)
  rw [set_id hw] at r2
  have e1 : (if i = j then em else Q i) = Q i := if_neg hij
  refine l.nx Hs _ _ _ (r2.mutR (Reg.drop (ρ := ρ) rg j) i (by rw [List.getElem?_set_ne (Ne.symm hij)]; exact hi) (sv' := .tr K true (.ol (xs ++ [o2]))) (fun _ => rfl) hv (T := upd (jn (Q j) Ra) a (.lst (vs ++ [w]))) (fun G eg => ?_) (fun b u z => ?_) (fun b u z e => ?_) fun b e => upd_keep ha e) q
  · refine .ol (jn_none.mpr ⟨nja, nn⟩) (OwnL.snoc (own.mono eg) (hl.mono eg) fun b hb => ?_)
    have := dis b hb
    rw [eR] at this
    by_cases eb : b = a
    · rw [eb]
      exact nn
    · rw [upd_ne eb] at this
      exact this
  · rw [e1]
    by_cases eb : b = a
    · subst eb
      rw [upd_same] at z ⊢
      exact ⟨z, .inl (by rw [eR, upd_same]; exact fun q => nomatch q)⟩
    · rw [upd_ne eb] at z ⊢
      cases y : Q j b with
      | some u' =>
        rw [jn_l y] at z
        have z' := Option.some.inj z
        subst z'
        have g := rg.2.1 j b u' y
        refine ⟨g.1, .inr ⟨fun m => ?_, g.2.1, g.2.2, rg.2.2.2 j _ b hj rfl (by rw [y]; exact fun q => nomatch q)⟩⟩
        dsimp only
        by_cases qm : m = j
        · rw [if_pos qm]
          rfl
        · rw [if_neg qm]
          cases z2 : Q m b with
          | none => rfl
          | some u2 => exact absurd (rg.2.2.1 m j b (by rw [z2]; exact fun q => nomatch q) (by rw [y]; exact fun q => nomatch q)) qm
      | none =>
        rw [jn_r y] at z
        have hq : Q i b = some u := by rw [eR, upd_ne eb]; exact z
        exact ⟨(rg.2.1 i b u hq).1, .inl (by rw [hq]; exact fun q => nomatch q)⟩
  · rw [e1] at z
    rw [upd_ne (fun eb => by rw [eb, eR, upd_same] at z; cases z)]
    exact e
/-- for x in xs, xs an own list of own lists: x is changed in the body -/
theorem xs_forLL {tb : TS} (hij : i ≠ j) {dss : List (List D)} (I : Nat → List (List D) → Env → Prop) (hi : ρ[i]? = some (some (.tr K true (llO dss)))) (h0 : I 0 dss ρ)
    (hI : ∀ k dss' ρ1, I k dss' ρ1 → ρ1[i]? = some (some (.tr K true (llO dss'))) ∧ dss'.length = dss.length)
    (hs : ∀ k dss' ρ1 ds a u, I k dss' ρ1 → dss'[k]? = some ds → ExS K tb ((ρ1.set j (some (.trA K a ds))).set i (some (.hole K (llO dss') [k] a u))) { R with
      nx := fun ρ2 => ∃ ds', ρ2[i]? = some (some (.hole K (llO dss') [k] a u)) ∧ ρ2[j]? = some (some (.trA K a ds')) ∧ I (k + 1) (dss'.set k ds') ((ρ2.set j none).set i (some (.tr K true (llO (dss'.set k ds'))))), ct := fun _ => False, bk := fun _ => False })
    (hd : ∀ dss' ρ1, I dss.length dss' ρ1 → R.nx ρ1) : ExS K (tFor (iSeq K (tVar i)) (gName j) tb) ρ R := fun B Hs H σ Dn r l => by
  obtain ⟨R0, rg0⟩ := r.reg
  obtain ⟨v0, hv, hh⟩ := rg0.1 i _ hi
  obtain ⟨a0, vs, Ra, rfl, nn, hl, eR⟩ := (hh Hs (Ex.refl Hs)).ol_inv
  have ha0 : H a0 = some (.lst vs) := (rg0.2.1 i a0 _ (by rw [eR]; exact upd_same)).1
  refine ⟨.ref a0, hv, a0, rfl, .inl ⟨⟨vs, .of ha0⟩, ?_⟩⟩
  refine ⟨fun k m σ' H' => m = dss.length - k ∧ k ≤ dss.length ∧ σ'[i]? = some (some (.ref a0)) ∧ ∃ Hs2 dss' ρ1, RS K B Hs2 H' σ' ρ1 ∧ I k dss' ρ1, ⟨dss.length, rfl, Nat.zero_le _, hv, Hs, dss, ρ, r, h0⟩, ?_⟩
  rintro k m σ2 H2 ⟨rfl, hk, hv2, Hs2, dss', ρ1, r2, hI2⟩
  obtain ⟨hi2, hlen⟩ := hI k dss' ρ1 hI2
  obtain ⟨R2, rg2⟩ := r2.reg
  obtain ⟨w0, hw, hh2⟩ := rg2.1 i _ hi2
  rw [hv2] at hw
  cases hw
  obtain ⟨a0', vs2, Ra2, ea, nn2, hl2, eR2⟩ := (hh2 Hs2 (Ex.refl Hs2)).ol_inv
  cases ea
  have ha2 : H2 a0 = some (.lst vs2) := (rg2.2.1 i a0 _ (by rw [eR2]; exact upd_same)).1
  have hvl : vs2.length = dss.length := by rw [hl2.length, List.length_map, hlen]
  by_cases hlt : k < dss.length
  · have hdk : dss'[k]? = some (dss'[k]'(by omega)) := List.getElem?_eq_getElem (by omega)
    obtain ⟨v0', a, hv', va, r3⟩ := r2.split hi2 (llO_kid hdk) hij
    rw [hv2] at hv'
    cases hv'
    have hva : vs2[k]? = some (.ref a) := by
      cases va with
      | lst h g n =>
        rw [ha2] at h
        cases h
        cases n
        exact g
      | ins h g n =>
        rw [ha2] at h
        cases h
    refine .inr ⟨⟨vs2, .ref a, .of ha2, hva⟩, fun σ' H' => σ'[i]? = some (some (.ref a0)) ∧ ∃ Hs3 dss3 ρ3, RS K B Hs3 H' σ' ρ3 ∧ I (k + 1) dss3 ρ3, fun σ' H' ⟨e, Hs3, dss3, ρ3, r3, i3⟩ => ⟨dss.length - (k + 1), by omega, rfl, hlt, e, Hs3, dss3, ρ3, r3, i3⟩, fun x H3 y => ?_⟩
    obtain ⟨rfl, y⟩ := y
    have z := y vs2 (.of ha2)
    rw [hva] at z
    cases z
    show tb _ (σ2.set j (some (.ref a))) H3
    exact hs k dss' ρ1 _ a (.ref a0) hI2 hdk B Hs2 H3 _ _ r3 ⟨fun Hs5 H5 σ5 ρ5 r5 ⟨ds', e1, e2, e3⟩ => by
      obtain ⟨e4, q⟩ := r5.join e1 e2 hij
      rw [llO_put hdk] at q
      exact ⟨e4, Hs5, _, _, q, e3⟩, l.rt, l.rf, fun _ _ _ _ _ z => z.elim, fun _ _ _ _ _ z => z.elim, l.ro, l.ex, l.rn⟩
  · have e : k = dss.length := by omega
    subst e
    exact .inl ⟨⟨vs2, .of ha2, by rw [hvl]; exact Nat.le_refl _⟩, l.nx Hs2 H2 σ2 ρ1 r2 (hd dss' ρ1 hI2)⟩
end
end DL
namespace DL
open PySem L2
section
variable {K : PySem.W.Frag} {ρ ρ' : Env} {te ta tb : TE} {d e : D} {ds es : List D} {R : DEnds} {C : Addr} {ns : List Str} {o : O}
theorem en_methD {alts : List (Addr × Sp)} {m : Str} {E : XK} {t : TA} {α : Type} {pre : α → Prop} {arg : α → List D} {res : α → O} (x : α) (h : EvD K ta ρ (.obj C ns ds)) (ht : EvA K t ρ es) (hin : (C, spN K pre arg res) ∈ alts) (hm : ns.contains m = false)
    (ha : arg x = .obj C ns ds :: es) (p : pre x) : EvN K (tMethD alts m E ta t) ρ (res x) := fun B Hs H σ r Q q =>
  h B Hs H σ r _ fun Hs1 H1 v g1 xo => by
    cases xo with
    | @obj a _ dx _ vs _ hp xs =>
      refine ⟨a, C, dx, _, _, rfl, g1.lv _ _ hp, hin, look_none hm, ht B Hs1 H1 σ (r.grow g1) _ fun Hs2 H2 ws g2 ys => ?_⟩
      refine ⟨Hs2, x, g2.lv, by rw [ha]; exact .cons (.obj (g2.sh _ _ hp) (xs.mono g2.sh)) ys, p, fun Hs' H' w S g ow c => ?_⟩
      have gg := (g1.trans g2).trans g
      refine q Hs' H' w S gg ow fun b u e => ⟨(c b u e).1, ?_, (c b u e).2.2⟩
      have n := (c b u e).2.1
      cases z : H b with
      | none => rfl
      | some o =>
        rw [(g1.trans g2).fr b o z] at n
        cases n
/-- [a new tree] -/
theorem en_one (h : EvN K te ρ o) : EvN K (tLst (tCons te tNil)) ρ (.ol [o]) := fun B Hs H σ r Q q =>
  h B Hs H σ r _ fun Hs1 H1 v S g ow c => by
    refine ⟨Nat.le_of_ble_eq_true rfl, fun p hp => ?_⟩
    obtain ⟨n1, n2⟩ := gr_none g hp
    have nS : S p = none := by
      cases z : S p with
      | none => rfl
      | some u =>
        rw [(c p u z).1] at hp
        cases hp
    have l1 : OwnL K Hs1 [v] [o] (jn S em) := .cons ow .nil fun _ _ => rfl
    rw [jn_em'] at l1
    refine q Hs1 _ _ _ (g.trans (Gr.newO g.lv hp)) (.ol nS l1) fun a u e => ?_
    by_cases y : a = p
    · subst y
      rw [upd_same] at e ⊢
      exact ⟨e, n1, n2⟩
    · rw [upd_ne y] at e ⊢
      exact c a u e
theorem ixN_last {n : Nat} (h : 0 < n) : ixN n (-1) = some (n - 1) := by
  unfold ixN
  rw [if_neg (by decide), if_pos (by omega)]
  congr 1
  omega
end
end DL

/-! DExc: defs that exceptions leave; try. -/
namespace DL
open PySem L2
open PyProof.Rows (envOfC)
theorem passX0 {X : Cx} : Passes (L2.CX X.prog X.w) X E0 := fun _ _ _ _ _ _ _ ⟨_, _, _, _, _, _, _, _, _, _, _, _, z⟩ => z.elim
/-- called with arg x, where pre x: gives something of post x, or an exception of exc x leaves -/
def spX (K : PySem.W.Frag) {α : Type} (pre : α → Prop) (arg : α → List D) (post : α → D → Prop) (exc : α → Value → Option (List (Str × D)) → Prop) : Sp := fun vs H Q E => ∃ (Hs : Hp) (x : α), Ex Hs H ∧ RepL K Hs vs (arg x) ∧ pre x ∧
  (∀ Hs' H' v d, Gr Hs H H Hs' H' → Rep K Hs' v d → post x d → Q v H') ∧ ∀ Hs' H' cls dd fs, Gr Hs H H Hs' H' → XRep K Hs' H' dd fs → exc x cls fs → E cls dd H'
section
variable {K : PySem.W.Frag} {ρ ρ' : Env} {te ta tb : TE} {d e : D} {ds es : List D} {tt : TT} {R : DEnds}
variable {P : Program} {w : World} {mg : Str → Option Value} {base : Heap} {x qual : Str} {st : Stmt} {f : Addr} {fd : FuncData} {N ps : List Str} {k : Nat} {α : Type} {pre : α → Prop} {arg : α → List D}
theorem fn_x {post : α → D → Prop} {exc : α → Value → Option (List (Str × D)) → Prop} (F : Fun K x qual st f fd) (S : FnScope N ps (defScope st)) (hl : ∀ x, (arg x).length = ps.length) {t : XK → TS}
    (hb : ∀ (cdv : Value) (A : Around) (outer : List PySem.Env) (s : Shared) (H : Hp) (E : XK), Room k (A.deeper (envOfC qual (defScope st) s.heap.objs.size f cdv)) → PSs (cxOf (L2.CX P w) P w K mg base N qual (defScope st) f cdv A outer s H E) (defBody st) (t E))
    (hd : ∀ x, pre x → ∀ E : XK, ExS K (t E) (entry N (arg x)) { nx := fun _ => post x .non, rt := post x, ex := fun _ cls fs => exc x cls fs, W := fun cls dd _ H => E cls dd H }) : FnOk P w K mg base (L2.CX P w) (k + 1) f fd ps (spX K pre arg post exc) := by
  have hN : ps.length ≤ N.length := by have := congrArg List.length S.pre; rw [List.length_take] at this; omega
  refine F.okX S (fun vs H Q E h => ?_) (fun cdv A outer s H vs Q E hr h => ?_)
  · obtain ⟨Hs, x, _, r, _⟩ := h
    rw [r.length, hl]
  · obtain ⟨Hs, x, e, r, hp, q, qx⟩ := h
    refine ⟨t E, hb cdv A outer s H E hr, ?_⟩
    exact hd x hp E ⟨Hs, H, H⟩ Hs H (L2.start N vs) _ (rs_entry e r (by rw [hl]; exact hN))
      ⟨fun Hs' H' σ ρ r' z => q Hs' H' .non .non r'.gr .non z, fun Hs' H' v d g x z => q Hs' H' v d g x z, fun _ _ _ _ _ _ _ _ _ _ z => z.elim, fun _ _ _ _ _ z => z.elim, fun _ _ _ _ _ z => z.elim, fun _ _ _ _ _ _ _ _ z => z.elim,
        fun Hs' H' σ ρ cls dd fs r' y z => qx Hs' H' cls dd fs r'.gr y z, fun _ _ _ _ _ _ _ _ z => z.elim⟩
/-- the defs that no exception leaves, where others are left by some -/
theorem fn_rX {post : α → D → Prop} (F : Fun K x qual st f fd) (S : FnScope N ps (defScope st)) (hl : ∀ x, (arg x).length = ps.length) {t : TS}
    (hb : ∀ (cdv : Value) (A : Around) (outer : List PySem.Env) (s : Shared) (H : Hp) (E : XK), Room k (A.deeper (envOfC qual (defScope st) s.heap.objs.size f cdv)) → PSs (cxOf (L2.CX P w) P w K mg base N qual (defScope st) f cdv A outer s H E) (defBody st) t)
    (hd : ∀ x, pre x → ExS K t (entry N (arg x)) { nx := fun _ => post x .non, rt := post x }) : FnOk P w K mg base (L2.CX P w) (k + 1) f fd ps (spR K pre arg post) := by
  have hN : ps.length ≤ N.length := by have := congrArg List.length S.pre; rw [List.length_take] at this; omega
  refine F.okX S (fun vs H Q E h => ?_) (fun cdv A outer s H vs Q E hr h => ?_)
  · obtain ⟨Hs, x, _, r, _⟩ := h
    rw [r.length, hl]
  · obtain ⟨Hs, x, e, r, hp, q⟩ := h
    refine ⟨t, hb cdv A outer s H E hr, ?_⟩
    exact hd x hp ⟨Hs, H, H⟩ Hs H (L2.start N vs) _ (rs_entry e r (by rw [hl]; exact hN))
      ⟨fun Hs' H' σ ρ r' z => q Hs' H' .non .non r'.gr .non z, fun Hs' H' v d g x z => q Hs' H' v d g x z, fun _ _ _ _ _ _ _ _ _ _ z => z.elim, fun _ _ _ _ _ z => z.elim, fun _ _ _ _ _ z => z.elim, fun _ _ _ _ _ _ _ _ z => z.elim,
        fun _ _ _ _ _ _ _ _ _ z => z.elim, fun _ _ _ _ _ _ _ _ z => z.elim⟩
theorem fn_fX {res : α → List D} (F : Fun K x qual st f fd) (S : FnScope N ps (defScope st)) (hl : ∀ x, (arg x).length = ps.length) {t : TS}
    (hb : ∀ (cdv : Value) (A : Around) (outer : List PySem.Env) (s : Shared) (H : Hp) (E : XK), Room k (A.deeper (envOfC qual (defScope st) s.heap.objs.size f cdv)) → PSs (cxOf (L2.CX P w) P w K mg base N qual (defScope st) f cdv A outer s H E) (defBody st) t)
    (hd : ∀ x, pre x → ExS K t (entry N (arg x)) { nx := fun _ => False, rt := fun _ => False, rf := fun ds => ds = res x }) : FnOk P w K mg base (L2.CX P w) (k + 1) f fd ps (spF K pre arg res) := by
  have hN : ps.length ≤ N.length := by have := congrArg List.length S.pre; rw [List.length_take] at this; omega
  refine F.okX S (fun vs H Q E h => ?_) (fun cdv A outer s H vs Q E hr h => ?_)
  · obtain ⟨Hs, x, _, r, _⟩ := h
    rw [r.length, hl]
  · obtain ⟨Hs, x, e, r, hp, q⟩ := h
    refine ⟨t, hb cdv A outer s H E hr, ?_⟩
    exact hd x hp ⟨Hs, H, H⟩ Hs H (L2.start N vs) _ (rs_entry e r (by rw [hl]; exact hN))
      ⟨fun Hs' H' σ ρ r' z => z.elim, fun Hs' H' v d g x z => z.elim, fun Hs' H' p ws ds g n ns e x z => q Hs' H' p ws g n ns e (z ▸ x), fun _ _ _ _ _ z => z.elim, fun _ _ _ _ _ z => z.elim, fun _ _ _ _ _ _ _ _ z => z.elim,
        fun _ _ _ _ _ _ _ _ _ z => z.elim, fun _ _ _ _ _ _ _ _ z => z.elim⟩
/-! ### calls that may raise -/
theorem xs_asgX {post : α → D → Prop} {exc : α → Value → Option (List (Str × D)) → Prop} {W : WX} {ta : TA} {i : Nat} (x : α) (h : EvA K ta ρ (arg x)) (p : pre x) (hW : R.W = W) (q : ∀ d, post x d → R.nx (ρ.set i (some (.sh d)))) (qx : ∀ cls fs, exc x cls fs → R.ex ρ cls fs) :
    ExS K (tAsg (tCallS (spX K pre arg post exc) (WE W) ta) (gName i)) ρ R := fun B Hs H σ Dn r l =>
  h B Hs H σ r _ fun Hs1 H1 vs g1 xs => ⟨Hs1, x, g1.lv, xs, p, fun Hs' H' v d g y e => l.nx Hs' H' _ _ ((r.grow (g1.trans g)).set i y) (q d e), fun Hs' H' cls dd fs g y e => by
    subst hW
    exact l.ex Hs' H' σ ρ cls dd fs (r.grow (g1.trans g)) y (qx cls fs e)⟩
theorem xs_dropX {post : α → D → Prop} {exc : α → Value → Option (List (Str × D)) → Prop} {W : WX} {ta : TA} (x : α) (h : EvA K ta ρ (arg x)) (p : pre x) (hW : R.W = W) (q : ∀ d, post x d → R.nx ρ) (qx : ∀ cls fs, exc x cls fs → R.ex ρ cls fs) :
    ExS K (tDrop (tCallS (spX K pre arg post exc) (WE W) ta)) ρ R := fun B Hs H σ Dn r l =>
  h B Hs H σ r _ fun Hs1 H1 vs g1 xs => ⟨Hs1, x, g1.lv, xs, p, fun Hs' H' v d g y e => l.nx Hs' H' _ _ (r.grow (g1.trans g)) (q d e), fun Hs' H' cls dd fs g y e => by
    subst hW
    exact l.ex Hs' H' σ ρ cls dd fs (r.grow (g1.trans g)) y (qx cls fs e)⟩
theorem xs_retX {post : α → D → Prop} {exc : α → Value → Option (List (Str × D)) → Prop} {W : WX} {ta : TA} (x : α) (h : EvA K ta ρ (arg x)) (p : pre x) (hW : R.W = W) (q : ∀ d, post x d → R.rt d) (qx : ∀ cls fs, exc x cls fs → R.ex ρ cls fs) :
    ExS K (tRet (tCallS (spX K pre arg post exc) (WE W) ta)) ρ R := fun B Hs H σ Dn r l =>
  h B Hs H σ r _ fun Hs1 H1 vs g1 xs => ⟨Hs1, x, g1.lv, xs, p, fun Hs' H' v d g y e => l.rt Hs' H' v d (r.gr.trans (g1.trans g)) y (q d e), fun Hs' H' cls dd fs g y e => by
    subst hW
    exact l.ex Hs' H' σ ρ cls dd fs (r.grow (g1.trans g)) y (qx cls fs e)⟩
/-- no exception comes of these arguments -/
theorem ev_callX {post : α → D → Prop} {exc : α → Value → Option (List (Str × D)) → Prop} {E : St → XK} {ta : TA} (x : α) (h : EvA K ta ρ (arg x)) (p : pre x) (hp : ∀ e, post x e → e = d) (hx : ∀ cls fs, ¬ exc x cls fs) :
    EvD K (tCallS (spX K pre arg post exc) E ta) ρ d := fun B Hs H σ r Q q =>
  h B Hs H σ r _ fun Hs1 H1 vs g1 xs => ⟨Hs1, x, g1.lv, xs, p, fun Hs' H' v d g y e => q Hs' H' v (g1.trans g) (hp d e ▸ y), fun Hs' H' cls dd fs g y e => absurd e (hx cls fs)⟩
theorem ev_callX0 {post : α → D → Prop} {exc : α → Value → Option (List (Str × D)) → Prop} {E : XK} {ta : TA} (x : α) (h : EvA K ta ρ (arg x)) (p : pre x) (hp : ∀ e, post x e → e = d) (hx : ∀ cls fs, ¬ exc x cls fs) :
    EvD K (tCall (spX K pre arg post exc) [] E ta) ρ d := fun B Hs H σ r Q q =>
  h B Hs H σ r _ fun Hs1 H1 vs g1 xs => by
    rw [List.append_nil]
    exact ⟨Hs1, x, g1.lv, xs, p, fun Hs' H' v d g y e => q Hs' H' v (g1.trans g) (hp d e ▸ y), fun Hs' H' cls dd fs g y e => absurd e (hx cls fs)⟩
/-- raise C('..'), C an own class without fields -/
def tRaise (C : Addr) (W : WX) : TS := fun _ σ H => W (.ref C) none σ H
theorem xs_raise {C : Addr} {W : WX} (hW : R.W = W) (q : R.ex ρ (.ref C) none) : ExS K (tRaise C W) ρ R := fun B Hs H σ Dn r l => by
  subst hW
  exact l.ex Hs H σ ρ (.ref C) none none r trivial q
theorem ps_raiseO {X : Cx} {C : Addr} {W : WX} {m x : Str} {j : Nat} {p p2 pos pos' : Pos} {newId initId : String} {B : String} {bmB : List Value} (hc : X.calm = true) (tk : Takes X W) (F : ExcBaseFacts B newId initId bmB) (q : PySem.W.excIn X.K C bmB newId = true) (gC : X.mg x = some (.ref C)) (kC : PySem.W.keepIn X.K (.ref C) = true)
    (r : Raises X (.ref C)) (hg : Gl X x) (hdb : (x == ("__debug__" : Str)) = false := by decide) : PS X (.Raise (some (.Call (.Name x p) [.Constant (.str m) j p2] [] pos)) none pos') (tRaise C W) := ps_raise hc tk (pmk_own F q gC kC r hg hdb)
/-! ### try -/
/-- a slot holds the exception at a -/
@[reducible] def SV.exv (a : Addr) : SV := .ow false fun _ v R => v = .ref a ∧ R = em
theorem RS.setE {B : Base} {Hs H : Hp} {σ : St} (r : RS K B Hs H σ ρ) (i : Nat) (a : Addr) : RS K B Hs H (σ.set i (some (.ref a))) (ρ.set i (some (.exv a))) :=
  r.setR (Gr.refl r.ex) i (T := em) (fun _ _ z => nomatch z) (sv := .exv a) fun _ _ => ⟨rfl, rfl⟩
def tTryO (K : PySem.W.Frag) (c : Value) (tb : WX → TS) (ts : Addr → Value → Option Addr → TS) (Wout : WX) : TS := fun D σ H => tb (wOnly K c ts Wout D) D σ H
def tTryA (K : PySem.W.Frag) (c : Value) (i : Nat) (tb : WX → TS) (ts : Addr → Value → Option Addr → TS) (Wout : WX) : TS := fun D σ H => tb (wAs K c i ts Wout D) D σ H
/-- try: .. except c: .. -/
theorem xs_tryO {c : Value} {tb : WX → TS} {ts : Addr → Value → Option Addr → TS} {Wout : WX} (EX : Env → Value → Option (List (Str × D)) → Prop) (hb : ∀ W, ExS K (tb W) ρ { R with ex := EX, W := W })
    (hx : ∀ ρ' cls fs, EX ρ' cls fs → ∃ b, PySem.W.exmOne K cls c = some b ∧ (b = true → ∀ a dd, (fs = none → dd = none) → ExS K (ts a cls dd) ρ' R) ∧ (b = false → R.W = Wout ∧ R.ex ρ' cls fs)) : ExS K (tTryO K c tb ts Wout) ρ R := fun B Hs H σ Dn r l =>
  hb _ B Hs H σ Dn r ⟨l.nx, l.rt, l.rf, l.bk, l.ct, l.ro, fun Hs' H' σ' ρ' cls dd fs r' y q => by
    obtain ⟨b, h1, h2, h3⟩ := hx ρ' cls fs q
    refine ⟨b, h1, fun hb a ha => h2 hb a dd (fun e => by
      subst e
      cases dd with
      | none => rfl
      | some a => exact y.elim) B Hs' H' σ' Dn r' l, fun hb => ?_⟩
    obtain ⟨e1, e2⟩ := h3 hb
    subst e1
    exact l.ex Hs' H' σ' ρ' cls dd fs r' y e2, l.rn⟩
/-- try: .. except c as e: .., e at slot i -/
theorem xs_tryA {c : Value} {i : Nat} {tb : WX → TS} {ts : Addr → Value → Option Addr → TS} {Wout : WX} (EX : Env → Value → Option (List (Str × D)) → Prop) (hb : ∀ W, ExS K (tb W) ρ { R with ex := EX, W := W })
    (hx : ∀ ρ' cls fs, EX ρ' cls fs → ∃ b, PySem.W.exmOne K cls c = some b ∧ (b = true → ∀ a dd, (fs = none → dd = none) → ExS K (ts a cls dd) (ρ'.set i (some (.exv a))) { R with nx := fun ρ2 => R.nx (ρ2.set i none), bk := fun ρ2 => R.bk (ρ2.set i none), ct := fun ρ2 => R.ct (ρ2.set i none) }) ∧ (b = false → R.W = Wout ∧ R.ex ρ' cls fs)) :
    ExS K (tTryA K c i tb ts Wout) ρ R := fun B Hs H σ Dn r l =>
  hb _ B Hs H σ Dn r ⟨l.nx, l.rt, l.rf, l.bk, l.ct, l.ro, fun Hs' H' σ' ρ' cls dd fs r' y q => by
    obtain ⟨b, h1, h2, h3⟩ := hx ρ' cls fs q
    refine ⟨b, h1, fun hb a ha => h2 hb a dd (fun e => ?_) B Hs' H' _ _ (r'.setE i a) ⟨fun Hs2 H2 σ2 ρ2 r2 q2 => l.nx Hs2 H2 _ _ (r2.forget i none) q2, l.rt, l.rf, fun Hs2 H2 σ2 ρ2 r2 q2 => l.bk Hs2 H2 _ _ (r2.forget i none) q2, fun Hs2 H2 σ2 ρ2 r2 q2 => l.ct Hs2 H2 _ _ (r2.forget i none) q2, l.ro, l.ex, l.rn⟩, fun hb => ?_⟩
    · subst e
      cases dd with
      | none => rfl
      | some a => exact y.elim
    · obtain ⟨e1, e2⟩ := h3 hb
      subst e1
      exact l.ex Hs' H' σ' ρ' cls dd fs r' y e2, l.rn⟩
/-- what is known of an exception's class, told to its suite -/
def tKnown (p : Prop) (t : TS) : TS := fun D σ H => p ∧ t D σ H
theorem pss_known {X : Cx} {p : Prop} {sts : List Stmt} {t : TS} (h : p → PSs X sts t) : PSs X sts (tKnown p t) := ⟨fun pins s σ H D I q => (h q.1).run pins s σ H D I q.2⟩
theorem xs_known {p : Prop} {t : TS} (h : p) (q : ExS K t ρ R) : ExS K (tKnown p t) ρ R := fun B Hs H σ Dn r l => ⟨h, q B Hs H σ Dn r l⟩
/-- isinstance(e, c) in the suite -/
theorem ev_isE {C a : Addr} {i : Nat} {c : V} {cv : Value} {b : Bool} (hi : ρ[i]? = some (some (.exv a))) (hc : ∀ u, RelV c u → u = cv) (hk : PySem.W.kitOne K (.ref C) cv = some b) : EvD K (tCB (rIsE K C a) (tCons (tVar i) (tCons (tC c) tNil))) ρ (.bl b) := fun B Hs H σ r Q q => by
  obtain ⟨S, rg⟩ := r.reg
  obtain ⟨v0, hv, hh⟩ := rg.1 i _ hi
  obtain ⟨rfl, _⟩ := hh Hs (Ex.refl Hs)
  exact ⟨.ref a, hv, c, cv, b, rfl, hc, hk, q Hs H _ (Gr.refl r.ex) (.bl b)⟩
/-- what is asked of an own class, so that isinstance asks its instances rightly -/
structure InsC (K : PySem.W.Frag) (C : Addr) : Prop where
  cl : Cls K C
  ha : PySem.W.findIn K (.ref C) "__class__" = some (some (.builtin "object.__class__"))
  hn : PySem.W.specialIn K (.builtin "object.__class__") "__get__" = some (some (.builtin "getset_descriptor.__get__"))
  ht : PySem.W.takesIn K (.builtin "object.__class__") = some true
  hm : PySem.W.mroIn K C (.type "object") = some true
theorem ev_isiO {C Dc : Addr} {ns : List Str} {b : Bool} (ha : EvD K ta ρ (.obj C ns ds)) (I : InsC K C) (hk : PySem.W.kitOne K (.ref C) (.ref Dc) = some b) : EvD K (tCB (rIsi K) (tCons ta (tCons (tC (.ref Dc)) tNil))) ρ (.bl b) := fun B Hs H σ r Q q =>
  ha B Hs H σ r _ fun Hs1 H1 v g x => by
    cases x with
    | obj hp xs => exact ⟨_, .ref Dc, .ref C, .ref Dc, b, rfl, .own Dc, .base (.ins (g.lv _ _ hp) I.cl I.ha I.hn I.ht I.hm), hk, q Hs1 H1 _ g (.bl b)⟩
/-- isinstance of a built-in class, the data of any kind -/
theorem ev_isiD {n : String} {b : Bool} (ha : EvR K ta ρ d) (hk : kitB d.tyn n = some b) (hd : d.tyn ≠ "") : EvD K (tCB (rIsi K) (tCons ta (tCons (tC (.ty n)) tNil))) ρ (.bl b) := ev_isi ha rfl hk hd
end
section
variable {X : Cx} {K : PySem.W.Frag}
theorem isEK {a C : Addr} {oe : Obj} {pn : List (Addr × Obj)} (h : X.K = K) (Cc : ExcC K C) (hz : Zc (.ref C) none oe) (hf : ∃ vs, oe.data = .fields vs) : CallR (X.suite a ((a, oe) :: pn)) (.builtin "isinstance") (rIsE K C a) := by subst h; exact call_isE Cc hz hf
theorem tryAK {x n : Str} {c : Value} {i : Nat} {body suite : List Stmt} {b₀ : Stmt} {np pos pos' : Pos} {tb : WX → TS} {ts : Addr → Value → Option Addr → TS} {Wout : WX} (h : X.K = K) (hs : X.stack = X.env :: X.outer) (hf : X.env.frame = some X.env.locals) (hN : X.N.Nodup) (hi : X.N[i]? = some n) (hln : X.env.kindOf n = some .local) (hc : Names X x c) (tk : Takes X Wout)
    (hb : ∀ (W : WX) (pn : List (Addr × Obj)) (xe : Value → Shared → Prop), Takes (X.tr pn xe) W → PassesOwn (model X.prog X.w) X.A X.env xe → PSs (X.tr pn xe) body (tb W))
    (hsu : ∀ (a : Addr) (oe : Obj) (cls : Value) (d : Option Addr) (pn : List (Addr × Obj)), Zc cls d oe → (∃ vs, oe.data = .fields vs) → PSs (X.suite a ((a, oe) :: pn)) (b₀ :: suite) (ts a cls d)) :
    PS X (.Try body [.ExceptHandler (some (.Name x np)) (some n) (b₀ :: suite) pos'] [] [] pos) (tTryA K c i tb ts Wout) := by subst h; exact ps_try_as hs hf hN hi hln hc tk hb hsu
theorem tryOK {x : Str} {c : Value} {body suite : List Stmt} {b₀ : Stmt} {np pos pos' : Pos} {tb : WX → TS} {ts : Addr → Value → Option Addr → TS} {Wout : WX} (h : X.K = K) (hs : X.stack = X.env :: X.outer) (hf : X.env.frame = some X.env.locals) (hc : Names X x c) (tk : Takes X Wout)
    (hb : ∀ (W : WX) (pn : List (Addr × Obj)) (xe : Value → Shared → Prop), Takes (X.tr pn xe) W → PassesOwn (model X.prog X.w) X.A X.env xe → PSs (X.tr pn xe) body (tb W))
    (hsu : ∀ (a : Addr) (oe : Obj) (cls : Value) (d : Option Addr) (pn : List (Addr × Obj)), Zc cls d oe → (∃ vs, oe.data = .fields vs) → PSs (X.suite a ((a, oe) :: pn)) (b₀ :: suite) (ts a cls d)) :
    PS X (.Try body [.ExceptHandler (some (.Name x np)) none (b₀ :: suite) pos'] [] [] pos) (tTryO K c tb ts Wout) := by subst h; exact ps_try_only hs hf hc tk hb hsu
end
end DL

/-! DDict: enumerate of lists and tuples; dicts from numbers to numbers; min, max of three; insert. -/
namespace DL
open PySem L2 PySem.Spec PyProof.Rows
/-! ### enumerate(tuple) -/
def Itet (K : PySem.W.Frag) (a : Addr) : It :=
  ⟨fun i H => ∃ (xs : List V) (x : V), SqT K H a xs ∧ xs[i]? = some x, fun i H v H' => ∃ T x, v = .ref T ∧ H T = none ∧ H' = upd H T (.tup [.int (i : Nat), x]) ∧ ∀ xs, SqT K H a xs → xs[i]? = some x, fun i H => ∃ xs : List V, SqT K H a xs ∧ xs.length = i⟩
theorem meets_enumerate_1B {v : Value} {o : Obj} {H : Heap → Prop} (B : Begins v o H) :
    Meets (Builtin.«enumerate.__new__» ⟨[.type "enumerate", v], []⟩) (fun _ R s => H s.heap ∧
      R (.ok (.ret (.ref (s.heap.push o).objs.size))) { s with heap := (s.heap.push o).push { cls := .type "enumerate", data := .fields #[.none, .bool false, .ref s.heap.objs.size, rawInt 0, .none, .none] } }) :=
  .of_wp fun prog w A R s h => by
    obtain ⟨hp, g, d, tk, os⟩ := s; obtain ⟨h1, h⟩ := h
    have hsub := sub_enumerate
    have q1 : ∀ {A' : Around} {E : Value → Shared → Prop} {Q : Value → Shared → Prop}, Q (.ref hp.objs.size) ⟨hp.push o, g, d, tk, os⟩ → wpAny (model prog w) A' (pyIter v) Q E ⟨hp, g, d, tk, os⟩ :=
      fun q => B.iter prog w _ _ ⟨hp, g, d, tk, os⟩ _ h1 q
    wp_walk using q1
    refine wpAny_stack_any fun st => wpAny_pure ?_
    split
    · rename_i c _ _ _ _ _
      cases (c == Value.type "enumerate")
      · wp_walk using q1
        exact ⟨_, rfl, h⟩
      · wp_walk using q1
        exact ⟨_, rfl, h⟩
    · wp_walk using q1
      exact ⟨_, rfl, h⟩
section
variable {prog : Program} {w : World} {A : Around} {E : Value → Shared → Prop} {s : Shared}
theorem enum_begins1 {v : Value} {o : Obj} {H : Heap → Prop} {Q : Value → Shared → Prop} (B : Begins v o H) (h1 : H s.heap)
    (h : ∀ h', IsEnum h' (s.heap.objs.size + 1) s.heap.objs.size 0 .none → h'.get? s.heap.objs.size = some o → h'.objs.size = s.heap.objs.size + 2 →
      (∀ b o, s.heap.get? b = some o → h'.get? b = some o) → Q (.ref (s.heap.objs.size + 1)) { s with heap := h' }) :
    wpAny (model prog w) A (call (.type "enumerate") [v]) Q E s := by
  refine callType_new F.called_enumerate (by decide) (F.typeCall_enumerate_1 _) (F.newCall_enumerate_1 _) (fun obj => F.args_object_init_2 obj _) F.entry_enumerate_new
    (meets_enumerate_1B B) ⟨h1, ?_⟩
  have hz : (s.heap.push o).objs.size = s.heap.objs.size + 1 := Heap.size_push ..
  show _ ∧ _
  rw [hz]
  have he : IsEnum ((s.heap.push o).push { cls := .type "enumerate", data := .fields #[.none, .bool false, .ref s.heap.objs.size, rawInt 0, .none, .none] }) (s.heap.objs.size + 1) s.heap.objs.size 0 .none := by
    have := Heap.get?_push_size (s.heap.push o) (o := { cls := .type "enumerate", data := .fields #[.none, .bool false, .ref s.heap.objs.size, rawInt 0, .none, .none] }) rfl
    rw [hz] at this; exact this
  refine ⟨⟨_, he, rfl⟩, h _ he (Heap.get?_push_of_some _ (Heap.get?_push_size _ B.free)) (by rw [Heap.size_push, hz]) fun b o x => Heap.get?_push_of_some _ (Heap.get?_push_of_some _ x)⟩
end
theorem turn_enumT {P : Program} {w : World} {K : PySem.W.Frag} {elts : List Expr} {kk : Nat} {tpos : Pos} (a e it : Addr) :
    Turn P w K (.Tuple elts kk tpos) (Itet K a) [e, it] e (fun i h => (∃ old, IsEnum h e it ((i : Nat) : Int) old) ∧ h.IsTupleIter it a i ∧ e ≠ it) where
  mem := by simp
  obj := fun i h st b hb => by
    obtain ⟨⟨old, he⟩, ⟨o, ho, hc, hd⟩, _⟩ := st
    have e' : b = e ∨ b = it := by simpa using hb
    rcases e' with z | z
    · rw [z]; exact ⟨_, he, fun v q => nomatch q⟩
    · rw [z]; exact ⟨o, ho, fun v q => by rw [hd] at q; cases q⟩
  keep := fun i h h' st k => let ⟨⟨old, he⟩, hi, hne⟩ := st; ⟨⟨old, k e (by simp) _ he⟩, hi.at fun o q => k it (by simp) o q, hne⟩
  item := by
    intro X hP hw hK hc i pins s σ H E I hf st hg
    subst hP hw hK
    obtain ⟨⟨old, he⟩, hit, hne⟩ := st
    obtain ⟨xs, x, hq, hx⟩ := hg
    obtain ⟨its, rv, p, hz⟩ := I.tuple hq
    obtain ⟨u, hu, ru⟩ := rv.get hx
    have hel : e < s.heap.objs.size := Heap.lt_size he
    have hil : it < s.heap.objs.size := by obtain ⟨_, q, _⟩ := hit; exact Heap.lt_size q
    have pT : s.heap.IsTuple a its.toArray := p
    have ha1 : a ≠ it := fun z => by
      obtain ⟨o, q1, q2, _⟩ := hit
      obtain ⟨o', q1', q2', _⟩ := pT
      rw [z, q1] at q1'
      cases q1'
      rw [q2] at q2'
      exact absurd (Value.type.inj q2') (by decide)
    have ha2 : e ≠ a := fun z => by
      obtain ⟨o', q1', q2', _⟩ := pT
      rw [← z, he] at q1'
      cases q1'
      exact absurd (Value.type.inj q2') (by decide)
    have hilt : i < its.toArray.size := by
      have := (List.getElem?_eq_some_iff.mp hu).1
      simpa using this
    refine wpAny_pyNext_enum_itemD (Draws.tuple (A := X.A.in1) (I.ok.hd hc) it a ha1 its.toArray) he ⟨hit, pT⟩ hilt hne (by simp [hne, ha2]) fun x0 h' tk hP ho hit' hT hsz hk => ?_
    have hx0 : x0 = u := by
      have e1 : its.toArray[i]? = some x0 := hP
      have e2 : its.toArray[i]? = some u := by simpa using hu
      rw [e1] at e2
      exact Option.some.inj e2
    subst hx0
    refine ⟨_, rfl, wpAny_letOwnedTupleGo_enum (s := { s with heap := h', toks := tk + 1 }) ho fun h'' he' sb => ?_⟩
    have hT2 : h''.get? s.heap.objs.size = some { cls := .type "tuple", data := .seq #[.int i tk, x0] } := (sb.2 _ (Nat.ne_of_gt hel)).trans hT
    have new : ObjOk X.prog X.w (upd H s.heap.objs.size (.tup [.int (i : Nat), x])) h'' s.heap.objs.size (.tup [.int (i : Nat), x]) :=
      ⟨by show 2 ≤ sizeLine; decide, [.int i tk, x0], .cons ⟨_, rfl⟩ (.cons ru .nil), ⟨_, hT2, rfl, _, rfl⟩⟩
    have I1 : Inv X pins σ (upd H s.heap.objs.size (.tup [.int (i : Nat), x])) { s with heap := h'', toks := tk + 1 } :=
      I.turnedNew (ch := [e, it]) (fun b ob hb q => (sb.2 b (fun z => hb (by simp [z]))).trans (hk b ob (fun z => hb (by simp [z])) (fun z => hb (by simp [z])) q)) hf (Nat.le_refl _) new
    refine ⟨.ref s.heap.objs.size, _, I1, rfl, ⟨_, x, rfl, I.hok.fresh (Nat.le_refl _), rfl, fun ys hy => by rw [I.tuple_inj hy hq]; exact hx⟩, ⟨⟨x0, ?_⟩, hit'.1.at fun o q => (sb.2 it (Ne.symm hne)).trans q, hne⟩, fun b hb => ?_⟩
    · have e1 : ((i + 1 : Nat) : Int) = (i : Int) + 1 := by omega
      rw [e1]; exact he'
    · have hb' : b < s.heap.objs.size := by
        have e' : b = e ∨ b = it := by simpa using hb
        rcases e' with z | z
        · rw [z]; exact hel
        · rw [z]; exact hil
      rw [upd_ne (Nat.ne_of_lt hb')]
      exact (hf b hb).1
  done := by
    intro X hP hw hK hc i pins s σ H E I hf st hg
    subst hP hw hK
    obtain ⟨⟨old, he⟩, hit, hne⟩ := st
    obtain ⟨xs, hq, hx⟩ := hg
    obtain ⟨its, rv, p, hz⟩ := I.tuple hq
    obtain ⟨f0, f1, f2, f3, f4, f5⟩ := hf it (by simp)
    have hl := rv.length
    have pT : s.heap.IsTuple a its.toArray := p
    have ha1 : a ≠ it := fun z => by
      obtain ⟨o, q1, q2, _⟩ := hit
      obtain ⟨o', q1', q2', _⟩ := pT
      rw [z, q1] at q1'
      cases q1'
      rw [q2] at q2'
      exact absurd (Value.type.inj q2') (by decide)
    have hi : i = its.toArray.size := by simp; omega
    exact wpAny_pyNext_enum_endD (Draws.tuple (A := X.A.in1) (I.ok.hd hc) it a ha1 its.toArray) he ⟨hi ▸ hit, pT⟩ fun h' eb => ⟨rfl, I.turned (t' := s.toks) (fun b o hb e => eb b o hb e) f0 f1 f3 f4 f5⟩
  self := fun A i s Q E st h => let ⟨⟨_, he⟩, _⟩ := st; wpAny_pyIter_enum he h
def iEnumA (K : PySem.W.Frag) (ta : TA) : TI := fun σ H R => ta σ H fun vs H1 => ∃ a, vs = [.ref a] ∧ (((∃ xs, SqL K H1 a xs) ∧ R (Ite K a) H1) ∨ ((∃ xs, SqT K H1 a xs) ∧ R (Itet K a) H1))
theorem pi_enumA {X : Cx} {e : Expr} {ta : TA} {p pos tpos : Pos} {elts : List Expr} {kk : Nat} (hg : Gl X "enumerate") (hm : X.mg "enumerate" = none) (ha : PA X [e] ta) (hs : starEach [e] X.env = [(false, eval e X.env)] := by rfl) :
    PI X (.Tuple elts kk tpos) (.Call (.Name "enumerate" p) [e] [] pos) (iEnumA X.K ta) := by
  refine ⟨fun pins s σ H R I h => ?_⟩
  refine Call_ (ld_blt I hg hm boot_enumerate (PyProof.Rows.callWith_type1 (thn (ha.run pos pins s σ H _ I h) fun us s1 ⟨vs, H1, I1, r1, q1⟩ => ?_) hs rfl))
  obtain ⟨a, ex, q⟩ := q1
  subst ex
  cases r1 with
  | cons r rr =>
    cases rr
    cases r
    have fp : ∀ b ∈ [s1.heap.objs.size + 1, s1.heap.objs.size], FpOk X pins H1 b := fun b hb => by
      have e' : b = s1.heap.objs.size + 1 ∨ b = s1.heap.objs.size := by simpa using hb
      have hle : s1.heap.objs.size ≤ b := by
        rcases e' with z | z
        · rw [z]; exact Nat.le_add_right _ _
        · rw [z]; exact Nat.le_refl _
      exact I1.fpOk hle (I1.hok.fresh hle)
    rcases q with ⟨⟨xs, hq⟩, q⟩ | ⟨⟨xs, hq⟩, q⟩
    · obtain ⟨its, rv, p', hz⟩ := I1.list hq
      refine call_enumerate_list p'.isList fun h' he hit hsz hk => wpAny_pyIter_enum he ?_
      have I2 : Inv X pins σ H1 { s1 with heap := h' } := I1.kept (t' := s1.toks) hk
      exact ⟨s1.heap.objs.size + 1, [s1.heap.objs.size + 1, s1.heap.objs.size], _, _, H1, rfl, I2, turn_enum a (s1.heap.objs.size + 1) s1.heap.objs.size, ⟨⟨.none, he⟩, hit, Nat.succ_ne_self _⟩, fp, q⟩
    · obtain ⟨its, rv, p', hz⟩ := I1.tuple hq
      refine enum_begins1 (begins_tuple a its.toArray) p' fun h' he hit hsz hk => wpAny_pyIter_enum he ?_
      have I2 : Inv X pins σ H1 { s1 with heap := h' } := I1.kept (t' := s1.toks) hk
      exact ⟨s1.heap.objs.size + 1, [s1.heap.objs.size + 1, s1.heap.objs.size], _, _, H1, rfl, I2, turn_enumT a (s1.heap.objs.size + 1) s1.heap.objs.size, ⟨⟨.none, he⟩, ⟨_, hit, rfl, rfl⟩, Nat.succ_ne_self _⟩, fp, q⟩
theorem dgetK {X : Cx} {o i : Expr} {pos : Pos} {td ty : TE} (hu : X.A.units + 65 < cLine) (ho : PE X o td) (hi : PE X i ty) (hs : NoSl i) : PE X (.Subscript o i pos) (tDGet td ty) := pe_dget (by omega) ho hi hs
theorem enumAK {X : Cx} {K : PySem.W.Frag} (h : X.K = K) {e : Expr} {ta : TA} {p pos tpos : Pos} {elts : List Expr} {kk : Nat} (hg : Gl X "enumerate") (hm : X.mg "enumerate" = none) (ha : PA X [e] ta) (hs : starEach [e] X.env = [(false, eval e X.env)] := by rfl) :
    PI X (.Tuple elts kk tpos) (.Call (.Name "enumerate" p) [e] [] pos) (iEnumA K ta) := by subst h; exact pi_enumA hg hm ha hs
section
variable {K : PySem.W.Frag} {ρ ρ' : Env} {nw : Bool} {te ta tb tc tw ti : TE} {d e : D} {ds es : List D} {tt : TT} {R : DEnds} {o : O} {i : Nat} {p : List Nat}
theorem ei_enumL (h : EvD K ta ρ (.lst ds)) : EvI K (iEnumA K (tCons ta tNil)) ρ (numD 0 ds) := fun B Hs H σ r R q => h B Hs H σ r _ fun Hs1 H1 v g x => by
  cases x with
  | @lst p vs _ hp' xs =>
    have hp : SqL K Hs1 p vs := .of hp'
    refine ⟨p, rfl, .inl ⟨⟨vs, g.lv.sl hp⟩, q _ Hs1 H1 g fun i Hs2 H2 e1 e2 => ⟨fun d hd => ?_, fun hi => ?_⟩⟩⟩
    · rw [numD_get, Nat.zero_add] at hd
      obtain ⟨d0, e3, e4⟩ := Option.map_eq_some_iff.mp hd
      subst e4
      have hq := (e1.trans e2).sl hp
      obtain ⟨v, hv, xv⟩ := xs.at e3
      refine ⟨⟨vs, v, hq, hv⟩, fun x H3 y => ?_⟩
      obtain ⟨T, w, rfl, hT, rfl, y⟩ := y
      have z := y vs hq
      rw [hv] at z
      cases z
      have n2 : Hs2 T = none := by
        cases q : Hs2 T with
        | none => rfl
        | some u =>
          rw [e2 T u q] at hT
          cases hT
      exact ⟨_, Gr.new e2 hT, .tup upd_same (.cons (.int _) (.cons (xv.mono (e1.trans (Ex.new n2))) .nil))⟩
    · rw [numD_length] at hi
      exact ⟨vs, (e1.trans e2).sl hp, by rw [xs.length]; omega⟩
theorem ei_enumT (h : EvD K ta ρ (.tup ds)) : EvI K (iEnumA K (tCons ta tNil)) ρ (numD 0 ds) := fun B Hs H σ r R q => h B Hs H σ r _ fun Hs1 H1 v g x => by
  cases x with
  | @tup p vs _ hp' xs =>
    have hp : SqT K Hs1 p vs := .of hp'
    refine ⟨p, rfl, .inr ⟨⟨vs, g.lv.st hp⟩, q _ Hs1 H1 g fun i Hs2 H2 e1 e2 => ⟨fun d hd => ?_, fun hi => ?_⟩⟩⟩
    · rw [numD_get, Nat.zero_add] at hd
      obtain ⟨d0, e3, e4⟩ := Option.map_eq_some_iff.mp hd
      subst e4
      have hq := (e1.trans e2).st hp
      obtain ⟨v, hv, xv⟩ := xs.at e3
      refine ⟨⟨vs, v, hq, hv⟩, fun x H3 y => ?_⟩
      obtain ⟨T, w, rfl, hT, rfl, y⟩ := y
      have z := y vs hq
      rw [hv] at z
      cases z
      have n2 : Hs2 T = none := by
        cases q : Hs2 T with
        | none => rfl
        | some u =>
          rw [e2 T u q] at hT
          cases hT
      exact ⟨_, Gr.new e2 hT, .tup upd_same (.cons (.int _) (.cons (xv.mono (e1.trans (Ex.new n2))) .nil))⟩
    · rw [numD_length] at hi
      exact ⟨vs, (e1.trans e2).st hp, by rw [xs.length]; omega⟩
/-! ### dicts from numbers to numbers -/
theorem en_dictV : EvN K tDNewK ρ (.dv (fun _ => none) 0) := fun B Hs H σ r Q q => fun p hp => by
  obtain ⟨n1, n2⟩ := gr_none (Gr.refl r.ex) hp
  refine q Hs _ _ _ (Gr.newO r.ex hp) (.dg (kvs := []) ⟨Nat.le_refl _, fun i => rfl⟩) fun a u z => ?_
  by_cases y : a = p
  · subst y
    rw [upd_same] at z ⊢
    exact ⟨z, hp, n2⟩
  · rw [upd_ne y] at z
    cases z
theorem ev_inV {f : Int → Option Int} {n : Nat} {k : Int} (hk : EvD K ta ρ (.int k)) (h : EvW K te ρ i p) (hi : ρ[i]? = some (some (.tr K nw o))) (hp : o.at_ p = some (.dv f n)) : EvD K (tOp (rInA K) ta te) ρ (.bl (f k).isSome) := fun B Hs H σ r Q q =>
  hk B Hs H σ r _ fun Hs0 H0 y g0 y0 => h B Hs0 H0 σ (r.grow g0) _ fun Hs1 H1 v0 v g hv va => by
    cases y0
    have r1 := (r.grow g0).grow g
    obtain ⟨R, rg⟩ := r1.reg
    obtain ⟨v0', v1, S, hv', va', ow, sub, _⟩ := r1.part rg hi hp
    rw [hv] at hv'
    cases hv'
    have e := va.det va'
    subst e
    cases ow with
    | @dg a _ _ kvs hk =>
      refine .inr (.inr (.inl ⟨a, _, rfl, DGet.k (k := (Sum.inl k : Key)) (sub a _ upd_same).1, ?_⟩))
      rw [hk.2 k, Option.isSome_map]
      exact q Hs1 H1 _ (g0.trans g) (.bl _)
theorem ev_notInV {f : Int → Option Int} {n : Nat} {k : Int} (hk : EvD K ta ρ (.int k)) (h : EvW K te ρ i p) (hi : ρ[i]? = some (some (.tr K nw o))) (hp : o.at_ p = some (.dv f n)) : EvD K (tOp (rNotInA K) ta te) ρ (.bl (!(f k).isSome)) := fun B Hs H σ r Q q =>
  hk B Hs H σ r _ fun Hs0 H0 y g0 y0 => h B Hs0 H0 σ (r.grow g0) _ fun Hs1 H1 v0 v g hv va => by
    cases y0
    have r1 := (r.grow g0).grow g
    obtain ⟨R, rg⟩ := r1.reg
    obtain ⟨v0', v1, S, hv', va', ow, sub, _⟩ := r1.part rg hi hp
    rw [hv] at hv'
    cases hv'
    have e := va.det va'
    subst e
    cases ow with
    | @dg a _ _ kvs hk =>
      refine .inr (.inr (.inl ⟨a, _, rfl, DGet.k (k := (Sum.inl k : Key)) (sub a _ upd_same).1, ?_⟩))
      rw [hk.2 k, Option.isSome_map]
      exact q Hs1 H1 _ (g0.trans g) (.bl _)
/-- d[k] -/
theorem ev_getV {f : Int → Option Int} {n : Nat} {k v : Int} (h : EvW K te ρ i p) (hk : EvD K ta ρ (.int k)) (hi : ρ[i]? = some (some (.tr K nw o))) (hp : o.at_ p = some (.dv f n)) (hf : f k = some v) : EvD K (tDGet te ta) ρ (.int v) := fun B Hs H σ r Q q =>
  h B Hs H σ r _ fun Hs0 H0 v0 v g0 hv va => hk B Hs0 H0 σ (r.grow g0) _ fun Hs1 H1 y g y0 => by
    cases y0
    have r1 := (r.grow g0).grow g
    obtain ⟨R, rg⟩ := r1.reg
    obtain ⟨v0', v1, S, hv', va', ow, sub, _⟩ := r1.part rg hi hp
    rw [hv] at hv'
    cases hv'
    have e := (va.mono g.fr).det va'
    subst e
    cases ow with
    | @dg a _ _ kvs hk =>
      refine ⟨a, _, rfl, ?_, q Hs1 H1 _ (g0.trans g) (.int _)⟩
      have := DGet.k (k := (Sum.inl k : Key)) (sub a _ upd_same).1
      rw [hk.2 k, hf] at this
      exact this
/-- d[k] = v -/
theorem xs_putV {f : Int → Option Int} {n : Nat} {k x : Int} (h : EvD K te ρ (.int x)) (hw : EvW K tw ρ i p) (hi : ρ[i]? = some (some (.tr K nw o))) (hp : o.at_ p = some (.dv f n)) (hk : EvD K ti ρ (.int k)) (hz : n < 100000) (q : R.nx (ρ.set i (some (.tr K nw (o.put p (.dv (fun y => if y = k then some x else f y) (n + 1))))))) :
    ExS K (tAsg te (gSub tw ti rSetA)) ρ R := fun B Hs H σ Dn r l =>
  h B Hs H σ r _ fun Hs0 H0 w g0 y0 => hw B Hs0 H0 σ (r.grow g0) _ fun Hs1 H1 v0 v g hv va => hk B Hs1 H1 σ ((r.grow g0).grow g) _ fun Hs2 H2 z g2 z2 => by
    cases z2
    cases y0
    have r2 := ((r.grow g0).grow g).grow g2
    obtain ⟨R2, rg2⟩ := r2.reg
    obtain ⟨v0', v1, S, hv', va', ow, sub, kk⟩ := r2.part rg2 hi hp
    rw [hv] at hv'
    cases hv'
    have e := (va.mono g2.fr).det va'
    subst e
    cases ow with
    | @dg a _ _ kvs hkv =>
      have ha := (sub a _ upd_same).1
      refine .inr ⟨a, _, rfl, DPut.k (k := (Sum.inl k : Key)) ha (Nat.lt_of_le_of_lt hkv.1 (sz_lt hz)), l.nx Hs2 _ _ _ (kk (S' := upd em a (.dK (putK kvs (Sum.inl k : Key) (.int x)))) (.dg ⟨?_, fun y => ?_⟩) (fun b u z => ?_) (fun b u z e => ?_) fun b e => upd_keep ha e) q⟩
      · have := length_putK kvs (Sum.inl k : Key) (.int x)
        have := hkv.1
        omega
      · rw [valV_put]
        by_cases e : y = k
        · subst e
          rw [if_pos rfl]
          show some (V.int x) = Option.map V.int (if y = y then some x else f y)
          rw [if_pos rfl]
          rfl
        · rw [if_neg (fun z => e (Sum.inl.inj z)), hkv.2 y]
          show Option.map V.int (f y) = Option.map V.int (if y = k then some x else f y)
          rw [if_neg e]
      · by_cases eb : b = a
        · subst eb
          rw [upd_same] at z ⊢
          exact ⟨z, .inl (by rw [upd_same]; exact fun q => nomatch q)⟩
        · rw [upd_ne eb] at z
          cases z
      · rw [upd_ne (fun eb => by rw [eb, upd_same] at z; cases z)]
        exact e
/-! ### min, max of three -/
theorem nuMin2_int (x y : Int) : nuMin2 (.int x) (.int y) = some (.int (min x y)) := by
  show some (if decide (y < x) = true then V.int y else V.int x) = _
  by_cases h : y < x
  · rw [if_pos (decide_eq_true h), Int.min_eq_right (by omega)]
  · rw [if_neg (by simpa using h), Int.min_eq_left (by omega)]
theorem nuMin3_int (x y z : Int) : nuMin3 (.int x) (.int y) (.int z) = some (.int (min (min x y) z)) := by
  show (nuMin2 (.int x) (.int y)).bind (fun m => nuMin2 m (.int z)) = _
  rw [nuMin2_int]
  exact nuMin2_int _ _
theorem ev_min3 {x y z : Int} (ha : EvD K ta ρ (.int x)) (hb : EvD K tb ρ (.int y)) (hc : EvD K tc ρ (.int z)) : EvD K (tCB (rNuC3 nuMin3) (tCons ta (tCons tb (tCons tc tNil)))) ρ (.int (min (min x y) z)) := fun B Hs H σ r Q q =>
  ha B Hs H σ r _ fun Hs1 H1 v1 g1 x1 => hb B Hs1 H1 σ (r.grow g1) _ fun Hs2 H2 v2 g2 x2 => hc B Hs2 H2 σ ((r.grow g1).grow g2) _ fun Hs3 H3 v3 g3 x3 => by
    cases x1
    cases x2
    cases x3
    refine ⟨_, _, _, .int (min (min x y) z), rfl, ?_, q Hs3 H3 _ ((g1.trans g2).trans g3) (.int _)⟩
    exact nuMin3_int x y z
/-- xs.insert(k, x), an own list -/
theorem xs_insO {k : Int} (hx : ρ[i]? = some (some (.ol ds))) (hk : EvD K ti ρ (.int k)) (h : EvD K te ρ d) (hz : ds.length < 100000) (h0 : 0 ≤ k) (h1 : k < 1000000000) (q : R.nx (ρ.set i (some (.ol (ds.take k.toNat ++ [d] ++ ds.drop k.toNat))))) :
    ExS K (tDrop (tBM K "list" rInsert (tVar i) (tCons ti (tCons te tNil)))) ρ R := fun B Hs H σ Dn r l => by
  obtain ⟨p, vs, e, hp, x, _⟩ := r.mutL i hx
  refine ⟨.ref p, e, .inl ⟨rfl, _, .of hp⟩, hk B Hs H σ r _ fun Hs1 H1 w1 g1 y1 => h B Hs1 H1 σ (r.grow g1) _ fun Hs2 H2 w g2 y => ?_⟩
  cases y1
  obtain ⟨p', vs', e', hp', x', m⟩ := ((r.grow g1).grow g2).mutL i hx
  rw [e] at e'
  cases e'
  refine ⟨p, vs', k, w, rfl, rfl, hp', by rw [x'.length]; exact sz_lt hz, h0, by omega, ?_⟩
  exact l.nx Hs2 _ _ _ (m _ _ (((x'.take _).append (.cons y .nil)).append (x'.drop _))) q
end
end DL

/-! DRev: list(reversed(l)); l.index(i); a.append(b.pop(i)); len(set(l)). -/
namespace PySem
open Sem (wp)
open AutoSeq1 (wpAny_loadPart')
namespace RV
theorem nolen : typeLookup (.type "list_reverseiterator") "__len__" = pure none := by rw [typeLookup_type, builtinLookup_eq_fast]; kernel_rfl
theorem hint : typeLookup (.type "list_reverseiterator") "__length_hint__" = pure (some (.builtin "list_reverseiterator.__length_hint__")) := by rw [typeLookup_type, builtinLookup_eq_fast]; kernel_rfl
section
variable {prog : Program} {w : World} {A : Around} {E : Value → Shared → Prop} {s : Shared} {I l : Addr} {items : Array Value}
abbrev Got (items : Array Value) (acc : Array Value) : Prop := ItemsOf (fun i v => items[items.size - 1 - i]? = some v) acc items.size
theorem extend {R : Result → Shared → Prop} (hh : A.handled = none) (zi : s.heap.IsRevIter I l ((items.size : Int) - 1)) (zl : s.heap.IsList l items) (few : items.size ≤ sizeLine) (S : Addr) (res : Value) (c₀ : Nat) (yS : s.heap.get? S = some { cls := .type "list", data := .seq #[] c₀ }) (hSl : S ≠ l)
    (q : ∀ h' tk acc' c', (∀ b o, b ≠ S → b ≠ I → s.heap.get? b = some o → h'.get? b = some o) → h'.get? S = some { cls := .type "list", dict := none, data := .seq acc' c', slots := #[] } → Got items acc' → R (.ok (.ret res)) { s with heap := h', toks := tk }) :
    wpAny (model prog w) A.in1 (Builtin.List.listExtendWith (.ref S) (.ref I) res) (fun fin s' => match fin with | .done f => R (.ok f) s' | .again c' => c'.quiet = true ∧ codeAny (model prog w) A c' R s') (fun e s' => R (.error e) s') s := by
  obtain ⟨oi, hi1, hi2, hi3⟩ := id zi
  obtain ⟨ol, hl1, hl2, hl3⟩ := id zl
  have nSI : S ≠ I := fun e => by
    rw [e, hi1] at yS
    have := Option.some.inj yS
    rw [this] at hi2
    exact absurd (Value.type.inj hi2) (by decide)
  have nlI : l ≠ I := fun e => by
    rw [e, hi1] at hl1
    have := Option.some.inj hl1
    rw [this, hl2] at hi2
    exact absurd (Value.type.inj hi2) (by decide)
  have nSf : S ∉ [I, l] := by simp [nSI, hSl]
  have W := (Walks.listRev (prog := prog) (w := w) (A := A.in1) hh I l nlI items).toS
  have st0 : 0 ≤ items.size ∧ s.heap.IsRevIter I l ((items.size : Int) - 1 - ((0 : Nat) : Int)) ∧ s.heap.IsList l items := ⟨Nat.zero_le _, by simpa using zi, zl⟩
  have hT : s.TypeIs (.ref I) "list_reverseiterator" := zi.typeIs
  have h1 : Builtin.List.listSameRef (.ref S) (.ref I) = false := by simp [Builtin.List.listSameRef, nSI]
  unfold Builtin.List.listExtendWith
  refine wpAny_bind (wpAny_typeOf hT ?_)
  rw [if_neg (by rw [h1]; decide)]
  refine wpAny_bind (wpAny_pyIter_revIter zi ?_)
  refine wpAny_bind (wpAny_holding ?_)
  unfold Builtin.List.listLengthHint
  refine wpAny_bind (wpAny_specialOf hT nolen ?_)
  show wpAny _ A.in1 (specialOf (Value.ref I) (Str.ofString "__length_hint__") >>= _) _ _ _
  refine wpAny_bind (wpAny_specialOf hT hint ?_)
  generalize hid : ("list_reverseiterator.__length_hint__" : String) = id0
  wp_delta
  rw [show splitId id0 = some ("list_reverseiterator", "__length_hint__") from by subst hid; decide +kernel]
  subst hid
  refine wpAny_bind (wpAny_isInstance (b := true) hT (by rw [isSubtype_type]; kernel_rfl) ?_)
  refine wpAny_pure ?_
  rw [if_neg (by decide)]
  refine wpAny_pure ⟨plainId_quiet F.plain_extend_loop _, codeAny_extend_loopS W few S nSf res items.size 0 _ #[] c₀ rfl (Nat.zero_le _) st0 yS (ItemsOf.nil _) fun s' acc' c' m y3 g => ?_⟩
  rw [Moved.eq_with m]
  refine q s'.heap s'.toks acc' c' (fun b o nb nI e => m.heap b o (fun mm => ?_) e) y3 g
  rcases List.mem_cons.mp mm with e' | mm
  · exact nb e'
  · exact nI (List.mem_singleton.mp mm)
theorem init {R : Result → Shared → Prop} (hh : A.handled = none) (zi : s.heap.IsRevIter I l ((items.size : Int) - 1)) (zl : s.heap.IsList l items) (few : items.size ≤ sizeLine) (S : Addr) (yS : s.heap.get? S = some { cls := .type "list", data := .seq #[] }) (hSl : S ≠ l)
    (q : ∀ h' tk acc' c', (∀ b o, b ≠ S → b ≠ I → s.heap.get? b = some o → h'.get? b = some o) → h'.get? S = some { cls := .type "list", dict := none, data := .seq acc' c', slots := #[] } → Got items acc' → R (.ok (.ret .none)) { s with heap := h', toks := tk }) :
    wpAny (model prog w) A.in1 (Builtin.«list.__init__» ⟨[.ref S, .ref I], []⟩) (fun fin s' => match fin with | .done f => R (.ok f) s' | .again c' => c'.quiet = true ∧ codeAny (model prog w) A c' R s') (fun e s' => R (.error e) s') s := by
  obtain ⟨oi, hi1, hi2, hi3⟩ := id zi
  have nSI : S ≠ I := fun e => by
    rw [e, hi1] at yS
    have := Option.some.inj yS
    rw [this] at hi2
    exact absurd (Value.type.inj hi2) (by decide)
  show wpAny _ _ (do let old ← Builtin.List.listItems (.ref S); Builtin.List.listUpdate (.ref S) (fun _ => #[]); letGo old.toList.reverse; Builtin.List.listExtendWith (.ref S) (.ref I) .none) _ _ s
  refine wpAny_bind ?_
  unfold Builtin.List.listItems
  refine wpAny_bind (wpAny_seqItems yS rfl (wpAny_pure ?_))
  show wpAny _ _ (updateSeq S (fun _ => #[]) >>= fun _ => letGo (#[] : Array Value).toList.reverse >>= fun _ => Builtin.List.listExtendWith (.ref S) (.ref I) .none) _ _ s
  refine wpAny_bind (wpAny_updateSeq yS rfl ?_)
  have y2 := Heap.get?_update_self (Obj.mapSeq (fun _ => (#[] : Array Value))) yS rfl
  have oth : ∀ b o, b ≠ S → s.heap.get? b = some o → (s.heap.update S (Obj.mapSeq (fun _ => (#[] : Array Value)))).get? b = some o := fun b o nb e => (Heap.get?_update_other _ _ (Ne.symm nb)).trans e
  refine wpAny_bind (wpAny_letGo (extend hh (zi.at fun o e => oth I o (Ne.symm nSI) e) (zl.at fun o e => oth l o (Ne.symm hSl) e) few S .none _ y2 hSl fun h' tk acc' c' hk y3 g => ?_))
  exact q h' tk acc' c' (fun b o nb nI e => hk b o nb nI (oth b o nb e)) y3 g
theorem call_rev {Q : Value → Shared → Prop} (hh : A.handled = none) (zi : s.heap.IsRevIter I l ((items.size : Int) - 1)) (zl : s.heap.IsList l items) (few : items.size ≤ sizeLine)
    (q : ∀ h' tk acc' c', (∀ b o, b ≠ I → s.heap.get? b = some o → h'.get? b = some o) → h'.get? s.heap.objs.size = some { cls := .type "list", dict := none, data := .seq acc' c', slots := #[] } → Got items acc' → Q (.ref s.heap.objs.size) { s with heap := h', toks := tk }) :
    wpAny (model prog w) A (call (.type "list") [.ref I]) Q E s := by
  refine callType_codes (Q₁ := fun obj s₁ => obj = .ref s.heap.objs.size ∧ s₁ = { s with heap := s.heap.push { cls := .type "list", data := .seq #[] } }) F.called_list (F.typeCall_list_1 _) F.entry_list_init (code_list_new _ ⟨rfl, rfl⟩) fun obj s₁ h₁ => ?_
  obtain ⟨rfl, rfl⟩ := h₁
  have yS : (s.heap.push { cls := .type "list", data := .seq #[] }).get? s.heap.objs.size = some { cls := .type "list", data := .seq #[] } := Heap.get?_push_size _ rfl
  have hll : l < s.heap.objs.size := by obtain ⟨o, h, _⟩ := id zl; exact Heap.lt_size h
  refine ⟨⟨_, yS, rfl⟩, F.args_list_init_2 _ _, init (A := A.in1) hh (zi.at fun o e => Heap.get?_push_of_some _ e) (zl.at fun o e => Heap.get?_push_of_some _ e) few _ yS (Ne.symm (Nat.ne_of_lt hll)) fun h' tk acc' c' hk y2 g => ?_⟩
  exact ⟨rfl, q h' tk acc' c' (fun b o nI e => hk b o (Nat.ne_of_lt (Heap.lt_size e)) nI (Heap.get?_push_of_some _ e)) y2 g⟩
end
end RV
end PySem
namespace DL
open PySem L2 PySem.Spec PyProof.Rows
def tListRev (K : PySem.W.Frag) (te : TE) : TE := fun σ H Q => te σ H fun v H1 => ∃ (a : Addr) (xs : List V), v = .ref a ∧ SqL K H1 a xs ∧ ∀ q, H1 q = none → Q (.ref q) (upd H1 q (.lst xs.reverse))
section
variable {X : Cx}
theorem pe_listRev {e : Expr} {te : TE} {p p2 pos pos2 : Pos} (hc : X.calm = true) (hg : Gl X "list") (hm : X.mg "list" = none) (hg2 : Gl X "reversed") (hm2 : X.mg "reversed" = none) (he : PE X e te)
    (hs : starEach [e] X.env = (false, eval e X.env) :: starEach [] X.env := by rfl)
    (hs2 : starEach [.Call (.Name "reversed" p2) [e] [] pos2] X.env = (false, eval (.Call (.Name "reversed" p2) [e] [] pos2) X.env) :: starEach [] X.env := by rfl) :
    PE X (.Call (.Name "list" p) [.Call (.Name "reversed" p2) [e] [] pos2] [] pos) (tListRev X.K te) := by
  refine ⟨fun pins s σ H Q I h => ?_⟩
  refine Call_ (ld_blt I hg hm boot_list (PyProof.Rows.callWith_type1 (args_cons (Call_ (ld_blt I hg2 hm2 PyProof.Rows.boot_reversed (PyProof.Rows.callWith_type1 (args_cons (thn (he.run pins s σ H _ I h) fun u s1 ⟨v, H1, I1, r1, q1⟩ => args_nil ?_) hs) hs rfl))) hs2) hs2 rfl))
  obtain ⟨a, xs, ev, hq, q⟩ := q1
  subst ev
  obtain rfl : u = Value.ref a := r1
  obtain ⟨its, rv, p', hz⟩ := I1.list hq
  refine call_reversed_list p'.isList (args_nil ?_)
  have k0 : ∀ b o, s1.heap.get? b = some o → (s1.heap.push (revObj a ((its.toArray.size : Int) - 1))).get? b = some o := fun b o e => Heap.get?_push_of_some _ e
  have I2 : Inv X pins σ H1 { s1 with heap := s1.heap.push (revObj a ((its.toArray.size : Int) - 1)) } := I1.kept (t' := s1.toks) k0
  obtain ⟨f0, f1, f2, f3, f4, f5⟩ := I1.fpOk (H' := H1) (b := s1.heap.objs.size) (Nat.le_refl _) (I1.hok.fresh (Nat.le_refl _))
  have hl := p'.isList
  obtain ⟨ol, hol, _⟩ := id hl
  have hne : a ≠ s1.heap.objs.size := Nat.ne_of_lt (Heap.lt_size hol)
  have hn : its.toArray.size ≤ sizeLine := by rw [List.size_toArray, ← rv.length]; exact hz
  refine RV.call_rev (s := { s1 with heap := s1.heap.push (revObj a ((its.toArray.size : Int) - 1)) }) (I := s1.heap.objs.size) (l := a) (items := its.toArray) (I1.ok.hd hc) ⟨_, Heap.get?_push_size _ rfl, rfl, rfl⟩ (hl.push _) hn fun h' tk acc c' hk hS hi => ?_
  have hfp : ∀ b ∈ [s1.heap.objs.size], FpOk X pins H1 b := fun b hb => by
    obtain rfl := List.mem_singleton.mp hb
    exact ⟨f0, f1, f2, f3, f4, f5⟩
  have I3 : Inv X pins σ (upd H1 (s1.heap.push (revObj a ((its.toArray.size : Int) - 1))).objs.size (.lst xs.reverse)) { s1 with heap := h', toks := tk } :=
    I2.turnedNew (t' := tk) (ch := [s1.heap.objs.size]) (fun b o hb e => hk b o (fun z => hb (by simp [z])) e) hfp (Nat.le_refl _)
      (show ObjOk X.prog X.w _ h' _ (.lst xs.reverse) from ⟨by rw [List.length_reverse]; exact hz, acc.toList, c', RT.vals_rev rv hi, by rw [Array.toArray_toList]; exact hS⟩)
  exact ⟨.ref (s1.heap.push (revObj a ((its.toArray.size : Int) - 1))).objs.size, _, I3, rfl, q _ (I2.hok.fresh (Nat.le_refl _))⟩
end
theorem listRevK {X : Cx} {K : PySem.W.Frag} {e : Expr} {te : TE} {p p2 pos pos2 : Pos} (h : X.K = K) (hg : Gl X "list") (hm : X.mg "list" = none) (hg2 : Gl X "reversed") (hm2 : X.mg "reversed" = none) (he : PE X e te) (hc : X.calm = true := by rfl)
    (hs : starEach [e] X.env = (false, eval e X.env) :: starEach [] X.env := by rfl)
    (hs2 : starEach [.Call (.Name "reversed" p2) [e] [] pos2] X.env = (false, eval (.Call (.Name "reversed" p2) [e] [] pos2) X.env) :: starEach [] X.env := by rfl) :
    PE X (.Call (.Name "list" p) [.Call (.Name "reversed" p2) [e] [] pos2] [] pos) (tListRev K te) := by subst h; exact pe_listRev hc hg hm hg2 hm2 he hs hs2
theorem lenSetK {X : Cx} {K : PySem.W.Frag} {a : Expr} {ta : TE} {p p2 q pos : Pos} (h : X.K = K) (hg : Gl X "len") (hm : X.mg "len" = none) (hg2 : Gl X "set") (hm2 : X.mg "set" = none) (ha : PE X a ta) (hc : X.calm = true := by rfl)
    (na : starEach [a] X.env = (false, eval a X.env) :: starEach [] X.env := by rfl) : PE X (.Call (.Name "len" p) [.Call (.Name "set" p2) [a] [] q] [] pos) (RZ.tLenSetI K ta) := by subst h; exact RZ.pe_lenSetI hg hm hg2 hm2 ha hc na
theorem indexK {X : Cx} {K : PySem.W.Frag} (h : X.K = K) : MtR X "list.index" (rIndex K) := by subst h; exact mt_index
section
variable {K : PySem.W.Frag} {ρ ρ' : Env} {te ta tb ti : TE} {d e : D} {ds es : List D} {tt : TT} {R : DEnds}
theorem ef_listRev (ha : EvB K ta ρ ds) : EvF K (tListRev K ta) ρ ds.reverse := fun B Hs H σ r Q q =>
  ha B Hs H σ r _ fun Hs1 H1 p vs g1 hp xs => ⟨p, vs, rfl, hp, fun l hn => by
    obtain ⟨n1, n2⟩ := gr_none g1 hn
    exact q Hs1 _ l _ (g1.trans (Gr.newO g1.lv hn)) n1 n2 upd_same xs.rev⟩
theorem ev_lenSet {xs : List Int} (ha : EvB K ta ρ (xs.map .int)) (hn : xs.Nodup) (hl : xs.length ≤ 4000) : EvD K (RZ.tLenSetI K ta) ρ (.int (xs.length : Nat)) := fun B Hs H σ r Q q =>
  ha B Hs H σ r _ fun Hs1 H1 p vs g1 hp x => by
    have x9 := RepL.ints x; subst x9
    exact ⟨p, xs, rfl, hp, hn, hl, q _ _ _ g1 (.int _)⟩
theorem idxOf_lt_ne {y : Int} : ∀ {xs : List Int} {m : Nat} {z : Int}, m < xs.idxOf y → xs[m]? = some z → (z == y) = false
  | [], m, z, h, e => by cases e
  | x :: xs, m, z, h, e => by
    rw [List.idxOf_cons] at h
    cases hb : (x == y) with
    | true => rw [hb] at h; exact absurd h (Nat.not_lt_zero _)
    | false =>
      rw [hb] at h
      cases m with
      | zero => cases e; exact hb
      | succ m => exact idxOf_lt_ne (Nat.lt_of_succ_lt_succ h) e
theorem ev_index {xs : List Int} {y : Int} (hb : EvB K tb ρ (xs.map .int)) (hy : EvD K te ρ (.int y)) (hm : y ∈ xs) : EvD K (tBM K "list" (rIndex K) tb (tCons te tNil)) ρ (.int (xs.idxOf y : Nat)) := fun B Hs H σ r Q q =>
  hb B Hs H σ r _ fun Hs1 H1 p vs g1 hp x => by
    refine ⟨.inl ⟨rfl, _, hp⟩, hy B Hs1 H1 σ (r.grow g1) _ fun Hs2 H2 w g2 yw => ?_⟩
    cases yw
    have x9 := RepL.ints x; subst x9
    have hp2 := g2.fr.sl hp
    have hi : xs.idxOf y < xs.length := List.idxOf_lt_length_of_mem hm
    refine ⟨p, xs.map V.int, .int y, xs.idxOf y, .int y, rfl, rfl, hp2, rfl, by simp [flatV], ?_, by simp [eqV], ?_, q _ _ _ (g1.trans g2) (.int _)⟩
    · rw [List.getElem?_map, List.getElem?_eq_getElem hi, List.getElem_idxOf hi]
      rfl
    · intro m z' hlt hz
      rw [List.getElem?_map] at hz
      obtain ⟨z, hz2, rfl⟩ := Option.map_eq_some_iff.mp hz
      exact idxOf_lt_ne hlt hz2
/-- a.append(b.pop(k)) -/
theorem xs_appPop {i j : Nat} {k : Int} {n : Nat} (hij : i ≠ j) (hx : ρ[i]? = some (some (.ol ds))) (hy : ρ[j]? = some (some (.ol es))) (hk : EvD K ti ρ (.int k)) (hb : -(2 ^ 63) ≤ k ∧ k < 2 ^ 63) (hn : seqIndex? k es.length = some n) (he : es[n]? = some d) (hz : ds.length < 100000)
    (q : R.nx ((ρ.set j (some (.ol (es.eraseIdx n)))).set i (some (.ol (ds ++ [d]))))) :
    ExS K (tDrop (tBM K "list" rAppend (tVar i) (tCons (tBM K "list" rPopAt (tVar j) (tCons ti tNil)) tNil))) ρ R := fun B Hs H σ Dn r l => by
  obtain ⟨p, vs, e, hp, x, _⟩ := r.mutL i hx
  obtain ⟨p2, vs2, e2, hp2, x2, _⟩ := r.mutL j hy
  refine ⟨.ref p, e, .inl ⟨rfl, _, .of hp⟩, .ref p2, e2, .inl ⟨rfl, _, .of hp2⟩, hk B Hs H σ r _ fun Hs1 H1 w g y => ?_⟩
  cases y
  obtain ⟨p3, vs3, e3, hp3, x3, m3⟩ := (r.grow g).mutL j hy
  rw [e2] at e3
  cases e3
  obtain ⟨u, hu, xu⟩ := x3.at he
  refine ⟨p2, vs3, k, n, u, rfl, rfl, hp3, hb.1, hb.2, by rw [x3.length]; exact hn, hu, ?_⟩
  have r2 := m3 _ (es.eraseIdx n) (x3.erase n)
  obtain ⟨p4, vs4, e4, hp4, x4, m4⟩ := r2.mutL i (by rw [List.getElem?_set_ne (Ne.symm hij)]; exact hx)
  rw [e] at e4
  cases e4
  refine ⟨p, vs4, u, rfl, rfl, hp4, by rw [x4.length]; exact sz_lt hz, ?_⟩
  exact l.nx _ _ _ _ (m4 _ _ (x4.append (.cons xu .nil))) q
end
end DL

local macro_rules | `(tactic| walk_at "dl side") => `(tactic| first
  | assumption
  | decide
  | omega
  | exact DL.divW_c (by omega) (by omega)
  | exact DL.atI_int (by omega) (by omega)
  | exact DL.atI2 (by omega) (by omega)
  | exact DL.atI3 (by omega) (by omega)
  | exact DL.atI4 (by omega) (by omega)
  | exact L2.atI_nat rfl
  | exact L2.atI_last _ _
  | exact DL.mulW_l (by omega) (by omega)
  | exact DL.mulW_r (by omega) (by omega)
  | exact DL.mulW_l (by decide) (by decide)
  | exact DL.mulW_r (by decide) (by decide)
  | exact ⟨by decide, by decide, by decide⟩
  | (refine ⟨?_, ?_⟩ <;> omega)
  | (refine ⟨?_, ?_, ?_⟩ <;> omega)
  | (refine ⟨?_, ?_, ?_, ?_⟩ <;> omega)
  | exact trivial
  | decide +kernel
  | exact Nat.le_of_ble_eq_true rfl
  | rfl)
local macro_rules | `(tactic| walk_at "dl ev") => `(tactic| first
  | assumption
  | with_reducible exact DL.ev_ci
  | with_reducible exact DL.ev_cs
  | with_reducible exact DL.ev_cb
  | with_reducible exact DL.ev_cn
  | with_reducible exact DL.ev_cf
  | with_reducible exact DL.ev_ct
  | ((with_reducible apply DL.ev_var); rfl)
  | ((with_reducible apply DL.em_var); rfl)
  | with_reducible exact DL.ea_nil
  | ((with_reducible apply DL.ea_cons) <;> walk_at "dl ev")
  | ((with_reducible apply DL.ev_addI) <;> walk_at "dl ev")
  | ((with_reducible apply DL.ev_I) <;> walk_at "dl ev")
  | ((with_reducible apply DL.ev_Ib) <;> walk_at "dl ev")
  | ((with_reducible apply DL.ev_mulI) <;> walk_at "dl ev")
  | ((with_reducible apply DL.ev_IC) <;> walk_at "dl ev")
  | ((with_reducible apply DL.ev_U) <;> walk_at "dl ev")
  | ((with_reducible apply DL.ev_eqI) <;> walk_at "dl ev")
  | ((with_reducible apply DL.ev_neI) <;> walk_at "dl ev")
  | ((with_reducible apply DL.ev_eqL) <;> walk_at "dl ev")
  | ((with_reducible apply DL.ev_neL) <;> walk_at "dl ev")
  | ((with_reducible apply DL.ev_eqS) <;> walk_at "dl ev")
  | ((with_reducible apply DL.ev_neS) <;> walk_at "dl ev")
  | ((with_reducible apply DL.ev_eqB) <;> walk_at "dl ev")
  | ((with_reducible apply DL.ev_neB) <;> walk_at "dl ev")
  | ((with_reducible apply DL.et_t) <;> walk_at "dl ev")
  | ((with_reducible apply DL.et_B) <;> walk_at "dl ev")
  | ((with_reducible apply DL.et_not) <;> walk_at "dl ev")
  | ((with_reducible apply DL.ev_not) <;> walk_at "dl ev")
  | ((with_reducible apply DL.et_and') <;> walk_at "dl ev")
  | ((with_reducible apply DL.et_or') <;> walk_at "dl ev")
  | ((with_reducible apply DL.ev_and') <;> walk_at "dl ev")
  | ((with_reducible apply DL.ev_or') <;> walk_at "dl ev")
  | with_reducible exact DL.et_yes
  | ((with_reducible apply DL.ev_chain) <;> walk_at "dl ev")
  | ((with_reducible apply DL.ev_lenMT) <;> walk_at "dl ev")
  | ((with_reducible apply DL.ev_lenM) <;> walk_at "dl ev")
  | ((with_reducible apply DL.ev_lenS1) <;> walk_at "dl ev")
  | ((with_reducible apply DL.ev_lenTA) <;> walk_at "dl ev")
  | ((with_reducible apply DL.ev_lenLA) <;> walk_at "dl ev")
  | ((with_reducible apply DL.ev_tup) <;> walk_at "dl ev")
  | ((with_reducible apply DL.ef_lst) <;> walk_at "dl ev")
  | ((with_reducible apply DL.ef_listR2) <;> walk_at "dl ev")
  | ((with_reducible apply DL.ef_listR1) <;> walk_at "dl ev")
  | ((with_reducible apply DL.ev_ixt) <;> walk_at "dl ev")
  | ((with_reducible apply DL.ev_ixl) <;> walk_at "dl ev")
  | ((with_reducible apply DL.ef_slL) <;> walk_at "dl ev")
  | ((with_reducible apply DL.ef_addL) <;> walk_at "dl ev")
  | ((with_reducible apply DL.ef_mulL) <;> walk_at "dl ev")
  | ((with_reducible apply DL.ef_listT) <;> walk_at "dl ev")
  | ((with_reducible apply DL.ef_listL) <;> walk_at "dl ev")
  | ((with_reducible apply DL.ev_tupleT) <;> walk_at "dl ev")
  | ((with_reducible apply DL.ev_tupleL) <;> walk_at "dl ev")
  | ((with_reducible apply DL.ev_intI) <;> walk_at "dl ev")
  | ((with_reducible apply DL.ev_intB) <;> walk_at "dl ev")
  | ((with_reducible apply DL.ev_divmod) <;> walk_at "dl ev")
  | ((with_reducible apply DL.ev_slT) <;> walk_at "dl ev")
  | ((with_reducible apply DL.ev_addT) <;> walk_at "dl ev")
  | ((with_reducible apply DL.ef_rev) <;> walk_at "dl ev")
  | ((with_reducible apply DL.ev_inI) <;> walk_at "dl ev")
  | ((with_reducible apply DL.ev_notInI) <;> walk_at "dl ev")
  | ((with_reducible apply DL.ev_abs) <;> walk_at "dl ev")
  | ((with_reducible apply DL.ev_max2) <;> walk_at "dl ev")
  | ((with_reducible apply DL.ev_min2) <;> walk_at "dl ev")
  | ((with_reducible apply DL.isi_int_int) <;> walk_at "dl ev")
  | ((with_reducible apply DL.isi_int_bool) <;> walk_at "dl ev")
  | ((with_reducible apply DL.isi_bool_bool) <;> walk_at "dl ev")
  | ((with_reducible apply DL.isi_bool_int) <;> walk_at "dl ev")
  | ((with_reducible apply DL.isi_lst_list) <;> walk_at "dl ev")
  | ((with_reducible apply DL.isi_tup_tuple) <;> walk_at "dl ev")
  | ((with_reducible apply DL.isi_lst_tuple) <;> walk_at "dl ev")
  | ((with_reducible apply DL.isi_str_str) <;> walk_at "dl ev")
  | with_reducible exact DL.eo_none
  | ((with_reducible apply DL.eo_some) <;> walk_at "dl ev")
  | ((with_reducible apply DL.ei_r1) <;> walk_at "dl ev")
  | ((with_reducible apply DL.ei_r2) <;> walk_at "dl ev")
  | ((with_reducible apply DL.ei_seqT) <;> walk_at "dl ev")
  | ((with_reducible apply DL.ei_seqL) <;> walk_at "dl ev")
  | ((with_reducible apply DL.ei_seqS) <;> walk_at "dl ev")
  | ((with_reducible apply DL.ei_enumL) <;> walk_at "dl ev")
  | walk_at "dl own"
  | ((with_reducible apply DL.EvF.v) <;> walk_at "dl ev")
  | ((with_reducible apply DL.EvM.b) <;> walk_at "dl ev")
  | ((with_reducible apply DL.EvF.m) <;> walk_at "dl ev")
  | ((with_reducible apply DL.EvD.m) <;> walk_at "dl ev")
  | ((with_reducible apply DL.EvD.s) <;> walk_at "dl ev")
  | ((with_reducible apply DL.EvD.r) <;> walk_at "dl ev")
  | ((with_reducible apply DL.EvM.r) <;> walk_at "dl ev")
  | (fail_if_success (with_reducible show DL.EvD _ _ _ _)
     fail_if_success (with_reducible show DL.EvF _ _ _ _)
     fail_if_success (with_reducible show DL.EvB _ _ _ _)
     fail_if_success (with_reducible show DL.EvM _ _ _ _)
     fail_if_success (with_reducible show DL.EvR _ _ _ _)
     fail_if_success (with_reducible show DL.EvT _ _ _ _)
     fail_if_success (with_reducible show DL.EvA _ _ _ _)
     fail_if_success (with_reducible show DL.EvO _ _ _ _)
     fail_if_success (with_reducible show DL.EvI _ _ _ _)
     first | walk_at "dl side" | skip))
local macro_rules | `(tactic| walk_at "dl own") => `(tactic| fail)
local macro_rules | `(tactic| walk_at "dl go") => `(tactic| first
  | ((with_reducible refine DL.xs_seq ?_); walk_at "dl go")
  | ((with_reducible refine DL.xs_next ?_); (try dsimp only); walk_at "dl go")
  | ((with_reducible refine DL.xs_brk ?_); (try dsimp only); walk_at "dl go")
  | ((with_reducible refine DL.xs_cont ?_); (try dsimp only); walk_at "dl go")
  | ((with_reducible apply DL.xs_asg); (· walk_at "dl ev"); (· exact DL.eg_name); (try dsimp only); walk_at "dl go")
  | ((with_reducible apply DL.xs_asgF); (· walk_at "dl ev"); (try dsimp only); walk_at "dl go")
  | ((with_reducible apply DL.xs_aug); (· exact rfl); (· walk_at "dl ev"); (try dsimp only); walk_at "dl go")
  | ((with_reducible apply DL.xs_ret); (· walk_at "dl ev"); (try dsimp only))
  | ((with_reducible apply DL.xs_if); (· walk_at "dl ev"))
  | skip)

namespace Lw
open PySem L2 DL
def topS (i : Nat) : Stmt := PySem.Challenge.pw_oneroom_k32_whole_rings.main.body.getD i (.Pass ⟨0, 0, 0, 0⟩)
abbrev s__law_meets : Stmt := (topS 19)
abbrev s__law_left : Stmt := (topS 20)
abbrev s_Take_size : Stmt := (inClass (topS 11) 1)
abbrev s_Put_size : Stmt := (inClass (topS 12) 1)
abbrev s_Row_writes : Stmt := (inClass (topS 10) 5)
abbrev s_Take_writes : Stmt := (inClass (topS 11) 4)
abbrev s_Take_reads : Stmt := (inClass (topS 11) 3)
abbrev s_Row_reads : Stmt := (inClass (topS 10) 4)
abbrev s_spoils : Stmt := (topS 2)
abbrev s_ring_of : Stmt := (topS 3)
abbrev s__law_draw : Stmt := (topS 17)
abbrev s__law_row : Stmt := (topS 18)
abbrev s_is_number : Stmt := (topS 8)
abbrev s_is_take : Stmt := (topS 13)
abbrev s_is_sign : Stmt := (topS 9)
abbrev s_is_put : Stmt := (topS 14)
abbrev s_Row___init__ : Stmt := (inClass (topS 10) 0)
abbrev s_Take___init__ : Stmt := (inClass (topS 11) 0)
abbrev s_Put___init__ : Stmt := (inClass (topS 12) 0)
abbrev s_row_of : Stmt := (topS 15)
abbrev s__law_late : Stmt := (topS 22)
abbrev s__law_shuffled : Stmt := (topS 21)
abbrev s_law : Stmt := (topS 23)
theorem sc__law_meets : FnScope ["_law_row_here", "_law_other", "_law_end"] ["_law_row_here", "_law_other"] (defScope s__law_meets) := ⟨rfl, rfl, rfl, by decide +kernel, rfl, by decide +kernel, by decide +kernel⟩
theorem sc__law_left : FnScope ["_law_rows", "_law_dropped", "_law_left_here", "_law_turn", "_law_kept", "_law_k", "_law_one"] ["_law_rows", "_law_dropped"] (defScope s__law_left) := ⟨rfl, rfl, rfl, by decide +kernel, rfl, by decide +kernel, by decide +kernel⟩
theorem sc_Take_size : FnScope ["self"] ["self"] (defScope s_Take_size) := ⟨rfl, rfl, rfl, by decide +kernel, rfl, by decide +kernel, by decide +kernel⟩
theorem sc_Put_size : FnScope ["self"] ["self"] (defScope s_Put_size) := ⟨rfl, rfl, rfl, by decide +kernel, rfl, by decide +kernel, by decide +kernel⟩
theorem sc_Row_writes : FnScope ["self"] ["self"] (defScope s_Row_writes) := ⟨rfl, rfl, rfl, by decide +kernel, rfl, by decide +kernel, by decide +kernel⟩
theorem sc_Take_writes : FnScope ["self"] ["self"] (defScope s_Take_writes) := ⟨rfl, rfl, rfl, by decide +kernel, rfl, by decide +kernel, by decide +kernel⟩
theorem sc_Take_reads : FnScope ["self"] ["self"] (defScope s_Take_reads) := ⟨rfl, rfl, rfl, by decide +kernel, rfl, by decide +kernel, by decide +kernel⟩
theorem sc_Row_reads : FnScope ["self"] ["self"] (defScope s_Row_reads) := ⟨rfl, rfl, rfl, by decide +kernel, rfl, by decide +kernel, by decide +kernel⟩
theorem sc_spoils : FnScope ["rows", "found", "number", "row", "wrote", "cell", "spoilt", "k"] ["rows"] (defScope s_spoils) := ⟨rfl, rfl, rfl, by decide +kernel, rfl, by decide +kernel, by decide +kernel⟩
theorem sc_ring_of : FnScope ["rows", "left", "table", "way", "reader", "k"] ["rows", "left"] (defScope s_ring_of) := ⟨rfl, rfl, rfl, by decide +kernel, rfl, by decide +kernel, by decide +kernel⟩
theorem sc__law_draw : FnScope ["_law_cell", "_law_k", "_law_number"] ["_law_cell", "_law_k"] (defScope s__law_draw) := ⟨rfl, rfl, rfl, by decide +kernel, rfl, by decide +kernel, by decide +kernel⟩
theorem sc__law_row : FnScope ["_law_cell", "_law_k", "_law_draw_here", "_law_to", "_law_count"] ["_law_cell", "_law_k"] (defScope s__law_row) := ⟨rfl, rfl, rfl, by decide +kernel, rfl, by decide +kernel, by decide +kernel⟩
theorem sc_is_number : FnScope ["thing"] ["thing"] (defScope s_is_number) := ⟨rfl, rfl, rfl, by decide +kernel, rfl, by decide +kernel, by decide +kernel⟩
theorem sc_is_take : FnScope ["told", "part"] ["told"] (defScope s_is_take) := ⟨rfl, rfl, rfl, by decide +kernel, rfl, by decide +kernel, by decide +kernel⟩
theorem sc_is_sign : FnScope ["thing"] ["thing"] (defScope s_is_sign) := ⟨rfl, rfl, rfl, by decide +kernel, rfl, by decide +kernel, by decide +kernel⟩
theorem sc_is_put : FnScope ["told", "sign"] ["told"] (defScope s_is_put) := ⟨rfl, rfl, rfl, by decide +kernel, rfl, by decide +kernel, by decide +kernel⟩
theorem sc_Row___init__ : FnScope ["self", "to"] ["self", "to"] (defScope s_Row___init__) := ⟨rfl, rfl, rfl, by decide +kernel, rfl, by decide +kernel, by decide +kernel⟩
theorem sc_Take___init__ : FnScope ["self", "to", "start", "count"] ["self", "to", "start", "count"] (defScope s_Take___init__) := ⟨rfl, rfl, rfl, by decide +kernel, rfl, by decide +kernel, by decide +kernel⟩
theorem sc_Put___init__ : FnScope ["self", "to", "signs"] ["self", "to", "signs"] (defScope s_Put___init__) := ⟨rfl, rfl, rfl, by decide +kernel, rfl, by decide +kernel, by decide +kernel⟩
theorem sc_row_of : FnScope ["told"] ["told"] (defScope s_row_of) := ⟨rfl, rfl, rfl, by decide +kernel, rfl, by decide +kernel, by decide +kernel⟩
theorem sc__law_late : FnScope ["_law_row_here", "_law_rows", "_law_k", "_law_one"] ["_law_row_here", "_law_rows"] (defScope s__law_late) := ⟨rfl, rfl, rfl, by decide +kernel, rfl, by decide +kernel, by decide +kernel⟩
theorem sc__law_shuffled : FnScope ["_law_ring", "_law_cell", "_law_row_here", "_law_told", "_law_k", "_law_many"] ["_law_ring", "_law_cell"] (defScope s__law_shuffled) := ⟨rfl, rfl, rfl, by decide +kernel, rfl, by decide +kernel, by decide +kernel⟩
theorem sc_law : FnScope ["_law_script", "_law_rows", "_law_left_here", "_law_some", "_law_handed", "_law_ring", "_law_k", "_law_kept", "_law_row_here"] ["_law_script"] (defScope s_law) := ⟨rfl, rfl, rfl, by decide +kernel, rfl, by decide +kernel, by decide +kernel⟩
/-- what the top has written -/
structure Tx (K : PySem.W.Frag) (mg : Str → Option Value) where
  a__law_meets : Addr
  d__law_meets : FuncData
  F__law_meets : Fun K "_law_meets" "_law_meets" s__law_meets a__law_meets d__law_meets
  b__law_meets : Binds K d__law_meets ["_law_row_here", "_law_other"] []
  g__law_meets : mg "_law_meets" = some (.ref a__law_meets)
  a__law_left : Addr
  d__law_left : FuncData
  F__law_left : Fun K "_law_left" "_law_left" s__law_left a__law_left d__law_left
  b__law_left : Binds K d__law_left ["_law_rows", "_law_dropped"] []
  g__law_left : mg "_law_left" = some (.ref a__law_left)
  a_Take_size : Addr
  d_Take_size : FuncData
  F_Take_size : Fun K "size" "Take.size" s_Take_size a_Take_size d_Take_size
  b_Take_size : Binds K d_Take_size ["self"] []
  a_Put_size : Addr
  d_Put_size : FuncData
  F_Put_size : Fun K "size" "Put.size" s_Put_size a_Put_size d_Put_size
  b_Put_size : Binds K d_Put_size ["self"] []
  a_Row_writes : Addr
  d_Row_writes : FuncData
  F_Row_writes : Fun K "writes" "Row.writes" s_Row_writes a_Row_writes d_Row_writes
  b_Row_writes : Binds K d_Row_writes ["self"] []
  a_Take_writes : Addr
  d_Take_writes : FuncData
  F_Take_writes : Fun K "writes" "Take.writes" s_Take_writes a_Take_writes d_Take_writes
  b_Take_writes : Binds K d_Take_writes ["self"] []
  a_Take_reads : Addr
  d_Take_reads : FuncData
  F_Take_reads : Fun K "reads" "Take.reads" s_Take_reads a_Take_reads d_Take_reads
  b_Take_reads : Binds K d_Take_reads ["self"] []
  a_Row_reads : Addr
  d_Row_reads : FuncData
  F_Row_reads : Fun K "reads" "Row.reads" s_Row_reads a_Row_reads d_Row_reads
  b_Row_reads : Binds K d_Row_reads ["self"] []
  a_spoils : Addr
  d_spoils : FuncData
  F_spoils : Fun K "spoils" "spoils" s_spoils a_spoils d_spoils
  b_spoils : Binds K d_spoils ["rows"] []
  g_spoils : mg "spoils" = some (.ref a_spoils)
  a_ring_of : Addr
  d_ring_of : FuncData
  F_ring_of : Fun K "ring_of" "ring_of" s_ring_of a_ring_of d_ring_of
  b_ring_of : Binds K d_ring_of ["rows", "left"] []
  g_ring_of : mg "ring_of" = some (.ref a_ring_of)
  a__law_draw : Addr
  d__law_draw : FuncData
  F__law_draw : Fun K "_law_draw" "_law_draw" s__law_draw a__law_draw d__law_draw
  b__law_draw : Binds K d__law_draw ["_law_cell", "_law_k"] []
  g__law_draw : mg "_law_draw" = some (.ref a__law_draw)
  a__law_row : Addr
  d__law_row : FuncData
  F__law_row : Fun K "_law_row" "_law_row" s__law_row a__law_row d__law_row
  b__law_row : Binds K d__law_row ["_law_cell", "_law_k"] []
  g__law_row : mg "_law_row" = some (.ref a__law_row)
  a_is_number : Addr
  d_is_number : FuncData
  F_is_number : Fun K "is_number" "is_number" s_is_number a_is_number d_is_number
  b_is_number : Binds K d_is_number ["thing"] []
  g_is_number : mg "is_number" = some (.ref a_is_number)
  a_is_take : Addr
  d_is_take : FuncData
  F_is_take : Fun K "is_take" "is_take" s_is_take a_is_take d_is_take
  b_is_take : Binds K d_is_take ["told"] []
  g_is_take : mg "is_take" = some (.ref a_is_take)
  a_is_sign : Addr
  d_is_sign : FuncData
  F_is_sign : Fun K "is_sign" "is_sign" s_is_sign a_is_sign d_is_sign
  b_is_sign : Binds K d_is_sign ["thing"] []
  g_is_sign : mg "is_sign" = some (.ref a_is_sign)
  a_is_put : Addr
  d_is_put : FuncData
  F_is_put : Fun K "is_put" "is_put" s_is_put a_is_put d_is_put
  b_is_put : Binds K d_is_put ["told"] []
  g_is_put : mg "is_put" = some (.ref a_is_put)
  a_Row___init__ : Addr
  d_Row___init__ : FuncData
  F_Row___init__ : Fun K "__init__" "Row.__init__" s_Row___init__ a_Row___init__ d_Row___init__
  b_Row___init__ : Binds K d_Row___init__ ["self", "to"] []
  a_Take___init__ : Addr
  d_Take___init__ : FuncData
  F_Take___init__ : Fun K "__init__" "Take.__init__" s_Take___init__ a_Take___init__ d_Take___init__
  b_Take___init__ : Binds K d_Take___init__ ["self", "to", "start", "count"] []
  a_Put___init__ : Addr
  d_Put___init__ : FuncData
  F_Put___init__ : Fun K "__init__" "Put.__init__" s_Put___init__ a_Put___init__ d_Put___init__
  b_Put___init__ : Binds K d_Put___init__ ["self", "to", "signs"] []
  a_row_of : Addr
  d_row_of : FuncData
  F_row_of : Fun K "row_of" "row_of" s_row_of a_row_of d_row_of
  b_row_of : Binds K d_row_of ["told"] []
  g_row_of : mg "row_of" = some (.ref a_row_of)
  a__law_late : Addr
  d__law_late : FuncData
  F__law_late : Fun K "_law_late" "_law_late" s__law_late a__law_late d__law_late
  b__law_late : Binds K d__law_late ["_law_row_here", "_law_rows"] []
  g__law_late : mg "_law_late" = some (.ref a__law_late)
  a__law_shuffled : Addr
  d__law_shuffled : FuncData
  F__law_shuffled : Fun K "_law_shuffled" "_law_shuffled" s__law_shuffled a__law_shuffled d__law_shuffled
  b__law_shuffled : Binds K d__law_shuffled ["_law_ring", "_law_cell"] []
  g__law_shuffled : mg "_law_shuffled" = some (.ref a__law_shuffled)
  a_law : Addr
  d_law : FuncData
  F_law : Fun K "law" "law" s_law a_law d_law
  b_law : Binds K d_law ["_law_script"] []
  g_law : mg "law" = some (.ref a_law)
  C_Row : Addr
  C_Take : Addr
  C_Put : Addr
  g_Row : mg "Row" = some (.ref C_Row)
  g_Take : mg "Take" = some (.ref C_Take)
  g_Put : mg "Put" = some (.ref C_Put)
  cl_Take : Cls K C_Take
  mk_Take : Mk K C_Take a_Take___init__
  n_Take_to : NoAttr K C_Take "to"
  n_Take_source : NoAttr K C_Take "source"
  n_Take_amount : NoAttr K C_Take "amount"
  cl_Put : Cls K C_Put
  mk_Put : Mk K C_Put a_Put___init__
  n_Put_to : NoAttr K C_Put "to"
  n_Put_signs : NoAttr K C_Put "signs"
  m_Put_reads : Meth K C_Put "reads" a_Row_reads
  m_Put_size : Meth K C_Put "size" a_Put_size
  m_Put_writes : Meth K C_Put "writes" a_Row_writes
  m_Take_reads : Meth K C_Take "reads" a_Take_reads
  m_Take_size : Meth K C_Take "size" a_Take_size
  m_Take_writes : Meth K C_Take "writes" a_Take_writes
  cf_Row___init__ : CFn K C_Row "__init__" a_Row___init__
  cf_Row_writes : CFn K C_Row "writes" a_Row_writes
  z_abs : mg "abs" = none
  z_all : mg "all" = none
  z_bool : mg "bool" = none
  z_enumerate : mg "enumerate" = none
  z_int : mg "int" = none
  z_isinstance : mg "isinstance" = none
  z_len : mg "len" = none
  z_list : mg "list" = none
  z_range : mg "range" = none
  z_reversed : mg "reversed" = none
  z_set : mg "set" = none
  z_sum : mg "sum" = none
  z_tuple : mg "tuple" = none
/-! ### what many laws draw with -/
def mixed (c k : Int) : Int := (((c % 2147483647 + 7919 * k + 1) * 48271 % 2147483647) * (((c % 2147483647 + 7919 * k + 1) * 48271 % 2147483647) / 1009 + 69621)) % 2147483647
theorem mixed_b (c k : Int) : 0 ≤ mixed c k ∧ mixed c k < 2147483647 := by unfold mixed; omega
def cellAt (ns : List Int) (k : Int) : Int := if k < (ns.length : Int) then ns.getD k.toNat 0 else 0
section
variable {K : PySem.W.Frag} {mg : Str → Option Value} (T : Tx K mg)
abbrev sp__law_mixed {K : PySem.W.Frag} {mg : Str → Option Value} (T : Tx K mg) : Sp := spG K (fun x : Int × Int => 0 ≤ x.2 ∧ x.2 ≤ 1000000) (fun x => [.int x.1, .int x.2]) (fun x => .int (mixed x.1 x.2))
abbrev sp__law_cell_at {K : PySem.W.Frag} {mg : Str → Option Value} (T : Tx K mg) : Sp := spG K (fun x : List Int × Int => 0 ≤ x.2) (fun x => [.scr (x.1.map .int), .int x.2]) (fun x => .int (cellAt x.1 x.2))
abbrev spEnd (K : PySem.W.Frag) : Sp := spR K (fun ns : List Int => ns.length ≤ 63) (fun ns => [.scr (ns.map .int)]) (fun _ d => d = .bl true)
abbrev sp_law {K : PySem.W.Frag} {mg : Str → Option Value} (T : Tx K mg) : Sp := spEnd K
end
theorem law_sp {K : PySem.W.Frag} {mg : Str → Option Value} (T : Tx K mg) {vs : List V} {H : Hp} {Q : VK} {E : XK} (h : spEnd K vs H Q E) : sp_law T vs H Q E := h
section
variable {K : PySem.W.Frag} {mg : Str → Option Value} {T : Tx K mg} {ρ : DL.Env} {ta tb : TE} {c k : Int} {ns : List Int} {E : XK}
end
local macro_rules | `(tactic| walk_at "dl own") => `(tactic| first
  | fail)
section
variable {P : Program} {w : World} {K : PySem.W.Frag} {mg : Str → Option Value} {base : Heap}
end
theorem law_in {K : PySem.W.Frag} (H : Hp) (a : Addr) (ns : List Int) (hl : ns.length ≤ 63) (hS : SqL K H a (ns.map V.int)) : spEnd K [.ref a] H (fun v _ => v = .bl true) fun _ _ _ => False :=
  ⟨H, ns, DL.Ex.refl H, .cons (.scr hS (RepL.ofInts ns)) .nil, hl, fun _ _ v d _ r e => by
    subst e
    cases r
    rfl⟩

/-! ### rows: the mathematics -/
inductive Rw where
  | take (to src n : Int)
  | put (to : Int) (ss : List Int)
deriving DecidableEq
namespace Rw
def to : Rw → Int | .take t _ _ => t | .put t _ => t
def size : Rw → Int | .take _ _ n => n | .put _ ss => (ss.length : Int)
def isTake : Rw → Bool | .take _ _ _ => true | .put _ _ => false
def stay : Rw → Bool | .take t s _ => decide (s = t) | .put _ _ => false
def writes (r : Rw) : List Int := if r.stay then [] else span r.to r.size
def reads : Rw → List Int | .take t s n => if s = t then [] else span s n | .put _ _ => []
def needs : Rw → Int | .take _ s n => s + n | .put _ _ => 0
def cost : Rw → Int | .take _ _ _ => 4 | .put _ ss => 2 + (ss.length : Int)
theorem writes_le (r : Rw) : r.writes.length ≤ r.size.toNat := by
  unfold writes
  split
  · exact Nat.zero_le _
  · rw [span_length]; exact Nat.le_refl _
theorem reads_take (t s n : Int) : (take t s n).reads = if s = t then [] else span s n := rfl
theorem reads_le (r : Rw) : r.reads.length ≤ r.size.toNat := by
  cases r with
  | take t s n =>
    rw [reads_take]
    split
    · exact Nat.zero_le _
    · rw [span_length]; exact Nat.le_refl _
  | put t ss => exact Nat.zero_le _
end Rw

/-! ### rows: objects and promises -/
def Rw.ob {K : PySem.W.Frag} {mg : Str → Option Value} (T : Tx K mg) : Rw → D
  | .take t s n => .obj T.C_Take ["to", "source", "amount"] [.int t, .int s, .int n]
  | .put t ss => .obj T.C_Put ["to", "signs"] [.int t, .tup (ss.map .int)]
/-- a row's told tuple -/
def Rw.tl : Rw → D
  | .take t s n => .tup [.str "take", .int t, .int s, .int n]
  | .put t ss => .tup [.str "put", .int t, .tup (ss.map .int)]
section
variable {K : PySem.W.Frag} {mg : Str → Option Value} (T : Tx K mg)
abbrev sp_Row___init__ {K : PySem.W.Frag} {mg : Str → Option Value} (T : Tx K mg) : Sp := fun vs H Q _ => ∃ (p C dx : Addr) (v : V), vs = [.ref p, v] ∧ H p = some (.ins C dx []) ∧ Cls K C ∧ NoAttr K C "to" ∧ Q .non (upd H p (.ins C dx [("to", v)]))
abbrev sp_Take___init__ {K : PySem.W.Frag} {mg : Str → Option Value} (T : Tx K mg) : Sp := spMk T.C_Take 3 (fun ws => (["to", "source", "amount"] : List Str).zip ws) (fun _ _ _ => True) K
abbrev sp_Put___init__ {K : PySem.W.Frag} {mg : Str → Option Value} (T : Tx K mg) : Sp := spMk T.C_Put 2 (fun ws => (["to", "signs"] : List Str).zip ws) (fun K ws H => ∃ a s xs, ws = [a, .ref s] ∧ H s = some (.tup xs)) K
abbrev sp_Row_covers {K : PySem.W.Frag} {mg : Str → Option Value} (T : Tx K mg) : Sp := spG K (fun _ : Rw => True) (fun r => [r.ob T]) (fun r => .tup [.int r.to, .int (r.to + r.size)])
abbrev sp_Take_size {K : PySem.W.Frag} {mg : Str → Option Value} (T : Tx K mg) : Sp := spG K (fun r : Rw => r.isTake = true) (fun r => [r.ob T]) (fun r => .int r.size)
abbrev sp_Put_size {K : PySem.W.Frag} {mg : Str → Option Value} (T : Tx K mg) : Sp := spG K (fun r : Rw => r.isTake = false) (fun r => [r.ob T]) (fun r => .int r.size)
abbrev sp_Row_writes {K : PySem.W.Frag} {mg : Str → Option Value} (T : Tx K mg) : Sp := spF K (fun r : Rw => r.size ≤ 100000) (fun r => [r.ob T]) (fun r => (span r.to r.size).map .int)
abbrev sp_Take_writes {K : PySem.W.Frag} {mg : Str → Option Value} (T : Tx K mg) : Sp := spF K (fun r : Rw => r.isTake = true ∧ r.size ≤ 100000) (fun r => [r.ob T]) (fun r => r.writes.map .int)
abbrev sp_Row_reads {K : PySem.W.Frag} {mg : Str → Option Value} (T : Tx K mg) : Sp := spF K (fun r : Rw => r.isTake = false) (fun r => [r.ob T]) (fun r => r.reads.map .int)
abbrev sp_Take_reads {K : PySem.W.Frag} {mg : Str → Option Value} (T : Tx K mg) : Sp := spF K (fun r : Rw => r.isTake = true ∧ r.size ≤ 100000) (fun r => [r.ob T]) (fun r => r.reads.map .int)
abbrev sp_Row_needs {K : PySem.W.Frag} {mg : Str → Option Value} (T : Tx K mg) : Sp := spG K (fun r : Rw => r.isTake = false) (fun r => [r.ob T]) (fun r => .int r.needs)
abbrev sp_Take_needs {K : PySem.W.Frag} {mg : Str → Option Value} (T : Tx K mg) : Sp := spG K (fun r : Rw => r.isTake = true) (fun r => [r.ob T]) (fun r => .int r.needs)
abbrev sp_Take_cost {K : PySem.W.Frag} {mg : Str → Option Value} (T : Tx K mg) : Sp := spG K (fun r : Rw => r.isTake = true) (fun r => [r.ob T]) (fun r => .int r.cost)
abbrev sp_Put_cost {K : PySem.W.Frag} {mg : Str → Option Value} (T : Tx K mg) : Sp := spG K (fun r : Rw => r.isTake = false) (fun r => [r.ob T]) (fun r => .int r.cost)
abbrev sp_Take_told {K : PySem.W.Frag} {mg : Str → Option Value} (T : Tx K mg) : Sp := spG K (fun r : Rw => r.isTake = true) (fun r => [r.ob T]) (fun r => r.tl)
abbrev sp_Put_told {K : PySem.W.Frag} {mg : Str → Option Value} (T : Tx K mg) : Sp := spG K (fun r : Rw => r.isTake = false) (fun r => [r.ob T]) (fun r => r.tl)
end
section
variable {K : PySem.W.Frag} {mg : Str → Option Value} {T : Tx K mg} {ρ : DL.Env} {ta tb tc : TE} {r : Rw} {E : XK} {a b c : Int} {ss : List Int}
theorem ev_mkTake (ha : EvD K ta ρ (.int a)) (hb : EvD K tb ρ (.int b)) (hc : EvD K tc ρ (.int c)) : EvD K (tMake T.C_Take (sp_Take___init__ T) [] E (tCons ta (tCons tb (tCons tc tNil)))) ρ ((Rw.take a b c).ob T) :=
  ev_make (ea_cons ha (ea_cons hb (ea_cons hc ea_nil))) rfl (fun _ _ _ _ _ => trivial) fun _ ws h => ⟨ws, rfl, h⟩
theorem ev_mkPut (ha : EvD K ta ρ (.int a)) (hb : EvD K tb ρ (.tup (ss.map .int))) : EvD K (tMake T.C_Put (sp_Put___init__ T) [] E (tCons ta (tCons tb tNil))) ρ ((Rw.put a ss).ob T) :=
  ev_make (ea_cons ha (ea_cons hb ea_nil)) rfl (fun Hs H ws h e => by
    cases h with
    | cons h1 h2 => cases h2 with
      | cons h3 h4 => cases h4; cases h3 with
        | tup hs _ => exact ⟨_, _, _, rfl, e _ _ hs⟩) fun _ ws h => ⟨ws, rfl, h⟩
theorem ev_to (h : EvD K ta ρ (r.ob T)) : EvD K (tFld K ta "to") ρ (.int r.to) := by
  cases r with
  | take t s n => exact ev_fld h T.cl_Take T.n_Take_to rfl
  | put t ss => exact ev_fld h T.cl_Put T.n_Put_to rfl
theorem ev_size (h : EvD K ta ρ (r.ob T)) : EvD K (tMethD [(T.C_Take, sp_Take_size T), (T.C_Put, sp_Put_size T)] "size" E ta tNil) ρ (.int r.size) := by
  cases r with
  | take t s n => exact ev_methD (x := Rw.take t s n) h ea_nil (.head _) rfl rfl rfl
  | put t ss => exact ev_methD (x := Rw.put t ss) h ea_nil (.tail _ (.head _)) rfl rfl rfl
theorem ef_writes (h : EvD K ta ρ (r.ob T)) (hs : r.size ≤ 100000) : EvF K (tMethD [(T.C_Take, sp_Take_writes T), (T.C_Put, sp_Row_writes T)] "writes" E ta tNil) ρ (r.writes.map .int) := by
  cases r with
  | take t s n => exact ef_methD (x := Rw.take t s n) h ea_nil (.head _) rfl rfl ⟨rfl, hs⟩
  | put t ss => exact ef_methD (x := Rw.put t ss) h ea_nil (.tail _ (.head _)) rfl rfl hs
theorem ef_reads (h : EvD K ta ρ (r.ob T)) (hs : r.size ≤ 100000) : EvF K (tMethD [(T.C_Take, sp_Take_reads T), (T.C_Put, sp_Row_reads T)] "reads" E ta tNil) ρ (r.reads.map .int) := by
  cases r with
  | take t s n => exact ef_methD (x := Rw.take t s n) h ea_nil (.head _) rfl rfl ⟨rfl, hs⟩
  | put t ss => exact ef_methD (x := Rw.put t ss) h ea_nil (.tail _ (.head _)) rfl rfl rfl
end
local macro_rules | `(tactic| walk_at "dl own") => `(tactic| first
  | ((with_reducible apply Lw.ev_to) <;> walk_at "dl ev")
  | ((with_reducible apply Lw.ev_mkTake) <;> walk_at "dl ev")
  | ((with_reducible apply Lw.ev_mkPut) <;> walk_at "dl ev")
  | ((with_reducible apply Lw.ev_size) <;> walk_at "dl ev")
  | ((with_reducible apply Lw.ef_writes) <;> walk_at "dl ev")
  | ((with_reducible apply Lw.ef_reads) <;> walk_at "dl ev")
  | fail)
section
variable {P : Program} {w : World} {K : PySem.W.Frag} {mg : Str → Option Value} {base : Heap}
theorem ok_Row___init__ (T : Tx K mg) : FnOk P w K mg base CX0 1 T.a_Row___init__ T.d_Row___init__ ["self", "to"] (sp_Row___init__ T) := by
  refine T.F_Row___init__.ok sc_Row___init__ (fun vs H Q E h => ?_) (fun cdv A outer s H vs Q E hr h => ⟨_,
      (pss_one (sfldK (K := K) rfl (pv 0) (pv 1) rfl)), ?_⟩)
  · obtain ⟨p, C, dx, v, rfl, _⟩ := h
    rfl
  · obtain ⟨p, C, dx, v, rfl, hp, hc, hn, q⟩ := h
    exact ⟨v, rfl, .ref p, rfl, p, C, dx, [], rfl, hp, hc, hn, by decide, q⟩
theorem ok_Take___init__ (T : Tx K mg) : FnOk P w K mg base CX0 3 T.a_Take___init__ T.d_Take___init__ ["self", "to", "start", "count"] (sp_Take___init__ T) := by
  refine T.F_Take___init__.ok sc_Take___init__ (fun vs H Q E h => ?_) (fun cdv A outer s H vs Q E hr h => ⟨_,
      (pss_cons (ps_expr (pe_ccall (pe_glob (by rfl) T.g_Row rfl) T.cf_Row___init__ (ok_Row___init__ T) (hr.mono (by decide)) T.F_Row___init__.kp T.b_Row___init__ .nil pass0 (pa_cons (pv 0) (pa_cons (pv 1) pa_nil))))
      (pss_cons (sfldK (K := K) rfl (pv 0) (pv 2) rfl)
      (pss_one (sfldK (K := K) rfl (pv 0) (pv 3) rfl)))), ?_⟩)
  · obtain ⟨p, dx, ws, rfl, hl, _⟩ := h
    simp [hl]
  · obtain ⟨p, dx, ws, rfl, hl, hp, _, q⟩ := h
    match ws, hl with
    | [a, b, c], _ =>
      refine ⟨.ref p, rfl, a, rfl, p, T.C_Take, dx, a, rfl, hp, T.cl_Take, T.n_Take_to, ?_⟩
      refine ⟨b, rfl, .ref p, rfl, p, T.C_Take, dx, _, rfl, upd_same, T.cl_Take, T.n_Take_source, (show (1 : Nat) < 1000 by decide), ?_⟩
      refine ⟨c, rfl, .ref p, rfl, p, T.C_Take, dx, _, rfl, upd_same, T.cl_Take, T.n_Take_amount, (show (2 : Nat) < 1000 by decide), ?_⟩
      rw [upd_upd, upd_upd]
      exact q
theorem ok_Put___init__ (T : Tx K mg) : FnOk P w K mg base CX0 3 T.a_Put___init__ T.d_Put___init__ ["self", "to", "signs"] (sp_Put___init__ T) := by
  refine T.F_Put___init__.ok sc_Put___init__ (fun vs H Q E h => ?_) (fun cdv A outer s H vs Q E hr h => ⟨_,
      (pss_cons (ps_expr (pe_ccall (pe_glob (by rfl) T.g_Row rfl) T.cf_Row___init__ (ok_Row___init__ T) (hr.mono (by decide)) T.F_Row___init__.kp T.b_Row___init__ .nil pass0 (pa_cons (pv 0) (pa_cons (pv 1) pa_nil))))
      (pss_one (sfldK (K := K) rfl (pv 0) (pe_callTy (tupleK (K := K) rfl) (by rfl) T.z_tuple (by decide +kernel) (pa_cons (pv 2) pa_nil)) rfl))), ?_⟩)
  · obtain ⟨p, dx, ws, rfl, hl, _⟩ := h
    simp [hl]
  · obtain ⟨p, dx, ws, rfl, hl, hp, ⟨a, s, xs, rfl, hs⟩, q⟩ := h
    refine ⟨.ref p, rfl, a, rfl, p, T.C_Put, dx, a, rfl, hp, T.cl_Put, T.n_Put_to, ?_⟩
    refine ⟨.ref s, rfl, s, xs, rfl, .inr ⟨.of (by rw [upd_ne (fun z => by rw [z, hp] at hs; cases hs)]; exact hs), .ref p, rfl, p, T.C_Put, dx, _, rfl, upd_same, T.cl_Put, T.n_Put_signs, (show (1 : Nat) < 1000 by decide), ?_⟩⟩
    rw [upd_upd]
    exact q
theorem ok_Take_size (T : Tx K mg) : FnOk P w K mg base CX0 1 T.a_Take_size T.d_Take_size ["self"] (sp_Take_size T) := by
  refine fn_r T.F_Take_size sc_Take_size (fun _ => rfl) (fun cdv A outer s H E hr =>
      (pss_one (ps_ret (fldK (K := K) rfl (pv 0) rfl)))) (fun x hx => ?_)
  cases x with
  | put t ss => cases hx
  | take t s n => exact xs_ret (ev_fld (ev_var rfl) T.cl_Take T.n_Take_amount rfl) rfl
theorem ok_Put_size (T : Tx K mg) : FnOk P w K mg base CX0 1 T.a_Put_size T.d_Put_size ["self"] (sp_Put_size T) := by
  refine fn_r T.F_Put_size sc_Put_size (fun _ => rfl) (fun cdv A outer s H E hr =>
      (pss_one (ps_ret (pe_callB (lenK (K := K) rfl) (by rfl) T.z_len (by decide +kernel) (pa_cons (fldK (K := K) rfl (pv 0) rfl) pa_nil))))) (fun x hx => ?_)
  cases x with
  | take t s n => cases hx
  | put t ss => exact xs_ret (d := .int (Rw.put t ss).size) ((ev_lenTA (ev_fld (ev_var rfl) T.cl_Put T.n_Put_signs rfl)).is (by rw [List.length_map]; rfl)) rfl
theorem ok_Row_writes (T : Tx K mg) : FnOk P w K mg base CX0 2 T.a_Row_writes T.d_Row_writes ["self"] (sp_Row_writes T) := by
  refine fn_f T.F_Row_writes sc_Row_writes (fun _ => rfl) (fun cdv A outer s H E hr =>
      (pss_one (ps_ret (pe_listR rfl (by rfl) T.z_list (prg_2 (by rfl) T.z_range (fldK (K := K) rfl (pv 0) rfl) (pe_op (addK (K := K) rfl) (fldK (K := K) rfl (pv 0) rfl) (pe_methD0 (pv 0) (.cons (by decide) T.cl_Take T.m_Take_size (ok_Take_size T) T.b_Take_size (.cons (by decide) T.cl_Put T.m_Put_size (ok_Put_size T) T.b_Put_size .nil)) hr pass0))))))) (fun x hx => ?_)
  refine xs_retF (EvF.is (ef_listR2 (b := x.to + x.size) (by walk_at "dl ev") (by walk_at "dl ev") ?_) (rng_to _ _ _ rfl)) rfl
  have : x.to + x.size - x.to = x.size := by omega
  rw [this]
  omega
theorem ok_Take_writes (T : Tx K mg) : FnOk P w K mg base CX0 3 T.a_Take_writes T.d_Take_writes ["self"] (sp_Take_writes T) := by
  refine fn_f T.F_Take_writes sc_Take_writes (fun _ => rfl) (fun cdv A outer s H E hr =>
      (pss_cons (ps_if (pt_cmpR (eqK (K := K) rfl hr.units) (fldK (K := K) rfl (pv 0) rfl) (fldK (K := K) rfl (pv 0) rfl) (nomark _)) (pss_one (ps_ret (pe_lst pa_nil))) pss_nil)
      (pss_one (ps_ret (pe_ccall (pe_glob (by rfl) T.g_Row rfl) T.cf_Row_writes (ok_Row_writes T) hr T.F_Row_writes.kp T.b_Row_writes .nil pass0 (pa_cons (pv 0) pa_nil)))))) (fun x hx => ?_)
  obtain ⟨h1, h2⟩ := hx
  cases x with
  | put t ss => cases h1
  | take t s n =>
    have hsrc : EvD K (tFld K (tVar 0) "source") (entry ["self"] [(Rw.take t s n).ob T]) (.int s) := ev_fld (ev_var rfl) T.cl_Take T.n_Take_source rfl
    refine xs_seq (xs_if (et_t (ev_eqI hsrc (ev_to (r := Rw.take t s n) (ev_var rfl)))) (fun h => ?_) (fun h => xs_next ?_))
    · refine xs_retF (ef_lst ea_nil (by decide)) ?_
      unfold Rw.writes
      rw [if_pos (show (Rw.take t s n).stay = true from h)]
      rfl
    · refine xs_retF (ef_call (x := Rw.take t s n) (ea_cons (ev_var rfl) ea_nil) h2) ?_
      unfold Rw.writes
      rw [if_neg (by rw [show (Rw.take t s n).stay = false from h]; decide)]
theorem ok_Row_reads (T : Tx K mg) : FnOk P w K mg base CX0 1 T.a_Row_reads T.d_Row_reads ["self"] (sp_Row_reads T) := by
  refine fn_f T.F_Row_reads sc_Row_reads (fun _ => rfl) (fun cdv A outer s H E hr =>
      (pss_one (ps_ret (pe_lst pa_nil)))) (fun x hx => ?_)
  cases x with
  | take t s n => cases hx
  | put t ss => exact xs_retF (ef_lst ea_nil (by decide)) rfl
theorem ok_Take_reads (T : Tx K mg) : FnOk P w K mg base CX0 1 T.a_Take_reads T.d_Take_reads ["self"] (sp_Take_reads T) := by
  refine fn_f T.F_Take_reads sc_Take_reads (fun _ => rfl) (fun cdv A outer s H E hr =>
      (pss_cons (ps_if (pt_cmpR (eqK (K := K) rfl hr.units) (fldK (K := K) rfl (pv 0) rfl) (fldK (K := K) rfl (pv 0) rfl) (nomark _)) (pss_one (ps_ret (pe_lst pa_nil))) pss_nil)
      (pss_one (ps_ret (pe_listR rfl (by rfl) T.z_list (prg_2 (by rfl) T.z_range (fldK (K := K) rfl (pv 0) rfl) (pe_op (addK (K := K) rfl) (fldK (K := K) rfl (pv 0) rfl) (fldK (K := K) rfl (pv 0) rfl)))))))) (fun x hx => ?_)
  obtain ⟨h1, h2⟩ := hx
  cases x with
  | put t ss => cases h1
  | take t s n =>
    have hsrc : EvD K (tFld K (tVar 0) "source") (entry ["self"] [(Rw.take t s n).ob T]) (.int s) := ev_fld (ev_var rfl) T.cl_Take T.n_Take_source rfl
    have ham : EvD K (tFld K (tVar 0) "amount") (entry ["self"] [(Rw.take t s n).ob T]) (.int n) := ev_fld (ev_var rfl) T.cl_Take T.n_Take_amount rfl
    refine xs_seq (xs_if (et_t (ev_eqI hsrc (ev_to (r := Rw.take t s n) (ev_var rfl)))) (fun h => ?_) (fun h => xs_next ?_))
    · refine xs_retF (ef_lst ea_nil (by decide)) ?_
      show [] = List.map D.int (Rw.reads (.take t s n))
      rw [Rw.reads_take, if_pos (show s = t from of_decide_eq_true h)]
      rfl
    · refine xs_retF (EvF.is (ef_listR2 hsrc (ev_addI hsrc ham) ?_) (rng_to _ _ _ rfl)) ?_
      · have : s + n - s = n := by omega
        rw [this]
        have h3 : n ≤ 100000 := h2
        omega
      · show _ = List.map D.int (Rw.reads (.take t s n))
        rw [Rw.reads_take, if_neg (show ¬s = t from of_decide_eq_false h)]
end

/-! ### row_of of rows that are rows -/
def Rw.good : Rw → Prop
  | .take t s n => 0 ≤ t ∧ 0 ≤ s ∧ 0 < n
  | .put t ss => 0 ≤ t ∧ ss ≠ [] ∧ (∀ x ∈ ss, -(10 ^ 60) < x ∧ x < 10 ^ 60) ∧ ss.length ≤ 50000
def isSign (i : Int) : Bool := decide ((if i < 0 then -i else i) < 10 ^ 60)
abbrev sp_is_number {K : PySem.W.Frag} {mg : Str → Option Value} (T : Tx K mg) : Sp := spG K (fun _ : Int => True) (fun i => [.int i]) (fun _ => .bl true)
abbrev sp_is_sign {K : PySem.W.Frag} {mg : Str → Option Value} (T : Tx K mg) : Sp := spG K (fun _ : Int => True) (fun i => [.int i]) (fun i => .bl (isSign i))
abbrev sp_is_take {K : PySem.W.Frag} {mg : Str → Option Value} (T : Tx K mg) : Sp := spG K (fun r : Rw => r.good) (fun r => [r.tl]) (fun r => .bl r.isTake)
abbrev sp_is_put {K : PySem.W.Frag} {mg : Str → Option Value} (T : Tx K mg) : Sp := spG K (fun r : Rw => r.good ∧ r.isTake = false) (fun r => [r.tl]) (fun _ => .bl true)
abbrev sp_row_of {K : PySem.W.Frag} {mg : Str → Option Value} (T : Tx K mg) : Sp := spG K (fun r : Rw => r.good) (fun r => [r.tl]) (fun r => r.ob T)
section
variable {K : PySem.W.Frag} {mg : Str → Option Value} {T : Tx K mg} {ρ : DL.Env} {ta : TE} {i : Int} {r : Rw} {E : XK}
theorem ev_is_number (ha : EvD K ta ρ (.int i)) : EvD K (tCall (sp_is_number T) [] E (tCons ta tNil)) ρ (.bl true) := ev_call i (ea_cons ha ea_nil) trivial
theorem ev_is_sign (ha : EvD K ta ρ (.int i)) : EvD K (tCall (sp_is_sign T) [] E (tCons ta tNil)) ρ (.bl (isSign i)) := ev_call i (ea_cons ha ea_nil) trivial
theorem ev_row_of (ha : EvD K ta ρ r.tl) (h : r.good) : EvD K (tCall (sp_row_of T) [] E (tCons ta tNil)) ρ (r.ob T) := ev_call r (ea_cons ha ea_nil) h
theorem Rw.tl_tup (r : Rw) : ∃ ds, r.tl = .tup ds := by cases r <;> exact ⟨_, rfl⟩
end
local macro_rules | `(tactic| walk_at "dl own") => `(tactic| first
  | ((with_reducible apply Lw.ev_is_number) <;> walk_at "dl ev")
  | ((with_reducible apply Lw.ev_is_sign) <;> walk_at "dl ev")
  | ((with_reducible apply Lw.ev_row_of) <;> walk_at "dl ev"))
section
variable {P : Program} {w : World} {K : PySem.W.Frag} {mg : Str → Option Value} {base : Heap}
theorem ok_is_number (T : Tx K mg) : FnOk P w K mg base CX0 1 T.a_is_number T.d_is_number ["thing"] (sp_is_number T) := by
  refine fn_r T.F_is_number sc_is_number (fun _ => rfl) (fun cdv A outer s H E hr =>
      (pss_one (ps_ret (pe_and (pe_callB (isiK (K := K) rfl) (by rfl) T.z_isinstance (by decide +kernel) (pa_cons (pv 0) (pa_cons (pe_bltn (v := .ty "int") (by rfl) T.z_int (by decide +kernel) rfl) pa_nil))) (pe_one (pe_not (pe_callB (isiK (K := K) rfl) (by rfl) T.z_isinstance (by decide +kernel) (pa_cons (pv 0) (pa_cons (pe_bltn (v := .ty "bool") (by rfl) T.z_bool (by decide +kernel) rfl) pa_nil))))))))) (fun x hx => ?_)
  refine xs_ret ((ev_and' (by walk_at "dl ev") (by walk_at "dl ev")).is rfl) rfl
theorem ok_is_sign (T : Tx K mg) : FnOk P w K mg base CX0 2 T.a_is_sign T.d_is_sign ["thing"] (sp_is_sign T) := by
  refine fn_r T.F_is_sign sc_is_sign (fun _ => rfl) (fun cdv A outer s H E hr =>
      (pss_one (ps_ret (pe_and (pe_call (ok_is_number T) hr (by rfl) T.g_is_number T.F_is_number.kp T.b_is_number .nil pass0 (pa_cons (pv 0) pa_nil)) (pe_one (pe_cmpR op_lt (pe_callB call_abs (by rfl) T.z_abs (by decide +kernel) (pa_cons (pv 0) pa_nil)) (pe_op op_pow pe_int pe_int) (nomark _))))))) (fun x hx => ?_)
  refine xs_ret (ev_and' (by walk_at "dl ev") (by walk_at "dl ev")) ?_
  unfold isSign
  rfl
theorem ok_is_take (T : Tx K mg) : FnOk P w K mg base CX0 2 T.a_is_take T.d_is_take ["told"] (sp_is_take T) := by
  refine fn_r T.F_is_take sc_is_take (fun _ => rfl) (fun cdv A outer s H E hr =>
      (pss_cons (ps_if (PW.pt (pw_or (pt_cmpR (neK (K := K) rfl hr.units) (pe_callB (lenK (K := K) rfl) (by rfl) T.z_len (by decide +kernel) (pa_cons (pv 0) pa_nil)) pe_int (nomark _)) (pw_or (pt_cmpR (neK (K := K) rfl hr.units) (pe_ix (ixK (K := K) rfl) (pv 0) pe_int (fun _ _ => rfl)) pe_str (nomark _)) (pw_or1 (pt_not (pt_val (pe_callB (allK (K := K) rfl rfl) (by rfl) T.z_all (by decide +kernel) (pa_cons (pe_lc (own := [("part", 1)]) rfl sc_is_take.nd (seqK (K := K) rfl (pe_slice (slK (K := K) rfl) (pv 0) (po_some pe_int) po_none)) (blkOk_by (N := ["told", "part"]) (sc := defScope s_is_take) (by decide +kernel)) (fun _ _ _ _ _ => (pg_name (i := 1) sc_is_take.nd rfl (by first | exact Or.inl rfl | exact Or.inr rfl))) (fun _ _ _ _ _ => pts_nil) (fun _ _ _ _ _ => (pe_call (ok_is_number T) hr (by rfl) T.g_is_number T.F_is_number.kp T.b_is_number .nil pass0 (pa_cons (pv 1) pa_nil)))) pa_nil)))))))) (pss_one (ps_ret pe_bl)) pss_nil)
      (pss_one (ps_ret (pe_and (pe_cmpR op_ge (pe_ix (ixK (K := K) rfl) (pv 0) pe_int (fun _ _ => rfl)) pe_int (nomark _)) (pe_and (pe_cmpR op_ge (pe_ix (ixK (K := K) rfl) (pv 0) pe_int (fun _ _ => rfl)) pe_int (nomark _)) (pe_one (pe_cmpR op_gt (pe_ix (ixK (K := K) rfl) (pv 0) pe_int (fun _ _ => rfl)) pe_int (nomark _))))))))) (fun x hx => ?_)
  cases x with
  | take t s n =>
    obtain ⟨h1, h2, h3⟩ := hx
    have e4 : EvD K (tSl (rSlA' K) (tVar 0) (tPart (tC (.int 1))) tNoPart) (entry ["told", "part"] [(Rw.take t s n).tl]) (.tup ([t, s, n].map D.int)) := (ev_slT (ev_var rfl) (eo_some ev_ci) eo_none).is rfl
    refine xs_seq (xs_no (et_orF (et_t ((ev_neI (ev_lenTA (ds := [.str "take", .int t, .int s, .int n]) (ev_var rfl)) ev_ci).is rfl)) (et_orF (et_t ((ev_neS (x := "take") (y := "take") (ev_ixt (ds := [.str "take", .int t, .int s, .int n]) (ev_var rfl) ev_ci (atI_nat rfl)) ev_cs (by decide +kernel) (by decide +kernel)).is (by simp))) (et_not (et_t (ev_all (bs := [true, true, true]) (EvF.b (EvF.is (ef_lc0 [t, s, n] D.int (fun _ => .bl true) rfl (ei_seqT e4) (Nat.le_of_ble_eq_true rfl) (fun k y _ => ⟨_, egc_name (by decide), by walk_at "dl ev"⟩)) rfl))))))) rfl ?_)
    refine xs_ret (ev_and' (ev_Ib (i := t) (ev_ixt (ds := [.str "take", .int t, .int s, .int n]) (ev_var rfl) ev_ci (atI_nat rfl)) ev_ci) (ev_and' (ev_Ib (i := s) (ev_ixt (ds := [.str "take", .int t, .int s, .int n]) (ev_var rfl) ev_ci (atI_nat rfl)) ev_ci) (ev_Ib (i := n) (ev_ixt (ds := [.str "take", .int t, .int s, .int n]) (ev_var rfl) ev_ci (atI_nat rfl)) ev_ci))) ?_
    simp [h1, h2, h3, Rw.isTake]
  | put t ss =>
    refine xs_seq (xs_yes (et_orT (et_t ((ev_neI (ev_lenTA (ds := [.str "put", .int t, .tup (ss.map .int)]) (ev_var rfl)) ev_ci).is rfl))) rfl ?_)
    exact xs_ret ev_cb rfl
theorem ok_is_put (T : Tx K mg) : FnOk P w K mg base CX0 3 T.a_is_put T.d_is_put ["told"] (sp_is_put T) := by
  refine fn_r T.F_is_put sc_is_put (fun _ => rfl) (fun cdv A outer s H E hr =>
      (pss_cons (ps_if (PW.pt (pw_or (pt_cmpR (neK (K := K) rfl hr.units) (pe_callB (lenK (K := K) rfl) (by rfl) T.z_len (by decide +kernel) (pa_cons (pv 0) pa_nil)) pe_int (nomark _)) (pw_or (pt_cmpR (neK (K := K) rfl hr.units) (pe_ix (ixK (K := K) rfl) (pv 0) pe_int (fun _ _ => rfl)) pe_str (nomark _)) (pw_or (pt_not (pt_val (pe_call (ok_is_number T) (hr.mono (by decide)) (by rfl) T.g_is_number T.F_is_number.kp T.b_is_number .nil pass0 (pa_cons (pe_ix (ixK (K := K) rfl) (pv 0) pe_int (fun _ _ => rfl)) pa_nil)))) (pw_or1 (pt_cmpR op_lt (pe_ix (ixK (K := K) rfl) (pv 0) pe_int (fun _ _ => rfl)) pe_int (nomark _))))))) (pss_one (ps_ret pe_bl)) pss_nil)
      (pss_one (ps_ret (pe_and (pe_callB (isiK (K := K) rfl) (by rfl) T.z_isinstance (by decide +kernel) (pa_cons (pe_ix (ixK (K := K) rfl) (pv 0) pe_int (fun _ _ => rfl)) (pa_cons (pe_bltn (v := .ty "tuple") (by rfl) T.z_tuple (by decide +kernel) rfl) pa_nil))) (pe_and (pe_cmpR (neK (K := K) rfl hr.units) (pe_ix (ixK (K := K) rfl) (pv 0) pe_int (fun _ _ => rfl)) (pe_tup pa_nil) (nomark _)) (pe_one (pe_callB (allK (K := K) rfl rfl) (by rfl) T.z_all (by decide +kernel) (pa_cons (pe_lc (own := [("sign", 1)]) rfl sc_is_put.nd (seqK (K := K) rfl (pe_ix (ixK (K := K) rfl) (pv 0) pe_int (fun _ _ => rfl))) (blkOk_by (N := ["told", "sign"]) (sc := defScope s_is_put) (by decide +kernel)) (fun _ _ _ _ _ => (pg_name (i := 1) sc_is_put.nd rfl (by first | exact Or.inl rfl | exact Or.inr rfl))) (fun _ _ _ _ _ => pts_nil) (fun _ _ _ _ _ => (pe_call (ok_is_sign T) hr (by rfl) T.g_is_sign T.F_is_sign.kp T.b_is_sign .nil pass0 (pa_cons (pv 1) pa_nil)))) pa_nil))))))))) (fun x hx => ?_)
  cases x with
  | take t s n => cases hx.2
  | put t ss =>
    obtain ⟨⟨h1, h2, h3, h4⟩, _⟩ := hx
    refine xs_seq (xs_no (et_orF (et_t ((ev_neI (ev_lenTA (ds := [.str "put", .int t, .tup (ss.map .int)]) (ev_var rfl)) ev_ci).is rfl)) (et_orF (et_t ((ev_neS (x := "put") (y := "put") (ev_ixt (ds := [.str "put", .int t, .tup (ss.map .int)]) (ev_var rfl) ev_ci (atI_nat rfl)) ev_cs (by decide +kernel) (by decide +kernel)).is (by simp)))
      (et_orF (et_not (et_t (ev_is_number (i := t) (ev_ixt (ds := [.str "put", .int t, .tup (ss.map .int)]) (ev_var rfl) ev_ci (atI_nat rfl))))) (et_t (ev_Ib (i := t) (ev_ixt (ds := [.str "put", .int t, .tup (ss.map .int)]) (ev_var rfl) ev_ci (atI_nat rfl)) ev_ci))))) (decide_eq_false (by omega)) ?_)
    have e2 : EvD K (tOp (rIx K) (tVar 0) (tC (.int 2))) (entry ["told", "sign"] [(Rw.put t ss).tl]) (.tup (ss.map D.int)) := ev_ixt (ds := [.str "put", .int t, .tup (ss.map .int)]) (ev_var rfl) ev_ci (atI_nat rfl)
    have e3 : EvD K (tOp (rIx K) (tVar 0) (tC (.int 2))) (wD (entry ["told", "sign"] [(Rw.put t ss).tl]) [1]) (.tup (ss.map D.int)) := ev_ixt (ds := [.str "put", .int t, .tup (ss.map .int)]) (ev_var rfl) ev_ci (atI_nat rfl)
    refine xs_ret (ev_and' (isi_tup_tuple e2.r) (ev_and' (ev_neNT e2.r (ev_tup ea_nil (by decide)).r (cod_int.tps.fit (by decide) ss)) (ev_all (bs := ss.map isSign) (EvF.b (EvF.is (ef_lc0 ss D.int (fun y => .bl (isSign y)) rfl (ei_seqT e2) h4 (fun k y _ => ⟨_, egc_name (by decide), by walk_at "dl ev"⟩)) (by rw [List.map_map]; rfl)))))) ?_
    have h5 : (ss.map D.int).isEmpty = false := by cases ss with | nil => exact absurd rfl h2 | cons _ _ => rfl
    have h6 : (ss.map isSign).all id = true := by
      rw [List.all_map, List.all_eq_true]
      intro y hy
      have := h3 y hy
      show isSign y = true
      unfold isSign
      apply decide_eq_true
      split <;> omega
    rw [h5, h6]
    rfl
theorem ok_row_of (T : Tx K mg) : FnOk P w K mg base CX0 5 T.a_row_of T.d_row_of ["told"] (sp_row_of T) := by
  refine fn_r T.F_row_of sc_row_of (fun _ => rfl) (fun cdv A outer s H E hr =>
      (pss_cons (ps_if (pt_val (pe_callB (isiK (K := K) rfl) (by rfl) T.z_isinstance (by decide +kernel) (pa_cons (pv 0) (pa_cons (pe_bltn (v := .ty "tuple") (by rfl) T.z_tuple (by decide +kernel) rfl) pa_nil)))) (pss_cons (ps_if (pt_val (pe_call (ok_is_take T) (hr.mono (by decide)) (by rfl) T.g_is_take T.F_is_take.kp T.b_is_take .nil pass0 (pa_cons (pv 0) pa_nil))) (pss_one (ps_ret (pe_make T.mk_Take (ok_Take___init__ T) hr (by rfl) T.g_Take T.b_Take___init__ .nil pass0 (pa_cons (pe_ix (ixK (K := K) rfl) (pv 0) pe_int (fun _ _ => rfl)) (pa_cons (pe_ix (ixK (K := K) rfl) (pv 0) pe_int (fun _ _ => rfl)) (pa_cons (pe_ix (ixK (K := K) rfl) (pv 0) pe_int (fun _ _ => rfl)) pa_nil)))))) pss_nil)
      (pss_one (ps_if (pt_val (pe_call (ok_is_put T) (hr.mono (by decide)) (by rfl) T.g_is_put T.F_is_put.kp T.b_is_put .nil pass0 (pa_cons (pv 0) pa_nil))) (pss_one (ps_ret (pe_make T.mk_Put (ok_Put___init__ T) hr (by rfl) T.g_Put T.b_Put___init__ .nil pass0 (pa_cons (pe_ix (ixK (K := K) rfl) (pv 0) pe_int (fun _ _ => rfl)) (pa_cons (pe_ix (ixK (K := K) rfl) (pv 0) pe_int (fun _ _ => rfl)) pa_nil))))) pss_nil))) pss_nil)
      (pss_one (ps_never)))) (fun x hx => ?_)
  obtain ⟨ds, hd⟩ := x.tl_tup
  refine xs_seq (xs_yes (b := true) (et_t (isi_tup_tuple (ds := ds) (EvD.r (EvD.is (ev_var rfl) hd)))) rfl ?_)
  have ht : EvD K (tVar 0) (entry ["told"] [x.tl]) x.tl := ev_var rfl
  cases x with
  | take t s n =>
    refine xs_seq (xs_yes (et_t (ev_call (Rw.take t s n) (ea_cons ht ea_nil) hx)) rfl ?_)
    exact xs_ret (ev_mkTake (T := T) (a := t) (b := s) (c := n) (ev_ixt (ds := [.str "take", .int t, .int s, .int n]) (ev_var rfl) ev_ci (atI_nat rfl)) (ev_ixt (ds := [.str "take", .int t, .int s, .int n]) (ev_var rfl) ev_ci (atI_nat rfl)) (ev_ixt (ds := [.str "take", .int t, .int s, .int n]) (ev_var rfl) ev_ci (atI_nat rfl))) rfl
  | put t ss =>
    refine xs_seq (xs_no (et_t (ev_call (Rw.put t ss) (ea_cons ht ea_nil) hx)) rfl ?_)
    refine xs_yes (et_t (ev_call (Rw.put t ss) (ea_cons ht ea_nil) ⟨hx, rfl⟩)) rfl ?_
    exact xs_ret (ev_mkPut (T := T) (a := t) (ss := ss) (ev_ixt (ds := [.str "put", .int t, .tup (ss.map .int)]) (ev_var rfl) ev_ci (atI_nat rfl)) (ev_ixt (ds := [.str "put", .int t, .tup (ss.map .int)]) (ev_var rfl) ev_ci (atI_nat rfl))) rfl
end

instance : Inhabited Rw := ⟨.take 0 0 0⟩
/-! ### spoils -/
def hits (a b : Rw) : Bool := !(b.reads.filter fun c => decide (c ∈ a.writes)).isEmpty
def spoilt (rs : List Rw) (n : Nat) : List Int := (span 0 (rs.length : Int)).filter fun k => decide (k ≠ (n : Int)) && hits (rs.getD n default) (rs.getD k.toNat default)
def spoilsOf (rs : List Rw) : List (List Int) := (List.range rs.length).map fun n => spoilt rs n
theorem spoilsOf_len (rs : List Rw) : (spoilsOf rs).length = rs.length := by unfold spoilsOf; rw [List.length_map, List.length_range]
theorem spoilsOf_get {rs : List Rw} {n : Nat} (h : n < rs.length) : (spoilsOf rs)[n]? = some (spoilt rs n) := by
  unfold spoilsOf
  rw [List.getElem?_map, List.getElem?_eq_getElem (by rw [List.length_range]; exact h), List.getElem_range]
  rfl
theorem spoilt_len (rs : List Rw) (n : Nat) : (spoilt rs n).length ≤ rs.length := by
  have := List.length_filter_le (fun k => decide (k ≠ (n : Int)) && hits (rs.getD n default) (rs.getD k.toNat default)) (span 0 (rs.length : Int))
  rw [span_length] at this
  exact this
def llI (xs : List (List Int)) : List (List D) := xs.map fun x => x.map D.int
abbrev sp_spoils {K : PySem.W.Frag} {mg : Str → Option Value} (T : Tx K mg) : Sp := spN K (fun rs : List Rw => (∀ r ∈ rs, r.size ≤ 1000) ∧ rs.length ≤ 1000) (fun rs => [.lst (rs.map (Rw.ob T))]) (fun rs => llO (llI (spoilsOf rs)))
section
variable {P : Program} {w : World} {K : PySem.W.Frag} {mg : Str → Option Value} {base : Heap}
set_option maxHeartbeats 20000000 in
theorem ok_spoils (T : Tx K mg) : FnOk P w K mg base CX0 4 T.a_spoils T.d_spoils ["rows"] (sp_spoils T) := by
  refine fn_n T.F_spoils sc_spoils (fun _ => rfl) (fun cdv A outer s H E hr =>
      (pss_cons (ps_set (i := 1) sc_spoils.nd rfl (by first | exact Or.inl rfl | exact Or.inr rfl) (pe_lst pa_nil))
      (pss_cons (ps_for PassesOwn.never rfl (enumAK (K := K) rfl (by rfl) T.z_enumerate (pa_cons (pv 0) pa_nil)) (gtupK (n := 2) (K := K) rfl rfl (pgs_cons (pg_name (i := 2) sc_spoils.nd rfl (by first | exact Or.inl rfl | exact Or.inr rfl)) (pgs_cons (pg_name (i := 3) sc_spoils.nd rfl (by first | exact Or.inl rfl | exact Or.inr rfl)) pgs_nil))) (pss_cons (ps_set (i := 4) sc_spoils.nd rfl (by first | exact Or.inl rfl | exact Or.inr rfl) pe_dnewK)
      (pss_cons (ps_for PassesOwn.never rfl (seqK (K := K) rfl (pe_methD0 (pv 3) (.cons (by decide) T.cl_Take T.m_Take_writes (ok_Take_writes T) T.b_Take_writes (.cons (by decide) T.cl_Put T.m_Put_writes (ok_Row_writes T) T.b_Row_writes .nil)) hr pass0)) (pg_name (i := 5) sc_spoils.nd rfl (by first | exact Or.inl rfl | exact Or.inr rfl)) (pss_one (ps_asg pe_bl (pg_sub (pv 4) (pv 5) (set_A (hu_of hr))))))
      (pss_cons (ps_set (i := 6) sc_spoils.nd rfl (by first | exact Or.inl rfl | exact Or.inr rfl) (pe_lst pa_nil))
      (pss_cons (ps_for PassesOwn.never rfl (pi_range1 (by rfl) T.z_range (pa_cons (pe_callB (lenK (K := K) rfl) (by rfl) T.z_len (by decide +kernel) (pa_cons (pv 0) pa_nil)) pa_nil)) (pg_name (i := 7) sc_spoils.nd rfl (by first | exact Or.inl rfl | exact Or.inr rfl)) (pss_one (ps_if (PW.pt (pw_and (pt_cmpR (neK (K := K) rfl hr.units) (pv 7) (pv 2) (nomark _)) (pw_and1 (pt_cmpR (neK (K := K) rfl hr.units) (pe_lc (own := [("cell", 5)]) rfl sc_spoils.nd (seqK (K := K) rfl (pe_methD0 (pe_ix (ixK (K := K) rfl) (pv 0) (pv 7) (fun _ _ => rfl)) (.cons (by decide) T.cl_Take T.m_Take_reads (ok_Take_reads T) T.b_Take_reads (.cons (by decide) T.cl_Put T.m_Put_reads (ok_Row_reads T) T.b_Row_reads .nil)) hr pass0)) (blkOk_by (N := ["rows", "found", "number", "row", "wrote", "cell", "spoilt", "k"]) (sc := defScope s_spoils) (by decide +kernel)) (fun _ _ _ _ _ => (pg_name (i := 5) sc_spoils.nd rfl (by first | exact Or.inl rfl | exact Or.inr rfl))) (fun _ _ _ _ _ => pts_one (pt_cmpR (inK (K := K) rfl (hu65 hr)) (pv 5) (pv 4) rfl)) (fun _ _ _ _ _ => (pv 5))) (pe_lst pa_nil) (nomark _))))) (pss_one (ps_expr (bmK (K := K) rfl PySem.F.plainAttrs_list PySem.F.slot_list_append PySem.F.type_list_append mt_append (pv 6) (pa_cons (pv 7) pa_nil)))) pss_nil)))
      (pss_one (ps_expr (bmK (K := K) rfl PySem.F.plainAttrs_list PySem.F.slot_list_append PySem.F.type_list_append mt_append (pv 1) (pa_cons (pv 6) pa_nil)))))))))
      (pss_one (ps_ret (pv 1)))))) (fun x hx => ?_)
  obtain ⟨hsz, hln⟩ := hx
  refine xs_seq (xs_asgF (ef_lst ea_nil (by decide)) ?_)
  refine xs_tree 1 rfl ?_
  refine xs_seq (xs_for (ei_enumL (ev_var (d := .lst (x.map (Rw.ob T))) rfl)) (fun k ρ => ∃ v2 v3 v4 v5 v6 v7, ρ = [some (.sh (.lst (x.map (Rw.ob T)))), some (.tr K true (llO (llI ((spoilsOf x).take k)))), v2, v3, v4, v5, v6, v7]) ⟨_, _, _, _, _, _, rfl⟩ ?_ ?_)
  · rintro n d ρ1 hk ⟨v2, v3, v4, v5, v6, v7, rfl⟩
    rw [numD_get, Nat.zero_add] at hk
    obtain ⟨e, he, rfl⟩ := Option.map_eq_some_iff.mp hk
    rw [List.getElem?_map] at he
    obtain ⟨r, hr, rfl⟩ := Option.map_eq_some_iff.mp he
    have hnl : n < x.length := (List.getElem?_eq_some_iff.mp hr).1
    have hrs := hsz r (List.mem_of_getElem? hr)
    have hwl := r.writes_le
    have hgr : x.getD n default = r := by rw [List.getD_eq_getElem?_getD, hr]; rfl
    refine ⟨_, eg_tup (egs_cons eg_name (egs_cons eg_name egs_nil)) rfl, ?_⟩
    refine xs_seq (xs_asgN en_dict ?_)
    dsimp only
    refine xs_seq (xs_for (ei_seqL (EvF.v (ef_writes (T := T) (r := r) (ev_var rfl) (by omega)))) (fun j ρ => ∃ Pk m v5, (∀ c : Int, Pk c = decide (c ∈ r.writes.take j)) ∧ m = j ∧ ρ = [some (.sh (.lst (x.map (Rw.ob T)))), some (.tr K true (llO (llI ((spoilsOf x).take n)))), some (.sh (.int (n : Int))), some (.sh (r.ob T)), some (.tr K true (.dk Pk m)), v5, v6, v7]) ⟨_, _, _, fun c => by simp, rfl, rfl⟩ ?_ ?_)
    · rintro j d ρ2 hj ⟨Pk, m, v5, hP, rfl, rfl⟩
      rw [List.getElem?_map] at hj
      obtain ⟨c, hc, rfl⟩ := Option.map_eq_some_iff.mp hj
      have hml : m < r.writes.length := (List.getElem?_eq_some_iff.mp hc).1
      refine ⟨_, eg_name, xs_putW ev_cb (ew_var (K := K) (nw := true) (o := .dk Pk m) rfl) rfl rfl (ev_var (d := .int c) rfl) (by omega) ⟨_, _, _, ?_, rfl, rfl⟩⟩
      intro y
      rw [hP, take_more hc]
      by_cases h1 : y ∈ r.writes.take m <;> by_cases h2 : y = c <;> simp [h1, h2]
    rintro ρ2 ⟨Pk, m, v5, hP, rfl, rfl⟩
    rw [List.length_map, List.take_length] at hP
    rw [List.length_map]
    refine xs_seq (xs_asgF (ef_lst ea_nil (by decide)) ?_)
    dsimp only
    refine xs_seq (xs_for (ei_r1 (n := (x.length : Int)) (by walk_at "dl ev") (by omega)) (fun k ρ => ∃ v7, ρ = [some (.sh (.lst (x.map (Rw.ob T)))), some (.tr K true (llO (llI ((spoilsOf x).take n)))), some (.sh (.int (n : Int))), some (.sh (r.ob T)), some (.tr K true (.dk Pk r.writes.length)), v5, some (.ol ((((span 0 (x.length : Int)).take k).filter fun k => decide (k ≠ (n : Int)) && hits (x.getD n default) (x.getD k.toNat default)).map D.int)), v7]) ⟨_, rfl⟩ ?_ ?_)
    · rintro k d ρ3 hk ⟨v7, rfl⟩
      have hsp : (span 0 (x.length : Int))[k]? = some (0 + (k : Int)) := by
        rw [rng_span] at hk
        rw [List.getElem?_map] at hk
        obtain ⟨y, hy, e⟩ := Option.map_eq_some_iff.mp hk
        rw [hy, (span_get hy).2.2]
      obtain ⟨hk1, rfl⟩ := rng_get hk
      have hk1 : k < x.length := by omega
      have hrk : x[k]? = some x[k] := List.getElem?_eq_getElem hk1
      have hgk : x.getD (0 + (k : Int)).toNat default = x[k] := by
        rw [show (0 + (k : Int)).toNat = k by omega, List.getD_eq_getElem?_getD, hrk]
        rfl
      have hs2 := hsz _ (List.mem_of_getElem? hrk)
      have hrl := (x[k]).reads_le
      generalize x[k] = b at hrk hgk hs2 hrl
      rw [take_more hsp, List.filter_append, List.map_append]
      have hix : atI (x.map (Rw.ob T)) (0 + (k : Int)) = some (b.ob T) := by
        rw [Int.zero_add]
        exact atI_nat (by rw [List.getElem?_map, hrk]; rfl)
      have hlen : (((((span 0 (x.length : Int)).take k).filter fun k => decide (k ≠ (n : Int)) && hits (x.getD n default) (x.getD k.toNat default)).map D.int)).length < 100000 := by
        rw [List.length_map]
        have h1 := List.length_filter_le (fun k => decide (k ≠ (n : Int)) && hits (x.getD n default) (x.getD k.toNat default)) ((span 0 (x.length : Int)).take k)
        rw [List.length_take, span_length] at h1
        omega
      refine ⟨_, eg_name, ?_⟩
      have hft : (D.lst ((b.reads.filter fun c => decide (c ∈ r.writes)).map D.int)).fit = true := (ft_ints _).fit (by decide)
      refine xs_if (b := decide (0 + (k : Int) ≠ (n : Int)) && hits r b) (EvT.is (et_and' (by walk_at "dl ev") (et_t (ev_neN (xs := (b.reads.filter fun c => decide (c ∈ r.writes)).map D.int) (EvM.r (EvF.m (EvF.is (ef_lc b.reads D.int Pk D.int rfl (ei_seqL (EvF.v (ef_reads (T := T) (r := b) (ev_ixl (ds := x.map (Rw.ob T)) (by walk_at "dl ev") (by walk_at "dl ev") hix) (by omega)))) (by omega) (fun i c _ => ⟨_, egc_name (by decide), et_t (ev_inW (ev_var rfl) (ew_var (K := K) (nw := true) (o := .dk Pk r.writes.length) rfl) rfl rfl), fun _ => ev_var rfl⟩)) ?_))) (EvM.r (EvF.m (ef_lst ea_nil (by decide)))) hft))) ?_) (fun hb => ?_) (fun hb => ?_)
      · congr 2
        funext c
        exact hP c
      · unfold hits
        congr 1
        · simp
        · cases (b.reads.filter fun c => decide (c ∈ r.writes)) <;> rfl
      · refine xs_app rfl (d := .int (0 + (k : Int))) (by walk_at "dl ev") hlen ?_
        have e1 : ([0 + (k : Int)].filter fun k => decide (k ≠ (n : Int)) && hits (x.getD n default) (x.getD k.toNat default)) = [0 + (k : Int)] := by
          rw [List.filter_cons_of_pos (by rw [hgr, hgk]; exact hb)]
          rfl
        rw [e1]
        exact ⟨_, rfl⟩
      · have e1 : ([0 + (k : Int)].filter fun k => decide (k ≠ (n : Int)) && hits (x.getD n default) (x.getD k.toNat default)) = [] := by
          rw [List.filter_cons_of_neg (by rw [hgr, hgk, hb]; decide)]
          rfl
        rw [e1, List.map_nil, List.append_nil]
        exact xs_next ⟨_, rfl⟩
    rintro ρ3 ⟨v7, rfl⟩
    rw [rng_length, show ((x.length : Int)).toNat = x.length from rfl, List.take_of_length_le (l := span 0 (x.length : Int)) (by rw [span_length]; omega)]
    refine xs_tree 6 rfl ?_
    refine xs_appMv (i := 1) (j := 6) (by decide) rfl rfl (by rw [List.length_map]; unfold llI; rw [List.length_map, List.length_take, spoilsOf_len]; omega) ?_
    dsimp only
    rw [take_more (spoilsOf_get hnl)]
    unfold llI llO
    rw [List.map_append, List.map_append]
    exact ⟨_, _, _, _, _, _, rfl⟩
  · rintro ρ1 ⟨v2, v3, v4, v5, v6, v7, rfl⟩
    refine xs_retT rfl ?_
    rw [numD_length, List.length_map, List.take_of_length_le (by rw [spoilsOf_len]; exact Nat.le_refl _)]
end

/-! ### the draw by a number's own digits, or by mixing -/
def draw (c k : Int) : Int := if c % 2 = 1 then c / 2 % 2 ^ 40 else
  ((c + 7919 * k + 1) * 48271 % 2147483647 * ((c + 7919 * k + 1) * 48271 % 2147483647 / 1009 + 69621) % 2147483647) * (((c + 7919 * k + 1) * 48271 % 2147483647 * ((c + 7919 * k + 1) * 48271 % 2147483647 / 1009 + 69621) % 2147483647) / 2003 + 40692) % 2147483399
theorem draw_b (c k : Int) : 0 ≤ draw c k ∧ draw c k < 2 ^ 40 := by
  unfold draw
  split
  · omega
  · omega
abbrev sp__law_draw {K : PySem.W.Frag} {mg : Str → Option Value} (T : Tx K mg) : Sp := spG K (fun x : Int × Int => 0 ≤ x.2 ∧ x.2 ≤ 1000000) (fun x => [.int x.1, .int x.2]) (fun x => .int (draw x.1 x.2))
section
variable {K : PySem.W.Frag} {mg : Str → Option Value} {T : Tx K mg} {ρ : DL.Env} {ta tb : TE} {c k : Int} {E : XK}
theorem ev_draw (ha : EvD K ta ρ (.int c)) (hb : EvD K tb ρ (.int k)) (h : 0 ≤ k ∧ k ≤ 1000000) : EvD K (tCall (sp__law_draw T) [] E (tCons ta (tCons tb tNil))) ρ (.int (draw c k)) := ev_call (c, k) (ea_cons ha (ea_cons hb ea_nil)) h
end
local macro_rules | `(tactic| walk_at "dl own") => `(tactic| first
  | ((with_reducible apply Lw.ev_draw) <;> walk_at "dl ev"))
section
variable {P : Program} {w : World} {K : PySem.W.Frag} {mg : Str → Option Value} {base : Heap}
theorem ok__law_draw (T : Tx K mg) : FnOk P w K mg base CX0 1 T.a__law_draw T.d__law_draw ["_law_cell", "_law_k"] (sp__law_draw T) := by
  refine fn_r T.F__law_draw sc__law_draw (fun _ => rfl) (fun cdv A outer s H E hr =>
      (pss_cons (ps_if (pt_cmpR (eqK (K := K) rfl hr.units) (pe_op op_mod (pv 0) pe_int) pe_int (nomark _)) (pss_one (ps_ret (pe_op op_mod (pe_op op_fdivW (pv 0) pe_int) (pe_op op_pow pe_int pe_int)))) pss_nil)
      (pss_cons (ps_set (i := 2) sc__law_draw.nd rfl (by first | exact Or.inl rfl | exact Or.inr rfl) (pe_op op_mod (pe_op op_mulA (pe_op (addK (K := K) rfl) (pe_op (addK (K := K) rfl) (pv 0) (pe_op op_mulA pe_int (pv 1))) pe_int) pe_int) pe_int))
      (pss_cons (ps_set (i := 2) sc__law_draw.nd rfl (by first | exact Or.inl rfl | exact Or.inr rfl) (pe_op op_mod (pe_op op_mulA (pv 2) (pe_op (addK (K := K) rfl) (pe_op op_fdivW (pv 2) pe_int) pe_int)) pe_int))
      (pss_one (ps_ret (pe_op op_mod (pe_op op_mulA (pv 2) (pe_op (addK (K := K) rfl) (pe_op op_fdivW (pv 2) pe_int) pe_int)) pe_int))))))) (fun x hx => ?_)
  obtain ⟨c, k⟩ := x
  obtain ⟨h1, h2⟩ := hx
  dsimp only at h1 h2 ⊢
  walk_at "dl go"
  · intro h
    refine xs_ret (by walk_at "dl ev") ?_
    unfold draw
    rw [if_pos (of_decide_eq_true h)]
    rfl
  · intro h
    have hd : draw c k = ((c + 7919 * k + 1) * 48271 % 2147483647 * ((c + 7919 * k + 1) * 48271 % 2147483647 / 1009 + 69621) % 2147483647) * (((c + 7919 * k + 1) * 48271 % 2147483647 * ((c + 7919 * k + 1) * 48271 % 2147483647 / 1009 + 69621) % 2147483647) / 2003 + 40692) % 2147483399 := if_neg (of_decide_eq_false h)
    rw [hd]
    refine xs_next ?_
    walk_at "dl go"
end

/-! ### rings: the mathematics -/
theorem nodup_len_le : ∀ {xs ys : List Int}, xs.Nodup → (∀ x ∈ xs, x ∈ ys) → xs.length ≤ ys.length
  | [], _, _, _ => Nat.zero_le _
  | x :: xs, ys, h, k => by
    have hx := k x (List.mem_cons_self ..)
    have h2 := List.nodup_cons.mp h
    have := nodup_len_le (xs := xs) (ys := ys.erase x) h2.2 fun y hy => (List.mem_erase_of_ne (fun z => h2.1 (by rw [← z]; exact hy))).mpr (k y (List.mem_cons_of_mem _ hy))
    rw [List.length_erase_of_mem hx] at this
    have h3 := List.length_pos_of_mem hx
    rw [List.length_cons]
    omega
theorem nodup_rev {xs : List Int} (h : xs.Nodup) : xs.reverse.Nodup := by
  rw [List.nodup_iff_pairwise_ne, List.pairwise_reverse]
  exact (List.nodup_iff_pairwise_ne.mp h).imp fun h => Ne.symm h
/-- a's reads meet b's writes -/
def meets (a b : Rw) : Bool := match a with
  | .put _ _ => false
  | .take t s n => !decide (t = s) && (!b.stay && (decide (s < b.to + b.size) && decide (b.to < s + n)))
theorem mem_spanI {a n x : Int} : x ∈ span a n ↔ a ≤ x ∧ x < a + n := by
  unfold span
  rw [List.mem_map]
  constructor
  · rintro ⟨j, hj, rfl⟩
    rw [List.mem_range] at hj
    omega
  · intro h
    exact ⟨(x - a).toNat, List.mem_range.mpr (by omega), by omega⟩
theorem hits_meets {w r : Rw} (hw : 1 ≤ w.size) (hr : 1 ≤ r.size) : hits w r = meets r w := by
  have key : hits w r = true ↔ ∃ c ∈ r.reads, c ∈ w.writes := by
    unfold hits
    rw [Bool.not_eq_true', List.isEmpty_eq_false_iff, Ne, List.filter_eq_nil_iff]
    simp
  have k2 : meets r w = true ↔ ∃ c ∈ r.reads, c ∈ w.writes := by
    cases r with
    | put t ss => simp [meets, Rw.reads]
    | take t s n =>
      have hr : 1 ≤ n := hr
      rw [Rw.reads_take]
      unfold meets Rw.writes
      dsimp only
      by_cases h1 : s = t
      · rw [if_pos h1]
        simp [h1]
      · rw [if_neg h1]
        have h1' : ¬ t = s := fun z => h1 z.symm
        by_cases h2 : w.stay = true
        · rw [if_pos h2]
          simp [h2]
        · rw [if_neg h2]
          simp only [Bool.not_eq_true] at h2
          simp only [h1', h2, decide_false, Bool.not_false, Bool.true_and, Bool.and_eq_true, decide_eq_true_eq]
          constructor
          · rintro ⟨a, b⟩
            by_cases h3 : s ≤ w.to
            · exact ⟨w.to, mem_spanI.mpr ⟨h3, b⟩, mem_spanI.mpr ⟨Int.le_refl _, by omega⟩⟩
            · exact ⟨s, mem_spanI.mpr ⟨Int.le_refl _, by omega⟩, mem_spanI.mpr ⟨by omega, a⟩⟩
          · rintro ⟨c, hc, hd⟩
            have := mem_spanI.mp hc
            have := mem_spanI.mp hd
            omega
  rw [Bool.eq_iff_iff, key, k2]
def rw_ (rs : List Rw) (k : Int) : Rw := rs.getD k.toNat default
/-- the takes that spoil another one left -/
def kept1 (rs : List Rw) (L : List Int) : List Int := L.filter fun k => !(L.filter fun one => decide (one ≠ k) && meets (rw_ rs one) (rw_ rs k)).isEmpty
def keptN (rs : List Rw) : Nat → List Int → List Int
  | 0, L => L
  | n + 1, L => keptN rs n (kept1 rs L)
theorem keptN_more (rs : List Rw) : ∀ n L, keptN rs (n + 1) L = kept1 rs (keptN rs n L)
  | 0, _ => rfl
  | n + 1, L => keptN_more rs n (kept1 rs L)
theorem keptN_mem {rs : List Rw} {k : Int} : ∀ {n : Nat} {L : List Int}, k ∈ keptN rs n L → k ∈ L
  | 0, _, h => h
  | n + 1, L, h => (List.mem_filter.mp (keptN_mem (n := n) (L := kept1 rs L) h)).1
theorem kept1_len (rs : List Rw) (L : List Int) : kept1 rs L = L ∨ (kept1 rs L).length < L.length := by
  unfold kept1
  by_cases h : L.length ≤ (L.filter fun k => !(L.filter fun one => decide (one ≠ k) && meets (rw_ rs one) (rw_ rs k)).isEmpty).length
  · refine .inl ?_
    exact List.Sublist.eq_of_length_le List.filter_sublist h
  · exact .inr (Nat.lt_of_not_le h)
theorem keptN_fix (rs : List Rw) : ∀ n L, L.length ≤ n → kept1 rs (keptN rs n L) = keptN rs n L
  | 0, L, h => by
    rw [List.eq_nil_of_length_eq_zero (Nat.le_zero.mp h)]
    rfl
  | n + 1, L, h => by
    show kept1 rs (keptN rs n (kept1 rs L)) = keptN rs n (kept1 rs L)
    rcases kept1_len rs L with e | e
    · rw [e]
      by_cases h2 : L.length ≤ n
      · exact keptN_fix rs n L h2
      · have : ∀ m, keptN rs m L = L := by
          intro m
          induction m with
          | zero => rfl
          | succ m ih => show keptN rs m (kept1 rs L) = L; rw [e, ih]
        rw [this, e]
    · exact keptN_fix rs n _ (by omega)
/-- each one left spoils another one left -/
def Closed (rs : List Rw) (L : List Int) : Prop := L.Nodup ∧ ∀ k ∈ L, 0 ≤ k ∧ k < (rs.length : Int) ∧ (rw_ rs k).isTake = true ∧ ∃ j ∈ L, j ≠ k ∧ meets (rw_ rs j) (rw_ rs k) = true
theorem closed_of {rs : List Rw} {L : List Int} (nd : L.Nodup) (h : kept1 rs L = L) (hb : ∀ k ∈ L, 0 ≤ k ∧ k < (rs.length : Int) ∧ (rw_ rs k).isTake = true) : Closed rs L := ⟨nd, fun k hk => by
  have h1 := hb k hk
  rw [← h] at hk
  have h2 := (List.mem_filter.mp hk).2
  rw [Bool.not_eq_true', List.isEmpty_eq_false_iff, Ne, List.filter_eq_nil_iff] at h2
  refine ⟨h1.1, h1.2.1, h1.2.2, ?_⟩
  refine Classical.byContradiction fun hn => h2 fun j hj hc => hn ⟨j, hj, ?_⟩
  rw [Bool.and_eq_true, decide_eq_true_eq] at hc
  exact hc⟩
/-- the readers of a row among those left -/
def readers (rs : List Rw) (L : List Int) (k : Int) : List Int := (spoilt rs k.toNat).filter fun j => decide (j ∈ L)
def nxt (rs : List Rw) (L : List Int) (k : Int) : Int := (readers rs L k).headD 0
theorem readers_mem {rs : List Rw} {L : List Int} (hz : ∀ r ∈ rs, 1 ≤ r.size) {j k : Int} (h0 : 0 ≤ k) (h1 : k < (rs.length : Int)) : j ∈ readers rs L k ↔ (0 ≤ j ∧ j < (rs.length : Int)) ∧ j ≠ k ∧ meets (rw_ rs j) (rw_ rs k) = true ∧ j ∈ L := by
  have sz : ∀ i : Int, 0 ≤ i → i < (rs.length : Int) → 1 ≤ (rw_ rs i).size := by
    intro i h2 h3
    unfold rw_
    rw [List.getD_eq_getElem?_getD, List.getElem?_eq_getElem (by omega)]
    exact hz _ (List.getElem_mem _)
  unfold readers spoilt
  rw [List.mem_filter, List.mem_filter, mem_spanI, Bool.and_eq_true, decide_eq_true_eq, decide_eq_true_eq]
  constructor
  · rintro ⟨⟨⟨a, b⟩, c, d⟩, e⟩
    rw [Int.zero_add] at b
    refine ⟨⟨a, b⟩, by omega, ?_, e⟩
    rw [← hits_meets (w := rw_ rs k) (r := rw_ rs j) (sz k h0 h1) (sz j a b)]
    exact d
  · rintro ⟨⟨a, b⟩, c, d, e⟩
    refine ⟨⟨⟨a, by omega⟩, by omega, ?_⟩, e⟩
    rw [← hits_meets (w := rw_ rs k) (r := rw_ rs j) (sz k h0 h1) (sz j a b)] at d
    exact d
theorem nxt_ok {rs : List Rw} {L : List Int} (hz : ∀ r ∈ rs, 1 ≤ r.size) (hc : Closed rs L) {k : Int} (hk : k ∈ L) :
    (readers rs L k)[0]? = some (nxt rs L k) ∧ nxt rs L k ∈ L ∧ nxt rs L k ≠ k ∧ meets (rw_ rs (nxt rs L k)) (rw_ rs k) = true := by
  obtain ⟨h0, h1, _, j, hj, hne, hm⟩ := hc.2 k hk
  have hj2 := hc.2 j hj
  have hmem : j ∈ readers rs L k := (readers_mem hz h0 h1).mpr ⟨⟨hj2.1, hj2.2.1⟩, hne, hm, hj⟩
  unfold nxt
  cases hr : readers rs L k with
  | nil => rw [hr] at hmem; cases hmem
  | cons y ys =>
    have := (readers_mem (L := L) hz h0 h1 (j := y)).mp (by rw [hr]; exact List.mem_cons_self ..)
    exact ⟨rfl, this.2.2.2, this.2.1, this.2.2.1⟩
/-- on and on to the next one, until one comes again -/
def ringFrom (nx : Int → Int) : Nat → List Int → List Int
  | 0, _ => []
  | f + 1, way => if nx (way.getLastD 0) ∈ way then (way.drop (way.idxOf (nx (way.getLastD 0)))).reverse else ringFrom nx f (way ++ [nx (way.getLastD 0)])
def ringOf (rs : List Rw) (L : List Int) : List Int := ringFrom (nxt rs L) L.length [L.headD 0]
structure Way (nx : Int → Int) (L way : List Int) : Prop where
  ne : way ≠ []
  nd : way.Nodup
  inL : ∀ x ∈ way, x ∈ L
  ch : ∀ (i : Nat) (x y : Int), way[i]? = some x → way[i + 1]? = some y → y = nx x
theorem Way.last {nx : Int → Int} {L way : List Int} (w : Way nx L way) : way[way.length - 1]? = some (way.getLastD 0) := by
  have := w.ne
  rw [List.getLastD_eq_getLast?, List.getLast?_eq_getElem?]
  have h : way.length - 1 < way.length := by have := List.length_pos_iff.mpr w.ne; omega
  rw [List.getElem?_eq_getElem h]
  rfl
theorem Way.more {nx : Int → Int} {L way : List Int} (w : Way nx L way) (h : nx (way.getLastD 0) ∉ way) (hL : nx (way.getLastD 0) ∈ L) : Way nx L (way ++ [nx (way.getLastD 0)]) where
  ne := by simp
  nd := by
    rw [List.nodup_append]
    refine ⟨w.nd, by simp, fun a ha b hb => ?_⟩
    rw [List.mem_singleton] at hb
    exact fun z => h (by rw [← hb, ← z]; exact ha)
  inL := fun x hx => by
    rcases List.mem_append.mp hx with hx | hx
    · exact w.inL x hx
    · rw [List.mem_singleton] at hx
      rw [hx]
      exact hL
  ch := fun i x y hx hy => by
    have hp := List.length_pos_iff.mpr w.ne
    by_cases h1 : i + 1 < way.length
    · rw [List.getElem?_append_left (by omega)] at hx
      rw [List.getElem?_append_left h1] at hy
      exact w.ch i x y hx hy
    · have hl : i + 1 < (way ++ [nx (way.getLastD 0)]).length := (List.getElem?_eq_some_iff.mp hy).1
      rw [List.length_append, List.length_singleton] at hl
      have e : i = way.length - 1 := by omega
      have e2 : i + 1 = way.length := by omega
      rw [List.getElem?_append_left (by omega), e, w.last] at hx
      rw [List.getElem?_append_right (by omega), e2, Nat.sub_self] at hy
      cases hx
      cases hy
      rfl
/-- a ring: each one is the next one of the one behind, the last one the next one of the first -/
structure Ring (nx : Int → Int) (L rg : List Int) : Prop where
  two : 2 ≤ rg.length
  nd : rg.Nodup
  inL : ∀ x ∈ rg, x ∈ L
  ch : ∀ (i : Nat) (x y : Int), rg[i]? = some x → rg[i + 1]? = some y → x = nx y
  cl : ∀ x y, rg[0]? = some x → rg[rg.length - 1]? = some y → y = nx x
theorem Way.ring {nx : Int → Int} {L way : List Int} (w : Way nx L way) (h : nx (way.getLastD 0) ∈ way) (hn : nx (way.getLastD 0) ≠ way.getLastD 0) : Ring nx L (way.drop (way.idxOf (nx (way.getLastD 0)))).reverse := by
  have hp := List.length_pos_iff.mpr w.ne
  have hl := w.last
  have hi : way.idxOf (nx (way.getLastD 0)) < way.length := List.idxOf_lt_length_of_mem h
  have hg : way[way.idxOf (nx (way.getLastD 0))]? = some (nx (way.getLastD 0)) := by rw [List.getElem?_eq_getElem hi, List.getElem_idxOf hi]
  generalize way.idxOf (nx (way.getLastD 0)) = k at hi hg ⊢
  have hk : k ≠ way.length - 1 := fun z => by
    rw [z, hl] at hg
    exact hn (Option.some.inj hg).symm
  have hlen : (way.drop k).reverse.length = way.length - k := by rw [List.length_reverse, List.length_drop]
  have get : ∀ i, i < way.length - k → (way.drop k).reverse[i]? = way[way.length - 1 - i]? := by
    intro i hi2
    rw [List.getElem?_reverse (by rw [List.length_drop]; exact hi2), List.length_drop, List.getElem?_drop]
    congr 1
    omega
  refine ⟨by omega, nodup_rev (w.nd.sublist (List.drop_sublist ..)), fun x hx => w.inL x (List.mem_of_mem_drop (List.mem_reverse.mp hx)), ?_, ?_⟩
  · intro i x y hx hy
    have h2 : i + 1 < way.length - k := by rw [← hlen]; exact (List.getElem?_eq_some_iff.mp hy).1
    rw [get i (by omega)] at hx
    rw [get (i + 1) h2] at hy
    refine w.ch (way.length - 1 - (i + 1)) y x hy ?_
    rw [← hx]
    congr 1
    omega
  · intro x y hx hy
    rw [get 0 (by omega), Nat.sub_zero, hl] at hx
    rw [hlen, get (way.length - k - 1) (by omega), show way.length - 1 - (way.length - k - 1) = k by omega, hg] at hy
    cases hx
    cases hy
    rfl
theorem ringFrom_ring {nx : Int → Int} {L : List Int} (hx : ∀ k ∈ L, nx k ∈ L ∧ nx k ≠ k) : ∀ (f : Nat) (way : List Int), Way nx L way → L.length < f + way.length → Ring nx L (ringFrom nx f way)
  | 0, way, w, h => absurd (nodup_len_le w.nd w.inL) (by omega)
  | f + 1, way, w, h => by
    have hl : way.getLastD 0 ∈ L := w.inL _ (List.mem_of_getElem? w.last)
    have h2 := hx _ hl
    unfold ringFrom
    split
    · rename_i hm
      exact w.ring hm h2.2
    · rename_i hm
      exact ringFrom_ring hx f _ (w.more hm h2.1) (by rw [List.length_append, List.length_singleton]; omega)
theorem Way.one {nx : Int → Int} {L : List Int} {x : Int} (h : x ∈ L) : Way nx L [x] := ⟨by simp, by simp, fun y hy => by
  rw [List.mem_singleton] at hy
  rw [hy]
  exact h, fun i x y _ hy => by cases i <;> cases hy⟩
theorem headD_mem {L : List Int} (h : L ≠ []) : L.headD 0 ∈ L := by
  cases L with
  | nil => exact absurd rfl h
  | cons x xs => exact List.mem_cons_self ..
theorem ringOf_ring {rs : List Rw} {L : List Int} (hz : ∀ r ∈ rs, 1 ≤ r.size) (hc : Closed rs L) (hn : L ≠ []) : Ring (nxt rs L) L (ringOf rs L) :=
  ringFrom_ring (fun k hk => ⟨(nxt_ok hz hc hk).2.1, (nxt_ok hz hc hk).2.2.1⟩) _ _ (Way.one (headD_mem hn)) (by rw [List.length_singleton]; omega)

/-! ### the rows of the law -/
def rowK (c k : Int) : Rw :=
  if draw c k / 8192 % 8 = 0 then .put (draw c k % 31) (List.replicate (1 + draw c k / 512 % 9).toNat (c % 10 ^ 60))
  else .take (draw c k % 31) (draw c k / 65536 % 31) (1 + draw c k / 512 % 9)
theorem rowK_fine (c k : Int) : (rowK c k).good ∧ 1 ≤ (rowK c k).size ∧ (rowK c k).size ≤ 9 := by
  have hd := draw_b c k
  unfold rowK
  generalize draw c k = d at hd ⊢
  split
  · refine ⟨⟨by omega, ?_, ?_, ?_⟩, ?_⟩
    · intro e
      have := congrArg List.length e
      rw [List.length_replicate] at this
      simp at this
      omega
    · intro x hx
      rw [List.eq_of_mem_replicate hx]
      omega
    · rw [List.length_replicate]
      omega
    · unfold Rw.size
      dsimp only
      rw [List.length_replicate]
      omega
  · refine ⟨⟨by omega, by omega, by omega⟩, ?_⟩
    unfold Rw.size
    dsimp only
    omega
theorem rep_one {α : Type} (x : α) : ∀ n : Nat, (List.replicate n [x]).flatten = List.replicate n x
  | 0 => rfl
  | n + 1 => by rw [List.replicate_succ, List.replicate_succ, List.flatten_cons, rep_one x n]; rfl
def rowsOf (ns : List Int) : List Rw := (span 0 ((ns.take 24).length : Int)).map fun k => rowK (ns.getD k.toNat 0) k
def shuf : Nat → List Int → Int → List Int
  | 0, _, _ => []
  | f + 1, xs, c => xs.getD (c % (xs.length : Int)).toNat 0 :: shuf f (xs.eraseIdx (c % (xs.length : Int)).toNat) (c / (xs.length : Int))
theorem cons_erase_perm : ∀ (xs : List Int) (i : Nat) (h : i < xs.length), (xs[i] :: xs.eraseIdx i).Perm xs
  | x :: xs, 0, _ => .refl _
  | x :: xs, i + 1, h => by
    have h' : i < xs.length := Nat.lt_of_succ_lt_succ h
    rw [List.getElem_cons_succ, List.eraseIdx_cons_succ]
    exact .trans (.swap _ _ _) (.cons _ (cons_erase_perm xs i h'))
theorem map_erase {f : Int → D} : ∀ (xs : List Int) (i : Nat), (xs.eraseIdx i).map f = (xs.map f).eraseIdx i
  | [], _ => rfl
  | _ :: _, 0 => rfl
  | x :: xs, i + 1 => by
    show f x :: (xs.eraseIdx i).map f = f x :: (xs.map f).eraseIdx i
    rw [map_erase xs i]
theorem shuf_perm : ∀ (f : Nat) (xs : List Int) (c : Int), xs.length = f → (shuf f xs c).Perm xs
  | 0, xs, c, h => by
    rw [List.eq_nil_of_length_eq_zero h]
    exact .refl _
  | f + 1, xs, c, h => by
    have hlt : (c % (xs.length : Int)).toNat < xs.length := by
      have h1 := Int.emod_nonneg c (show (xs.length : Int) ≠ 0 by omega)
      have h2 := Int.emod_lt_of_pos c (show (0 : Int) < (xs.length : Int) by omega)
      omega
    unfold shuf
    generalize (c % (xs.length : Int)).toNat = i at hlt ⊢
    rw [List.getD_eq_getElem?_getD, List.getElem?_eq_getElem hlt]
    refine .trans (.cons _ (shuf_perm f _ _ (by rw [List.length_eraseIdx, if_pos hlt]; omega))) ?_
    exact cons_erase_perm xs i hlt
def lateAt (rs : List Rw) (o : List Int) (k : Nat) : Bool := !((o.take k).filter fun one => meets (rw_ rs (o.getD k 0)) (rw_ rs one)).isEmpty
def lateF (rs : List Rw) (o : List Int) : Bool := (List.range o.length).any (lateAt rs o)
theorem ring_late {rs : List Rw} {L rg o : List Int} (hz : ∀ r ∈ rs, 1 ≤ r.size) (hc : Closed rs L) (g : Ring (nxt rs L) L rg) (hp : o.Perm rg) : lateF rs o = true := by
  have hl := hp.length_eq
  have h2 := g.two
  match o, hp, hl with
  | [], hp, hl => exact absurd hl (by rw [List.length_nil]; omega)
  | x :: os, hp, hl =>
    have hx : x ∈ rg := hp.mem_iff.mp (List.mem_cons_self ..)
    have hxL := g.inL x hx
    have hn := nxt_ok hz hc hxL
    have hnr : nxt rs L x ∈ rg := by
      obtain ⟨i, hi⟩ := List.mem_iff_getElem?.mp hx
      have hil := (List.getElem?_eq_some_iff.mp hi).1
      cases i with
      | zero =>
        have hy : rg[rg.length - 1]? = some rg[rg.length - 1] := List.getElem?_eq_getElem (by omega)
        rw [← g.cl x _ hi hy]
        exact List.mem_of_getElem? hy
      | succ i =>
        have hy : rg[i]? = some rg[i] := List.getElem?_eq_getElem (by omega)
        rw [← g.ch i _ x hy hi]
        exact List.mem_of_getElem? hy
    have hno : nxt rs L x ∈ x :: os := hp.mem_iff.mpr hnr
    obtain ⟨j, hj⟩ := List.mem_iff_getElem?.mp hno
    have hjl := (List.getElem?_eq_some_iff.mp hj).1
    have hj0 : j ≠ 0 := fun z => by
      rw [z] at hj
      exact hn.2.2.1 (Option.some.inj hj).symm
    unfold lateF
    rw [List.any_eq_true]
    refine ⟨j, List.mem_range.mpr hjl, ?_⟩
    unfold lateAt
    rw [Bool.not_eq_true', List.isEmpty_eq_false_iff, Ne, List.filter_eq_nil_iff]
    intro hno
    refine hno x ?_ ?_
    · obtain ⟨j, rfl⟩ := Nat.exists_eq_succ_of_ne_zero hj0
      rw [List.take_succ_cons]
      exact List.mem_cons_self ..
    · rw [List.getD_eq_getElem?_getD, hj]
      exact hn.2.2.2
theorem atI_lastD {xs : List Int} (h : xs ≠ []) : atI (xs.map D.int) (-1) = some (.int (xs.getLastD 0)) := by
  have hp := List.length_pos_iff.mpr h
  unfold atI
  rw [List.length_map, ixN_last hp]
  show (xs.map D.int)[xs.length - 1]? = _
  rw [List.getElem?_map, List.getLastD_eq_getLast?, List.getLast?_eq_getElem?, List.getElem?_eq_getElem (by omega)]
  rfl
theorem rw_ix {rs : List Rw} {k : Int} (h0 : 0 ≤ k) (h1 : k < (rs.length : Int)) {f : Rw → D} : atI (rs.map f) k = some (f (rw_ rs k)) := by
  unfold rw_
  rw [show k = ((k.toNat : Nat) : Int) by omega]
  refine atI_nat ?_
  rw [List.getElem?_map, Int.toNat_natCast, List.getD_eq_getElem?_getD, List.getElem?_eq_getElem (show k.toNat < rs.length by omega)]
  rfl
abbrev sp__law_row {K : PySem.W.Frag} {mg : Str → Option Value} (T : Tx K mg) : Sp := spG K (fun x : Int × Int => 0 ≤ x.2 ∧ x.2 ≤ 1000) (fun x => [.int x.1, .int x.2]) (fun x => (rowK x.1 x.2).tl)
abbrev sp__law_meets {K : PySem.W.Frag} {mg : Str → Option Value} (T : Tx K mg) : Sp := spG K (fun _ : Rw × Rw => True) (fun x => [x.1.tl, x.2.tl]) (fun x => .bl (meets x.1 x.2))
def bitOff (d k : Int) : Bool := decide (Builtin.bitAnd (d / 2 ^ k.toNat) 1 = 0)
def leftOf (rs : List Rw) (d : Int) : List Int := (span 0 (rs.length : Int)).filter fun k => (rw_ rs k).isTake && bitOff d k
abbrev sp__law_left {K : PySem.W.Frag} {mg : Str → Option Value} (T : Tx K mg) : Sp := spG K (fun x : List Rw × Int => x.1.length ≤ 1000) (fun x => [.lst (x.1.map Rw.tl), .int x.2]) (fun x => .lst ((keptN x.1 x.1.length (leftOf x.1 x.2)).map .int))
abbrev sp__law_shuffled {K : PySem.W.Frag} {mg : Str → Option Value} (T : Tx K mg) : Sp := spF K (fun x : List Int × Int => x.1.length ≤ 1000) (fun x => [.lst (x.1.map .int), .int x.2]) (fun x => (shuf x.1.length x.1 x.2).map .int)
abbrev sp__law_late {K : PySem.W.Frag} {mg : Str → Option Value} (T : Tx K mg) : Sp := spG K (fun x : List Int × List Rw => x.1.length ≤ 1000 ∧ ∀ k ∈ x.1, 0 ≤ k ∧ k < (x.2.length : Int)) (fun x => [.lst (x.1.map .int), .lst (x.2.map Rw.tl)]) (fun x => .bl (lateF x.2 x.1))
abbrev sp_ring_of {K : PySem.W.Frag} {mg : Str → Option Value} (T : Tx K mg) : Sp := spF K (fun x : List Rw × List Int => (∀ r ∈ x.1, 1 ≤ r.size ∧ r.size ≤ 1000) ∧ x.1.length ≤ 1000 ∧ Closed x.1 x.2 ∧ x.2 ≠ []) (fun x => [.lst (x.1.map (Rw.ob T)), .lst (x.2.map .int)]) (fun x => (ringOf x.1 x.2).map .int)
theorem mem_left {rs : List Rw} {d k : Int} {n : Nat} (h : k ∈ keptN rs n (leftOf rs d)) : 0 ≤ k ∧ k < (rs.length : Int) ∧ (rw_ rs k).isTake = true := by
  have h2 := List.mem_filter.mp (keptN_mem h)
  have h3 := mem_spanI.mp h2.1
  have h4 := h2.2
  rw [Bool.and_eq_true] at h4
  exact ⟨h3.1, by omega, h4.1⟩
theorem kept1_sub (rs : List Rw) (L : List Int) : (kept1 rs L).Sublist L := List.filter_sublist
theorem keptN_sub (rs : List Rw) : ∀ (n : Nat) (L : List Int), (keptN rs n L).Sublist L
  | 0, L => List.Sublist.refl _
  | n + 1, L => (keptN_sub rs n _).trans (kept1_sub rs L)
theorem span_nodup (a n : Int) : (span a n).Nodup := by
  unfold span
  rw [List.nodup_iff_pairwise_ne, List.pairwise_map]
  exact (List.pairwise_lt_range (n := n.toNat)).imp fun h => by omega
theorem closed_left (rs : List Rw) (d : Int) : Closed rs (keptN rs rs.length (leftOf rs d)) := by
  have hs : (leftOf rs d).Sublist (span 0 (rs.length : Int)) := List.filter_sublist
  refine closed_of (((span_nodup _ _).sublist hs).sublist (keptN_sub rs _ _)) (keptN_fix rs _ _ ?_) fun k hk => mem_left hk
  have := hs.length_le
  rw [span_length] at this
  omega
section
variable {P : Program} {w : World} {K : PySem.W.Frag} {mg : Str → Option Value} {base : Heap} {T : Tx K mg} {ρ : DL.Env} {ta tb : TE} {E : XK}
theorem ev_meets {a b : Rw} (ha : EvD K ta ρ a.tl) (hb : EvD K tb ρ b.tl) : EvD K (tCall (sp__law_meets T) [] E (tCons ta (tCons tb tNil))) ρ (.bl (meets a b)) := ev_call (a, b) (ea_cons ha (ea_cons hb ea_nil)) trivial
theorem ev_rowAt {rs : List Rw} {k : Int} {f : Rw → D} (ha : EvD K ta ρ (.lst (rs.map f))) (hk : EvD K tb ρ (.int k)) (h0 : 0 ≤ k) (h1 : k < (rs.length : Int)) : EvD K (tOp (rIx K) ta tb) ρ (f (rw_ rs k)) :=
  ev_ixl (EvM.b (EvD.m ha)) hk (rw_ix h0 h1)
/-- row[0] == "take", row[0] == "put" -/
theorem ev_isT {r : Rw} (ha : EvD K ta ρ r.tl) : EvD K (tOp (rEqD K) (tOp (rIx K) ta (tC (.int 0))) (tC (.str "take"))) ρ (.bl r.isTake) := by
  cases r with
  | take t s n => exact (ev_eqS (x := "take") (y := "take") (ev_ixt (ds := [.str "take", .int t, .int s, .int n]) ha ev_ci (atI_nat rfl)) ev_cs (by decide +kernel) (by decide +kernel)).is (by simp [Rw.isTake])
  | put t ss => exact (ev_eqS (x := "put") (y := "take") (ev_ixt (ds := [.str "put", .int t, .tup (ss.map .int)]) ha ev_ci (atI_nat rfl)) ev_cs (by decide +kernel) (by decide +kernel)).is (congrArg D.bl (by decide +kernel : decide (("put" : Str) = "take") = false))
theorem ev_isP {r : Rw} (ha : EvD K ta ρ r.tl) : EvD K (tOp (rEqD K) (tOp (rIx K) ta (tC (.int 0))) (tC (.str "put"))) ρ (.bl (!r.isTake)) := by
  cases r with
  | take t s n => exact (ev_eqS (x := "take") (y := "put") (ev_ixt (ds := [.str "take", .int t, .int s, .int n]) ha ev_ci (atI_nat rfl)) ev_cs (by decide +kernel) (by decide +kernel)).is (congrArg D.bl (by decide +kernel : decide (("take" : Str) = "put") = false))
  | put t ss => exact (ev_eqS (x := "put") (y := "put") (ev_ixt (ds := [.str "put", .int t, .tup (ss.map .int)]) ha ev_ci (atI_nat rfl)) ev_cs (by decide +kernel) (by decide +kernel)).is (by simp [Rw.isTake])
/-- row[1] -/
theorem ev_at1 {r : Rw} (ha : EvD K ta ρ r.tl) : EvD K (tOp (rIx K) ta (tC (.int 1))) ρ (.int r.to) := by
  cases r with
  | take t s n => exact ev_ixt (ds := [.str "take", .int t, .int s, .int n]) ha ev_ci (atI_nat rfl)
  | put t ss => exact ev_ixt (ds := [.str "put", .int t, .tup (ss.map .int)]) ha ev_ci (atI_nat rfl)
theorem ev_at2 {t s n : Int} (ha : EvD K ta ρ (Rw.take t s n).tl) : EvD K (tOp (rIx K) ta (tC (.int 2))) ρ (.int s) := ev_ixt (ds := [.str "take", .int t, .int s, .int n]) ha ev_ci (atI_nat rfl)
theorem ev_at3 {t s n : Int} (ha : EvD K ta ρ (Rw.take t s n).tl) : EvD K (tOp (rIx K) ta (tC (.int 3))) ρ (.int n) := ev_ixt (ds := [.str "take", .int t, .int s, .int n]) ha ev_ci (atI_nat rfl)
theorem ev_at2p {t : Int} {ss : List Int} (ha : EvD K ta ρ (Rw.put t ss).tl) : EvD K (tOp (rIx K) ta (tC (.int 2))) ρ (.tup (ss.map .int)) := ev_ixt (ds := [.str "put", .int t, .tup (ss.map .int)]) ha ev_ci (atI_nat rfl)
end
section
variable {P : Program} {w : World} {K : PySem.W.Frag} {mg : Str → Option Value} {base : Heap}
theorem ok__law_row (T : Tx K mg) : FnOk P w K mg base CX0 2 T.a__law_row T.d__law_row ["_law_cell", "_law_k"] (sp__law_row T) := by
  refine fn_r T.F__law_row sc__law_row (fun _ => rfl) (fun cdv A outer s H E hr =>
      (pss_cons (ps_set (i := 2) sc__law_row.nd rfl (by first | exact Or.inl rfl | exact Or.inr rfl) (pe_call (ok__law_draw T) hr (by rfl) T.g__law_draw T.F__law_draw.kp T.b__law_draw .nil pass0 (pa_cons (pv 0) (pa_cons (pv 1) pa_nil))))
      (pss_cons (ps_set (i := 3) sc__law_row.nd rfl (by first | exact Or.inl rfl | exact Or.inr rfl) (pe_op op_mod (pv 2) pe_int))
      (pss_cons (ps_set (i := 4) sc__law_row.nd rfl (by first | exact Or.inl rfl | exact Or.inr rfl) (pe_op (addK (K := K) rfl) pe_int (pe_op op_mod (pe_op op_fdivW (pv 2) pe_int) pe_int)))
      (pss_cons (ps_if (pt_cmpR (eqK (K := K) rfl hr.units) (pe_op op_mod (pe_op op_fdivW (pv 2) pe_int) pe_int) pe_int (nomark _)) (pss_one (ps_ret (pe_tup (pa_cons pe_str (pa_cons (pv 3) (pa_cons (pe_callTy (tupleK (K := K) rfl) (by rfl) T.z_tuple (by decide +kernel) (pa_cons (pe_op op_mulA (pe_lst (pa_cons (pe_op op_mod (pv 0) (pe_op op_pow pe_int pe_int)) pa_nil)) (pv 4)) pa_nil)) pa_nil)))))) pss_nil)
      (pss_one (ps_ret (pe_tup (pa_cons pe_str (pa_cons (pv 3) (pa_cons (pe_op op_mod (pe_op op_fdivW (pv 2) pe_int) pe_int) (pa_cons (pv 4) pa_nil)))))))))))) (fun x hx => ?_)
  obtain ⟨c, k⟩ := x
  obtain ⟨h1, h2⟩ := hx
  dsimp only at h1 h2 ⊢
  have hd := draw_b c k
  have hdef : rowK c k = if draw c k / 8192 % 8 = 0 then .put (draw c k % 31) (List.replicate (1 + draw c k / 512 % 9).toNat (c % 10 ^ 60)) else .take (draw c k % 31) (draw c k / 65536 % 31) (1 + draw c k / 512 % 9) := rfl
  refine xs_seq (xs_asg (by walk_at "dl ev") eg_name ?_)
  generalize draw c k = d at hd hdef ⊢
  walk_at "dl go"
  · intro h
    rw [if_pos (of_decide_eq_true h)] at hdef
    rw [hdef]
    have e : (List.replicate (1 + d / 512 % 9).toNat [D.int (c % (10 : Int) ^ (60 : Int).toNat)]).flatten = (List.replicate (1 + d / 512 % 9).toNat (c % 10 ^ 60)).map D.int := by
      rw [rep_one, List.map_replicate]
      rfl
    refine xs_ret (d := .tup [.str "put", .int (d % 31), .tup ((List.replicate (1 + d / 512 % 9).toNat (c % 10 ^ 60)).map D.int)]) (ev_tup (ea_cons ev_cs (ea_cons (by walk_at "dl ev") (ea_cons (ev_tupleL (EvF.b (EvF.is (ef_mulL (k := 1 + d / 512 % 9) (EvF.m (ef_lst (ea_cons (d := .int (c % (10 : Int) ^ (60 : Int).toNat)) (by walk_at "dl ev") ea_nil) (Nat.le_of_ble_eq_true rfl))) (by walk_at "dl ev") (by omega) (by omega) ?_) e))) ea_nil))) (Nat.le_of_ble_eq_true rfl)) rfl
    show 1 * (1 + d / 512 % 9).toNat ≤ 100000
    omega
  · intro h
    rw [if_neg (of_decide_eq_false h)] at hdef
    rw [hdef]
    refine xs_next ?_
    exact xs_ret (d := .tup [.str "take", .int (d % 31), .int (d / 65536 % 31), .int (1 + d / 512 % 9)]) (by walk_at "dl ev") rfl
theorem ok__law_meets (T : Tx K mg) : FnOk P w K mg base CX0 1 T.a__law_meets T.d__law_meets ["_law_row_here", "_law_other"] (sp__law_meets T) := by
  refine fn_r T.F__law_meets sc__law_meets (fun _ => rfl) (fun cdv A outer s H E hr =>
      (pss_cons (ps_if (PW.pt (pw_or (pt_cmpR (eqK (K := K) rfl hr.units) (pe_ix (ixK (K := K) rfl) (pv 0) pe_int (fun _ _ => rfl)) pe_str (nomark _)) (pw_or (pt_cmpR (eqK (K := K) rfl hr.units) (pe_ix (ixK (K := K) rfl) (pv 0) pe_int (fun _ _ => rfl)) (pe_ix (ixK (K := K) rfl) (pv 0) pe_int (fun _ _ => rfl)) (nomark _)) (pw_or1 (PW.pt (pw_and (pt_cmpR (eqK (K := K) rfl hr.units) (pe_ix (ixK (K := K) rfl) (pv 1) pe_int (fun _ _ => rfl)) pe_str (nomark _)) (pw_and1 (pt_cmpR (eqK (K := K) rfl hr.units) (pe_ix (ixK (K := K) rfl) (pv 1) pe_int (fun _ _ => rfl)) (pe_ix (ixK (K := K) rfl) (pv 1) pe_int (fun _ _ => rfl)) (nomark _))))))))) (pss_one (ps_ret pe_bl)) pss_nil)
      (pss_cons (ps_if (pt_cmpR (eqK (K := K) rfl hr.units) (pe_ix (ixK (K := K) rfl) (pv 1) pe_int (fun _ _ => rfl)) pe_str (nomark _)) (pss_one (ps_set (i := 2) sc__law_meets.nd rfl (by first | exact Or.inl rfl | exact Or.inr rfl) (pe_op (addK (K := K) rfl) (pe_ix (ixK (K := K) rfl) (pv 1) pe_int (fun _ _ => rfl)) (pe_ix (ixK (K := K) rfl) (pv 1) pe_int (fun _ _ => rfl))))) (pss_one (ps_set (i := 2) sc__law_meets.nd rfl (by first | exact Or.inl rfl | exact Or.inr rfl) (pe_op (addK (K := K) rfl) (pe_ix (ixK (K := K) rfl) (pv 1) pe_int (fun _ _ => rfl)) (pe_callB (lenK (K := K) rfl) (by rfl) T.z_len (by decide +kernel) (pa_cons (pe_ix (ixK (K := K) rfl) (pv 1) pe_int (fun _ _ => rfl)) pa_nil))))))
      (pss_one (ps_ret (pe_and (pe_cmpR op_lt (pe_ix (ixK (K := K) rfl) (pv 0) pe_int (fun _ _ => rfl)) (pv 2) (nomark _)) (pe_one (pe_cmpR op_lt (pe_ix (ixK (K := K) rfl) (pv 1) pe_int (fun _ _ => rfl)) (pe_op (addK (K := K) rfl) (pe_ix (ixK (K := K) rfl) (pv 0) pe_int (fun _ _ => rfl)) (pe_ix (ixK (K := K) rfl) (pv 0) pe_int (fun _ _ => rfl))) (nomark _))))))))) (fun x hx => ?_)
  obtain ⟨a, b⟩ := x
  dsimp only
  have ea : EvD K (tVar 0) (entry ["_law_row_here", "_law_other", "_law_end"] [a.tl, b.tl]) a.tl := ev_var rfl
  have eb : EvD K (tVar 1) (entry ["_law_row_here", "_law_other", "_law_end"] [a.tl, b.tl]) b.tl := ev_var rfl
  cases a with
  | put t ss => exact xs_seq (xs_yes (et_orT (et_t (ev_isP ea))) rfl (xs_ret ev_cb rfl))
  | take t s n =>
    have e3 : EvT K (tAnd (tTest (tOp (rEqD K) (tOp (rIx K) (tVar 1) (tC (.int 0))) (tC (.str "take")))) (tTest (tOp (rEqD K) (tOp (rIx K) (tVar 1) (tC (.int 1))) (tOp (rIx K) (tVar 1) (tC (.int 2)))))) (entry ["_law_row_here", "_law_other", "_law_end"] [(Rw.take t s n).tl, b.tl]) b.stay := by
      cases b with
      | put t' ss' => exact et_andF (et_t (ev_isT eb))
      | take t' s' n' => exact et_andT (et_t (ev_isT eb)) (et_t ((ev_eqI (ev_at1 eb) (ev_at2 eb)).is (congrArg D.bl (by
          show decide (t' = s') = decide (s' = t')
          simp only [eq_comm]))))
    refine xs_seq (xs_if (b := decide (t = s) || b.stay) (et_orF (et_t (ev_isP ea)) (et_or' (et_t (ev_eqI (ev_at1 (r := .take t s n) ea) (ev_at2 ea))) e3)) (fun h => xs_ret (ev_cb) ?_) (fun h => xs_next ?_))
    · show D.bl false = D.bl (meets _ _)
      unfold meets
      dsimp only
      rw [Bool.or_eq_true] at h
      rcases h with h | h <;> simp [h]
    · rw [Bool.or_eq_false_iff] at h
      have hm : meets (.take t s n) b = (decide (s < b.to + b.size) && decide (b.to < s + n)) := by
        unfold meets
        dsimp only
        simp [h.1, h.2]
      rw [hm]
      cases b with
      | put t' ss' =>
        refine xs_seq (xs_no2 (et_t (ev_isT eb)) rfl ?_)
        refine xs_asg (ev_addI (ev_at1 eb) (ev_lenMT (ev_at2p eb))) eg_name ?_
        dsimp only
        exact xs_ret (ev_and' (ev_Ib (ev_at2 (n := n) (t := t) (ev_var rfl)) (ev_var rfl)) (ev_Ib (ev_at1 (r := .put t' ss') (ev_var rfl)) (ev_addI (ev_at2 (n := n) (t := t) (ev_var rfl)) (ev_at3 (s := s) (t := t) (ev_var rfl))))) rfl
      | take t' s' n' =>
        refine xs_seq (xs_yes (et_t (ev_isT eb)) rfl ?_)
        refine xs_asg (ev_addI (ev_at1 eb) (ev_at3 eb)) eg_name ?_
        dsimp only
        exact xs_ret (ev_and' (ev_Ib (ev_at2 (n := n) (t := t) (ev_var rfl)) (ev_var rfl)) (ev_Ib (ev_at1 (r := .take t' s' n') (ev_var rfl)) (ev_addI (ev_at2 (n := n) (t := t) (ev_var rfl)) (ev_at3 (s := s) (t := t) (ev_var rfl))))) rfl
theorem ok__law_left (T : Tx K mg) : FnOk P w K mg base CX0 2 T.a__law_left T.d__law_left ["_law_rows", "_law_dropped"] (sp__law_left T) := by
  refine fn_r T.F__law_left sc__law_left (fun _ => rfl) (fun cdv A outer s H E hr =>
      (pss_cons (ps_setLc (i := 2) (own := [("_law_k", 5)]) rfl sc__law_left.nd rfl rfl (sw_true rfl rfl rfl (by decide +kernel)) (pi_range1 (by rfl) T.z_range (pa_cons (pe_callB (lenK (K := K) rfl) (by rfl) T.z_len (by decide +kernel) (pa_cons (pv 0) pa_nil)) pa_nil)) (blkOk_by (N := ["_law_rows", "_law_dropped", "_law_left_here", "_law_turn", "_law_kept", "_law_k", "_law_one"]) (sc := defScope s__law_left) (by decide +kernel)) (fun _ _ _ _ _ => (pg_name (i := 5) sc__law_left.nd rfl (by first | exact Or.inl rfl | exact Or.inr rfl))) (fun _ _ _ _ _ => pts_one (PW.pt (pw_and (pt_cmpR (eqK (K := K) rfl hr.units) (pe_ix (ixK (K := K) rfl) (pe_ix (ixK (K := K) rfl) (pv 0) (pv 5) (fun _ _ => rfl)) pe_int (fun _ _ => rfl)) pe_str (nomark _)) (pw_and1 (pt_cmpR (eqK (K := K) rfl hr.units) (pe_op op_and (pe_op op_shr (pv 1) (pv 5)) pe_int) pe_int (nomark _)))))) (fun _ _ _ _ _ => (pv 5)))
      (pss_cons (ps_for PassesOwn.never rfl (pi_range1 (by rfl) T.z_range (pa_cons (pe_callB (lenK (K := K) rfl) (by rfl) T.z_len (by decide +kernel) (pa_cons (pv 0) pa_nil)) pa_nil)) (pg_name (i := 3) sc__law_left.nd rfl (by first | exact Or.inl rfl | exact Or.inr rfl)) (pss_cons (ps_set (i := 4) sc__law_left.nd rfl (by first | exact Or.inl rfl | exact Or.inr rfl) (pe_lst pa_nil))
      (pss_cons (ps_for PassesOwn.never rfl (seqK (K := K) rfl (pv 2)) (pg_name (i := 5) sc__law_left.nd rfl (by first | exact Or.inl rfl | exact Or.inr rfl)) (pss_one (ps_if (pt_cmpR (neK (K := K) rfl hr.units) (pe_lc (own := [("_law_one", 6)]) rfl sc__law_left.nd (seqK (K := K) rfl (pv 2)) (blkOk_by (N := ["_law_rows", "_law_dropped", "_law_left_here", "_law_turn", "_law_kept", "_law_k", "_law_one"]) (sc := defScope s__law_left) (by decide +kernel)) (fun _ _ _ _ _ => (pg_name (i := 6) sc__law_left.nd rfl (by first | exact Or.inl rfl | exact Or.inr rfl))) (fun _ _ _ _ _ => pts_one (PW.pt (pw_and (pt_cmpR (neK (K := K) rfl hr.units) (pv 6) (pv 5) (nomark _)) (pw_and1 (pt_val (pe_call (ok__law_meets T) hr (by rfl) T.g__law_meets T.F__law_meets.kp T.b__law_meets .nil pass0 (pa_cons (pe_ix (ixK (K := K) rfl) (pv 0) (pv 6) (fun _ _ => rfl)) (pa_cons (pe_ix (ixK (K := K) rfl) (pv 0) (pv 5) (fun _ _ => rfl)) pa_nil)))))))) (fun _ _ _ _ _ => (pv 6))) (pe_lst pa_nil) (nomark _)) (pss_one (ps_expr (bmK (K := K) rfl PySem.F.plainAttrs_list PySem.F.slot_list_append PySem.F.type_list_append mt_append (pv 4) (pa_cons (pv 5) pa_nil)))) pss_nil)))
      (pss_one (ps_set (i := 2) sc__law_left.nd rfl (by first | exact Or.inl rfl | exact Or.inr rfl) (pv 4))))))
      (pss_one (ps_ret (pv 2)))))) (fun x hx => ?_)
  obtain ⟨rs, d⟩ := x
  have hl : rs.length ≤ 1000 := hx
  dsimp only
  have hspl : (span 0 (rs.length : Int)).length = rs.length := by rw [span_length]; omega
  have hll : ∀ n, (keptN rs n (leftOf rs d)).length ≤ rs.length := fun n => by
    have h1 := (keptN_sub rs n (leftOf rs d)).length_le
    have h2 : (leftOf rs d).length ≤ (span 0 (rs.length : Int)).length := List.length_filter_le ..
    omega
  refine xs_seq (xs_asg (d := .lst ((leftOf rs d).map D.int)) (EvF.v (EvF.is (ef_lc (span 0 (rs.length : Int)) D.int (fun k => (rw_ rs k).isTake && bitOff d k) D.int (rng_span _ _).symm (ei_r1 (n := (rs.length : Int)) (ea_cons (ev_lenM (f := Rw.tl) (xs := rs) (EvM.b (EvD.m (ev_var rfl)))) ea_nil) (by omega)) (by omega) (fun i k hk => ⟨_, egc_name (by decide), ?_, fun _ => ev_var rfl⟩)) rfl)) eg_name ?_)
  · have hm := mem_spanI.mp (List.mem_of_getElem? hk)
    refine et_and' (et_t (ev_isT (ev_rowAt (f := Rw.tl) (ev_var rfl) (ev_var rfl) hm.1 (by omega)))) (et_t (ev_eqI (ev_I (ev_IC (i := d) (j := k) (ev_var rfl) (ev_var rfl) hm.1) ev_ci) ev_ci))
  refine xs_seq (xs_for (ei_r1 (n := (rs.length : Int)) (ea_cons (ev_lenM (f := Rw.tl) (xs := rs) (EvM.b (EvD.m (ev_var rfl)))) ea_nil) (by omega)) (fun t ρ => ∃ v3 v4 v5 v6, ρ = [some (.sh (.lst (rs.map Rw.tl))), some (.sh (.int d)), some (.sh (.lst ((keptN rs t (leftOf rs d)).map .int))), v3, v4, v5, v6]) ⟨_, _, _, _, rfl⟩ ?_ ?_)
  · rintro t e ρ1 ht ⟨v3, v4, v5, v6, rfl⟩
    obtain ⟨ht1, rfl⟩ := rng_get ht
    have hlt := hll t
    have hml : ∀ k ∈ keptN rs t (leftOf rs d), 0 ≤ k ∧ k < (rs.length : Int) := fun k hk => ⟨(mem_left hk).1, (mem_left hk).2.1⟩
    rw [keptN_more]
    generalize keptN rs t (leftOf rs d) = L at hlt hml ⊢
    refine ⟨_, eg_name, ?_⟩
    refine xs_seq (xs_asgF (ef_lst ea_nil (by decide)) ?_)
    dsimp only
    refine xs_seq (xs_for (ei_seqL (ev_var (d := .lst (L.map .int)) rfl)) (fun j ρ => ∃ v5 v6, ρ = [some (.sh (.lst (rs.map Rw.tl))), some (.sh (.int d)), some (.sh (.lst (L.map .int))), some (.sh (.int (0 + (t : Int)))), some (.ol (((L.take j).filter fun k => !(L.filter fun one => decide (one ≠ k) && meets (rw_ rs one) (rw_ rs k)).isEmpty).map .int)), v5, v6]) ⟨_, _, rfl⟩ ?_ ?_)
    · rintro j e ρ2 hj ⟨v5, v6, rfl⟩
      rw [List.getElem?_map] at hj
      obtain ⟨k, hk, rfl⟩ := Option.map_eq_some_iff.mp hj
      have hkb := hml k (List.mem_of_getElem? hk)
      rw [take_more hk, List.filter_append, List.map_append]
      have hlen : (((L.take j).filter fun k => !(L.filter fun one => decide (one ≠ k) && meets (rw_ rs one) (rw_ rs k)).isEmpty).map D.int).length < 100000 := by
        rw [List.length_map]
        have h1 := List.length_filter_le (fun k => !(L.filter fun one => decide (one ≠ k) && meets (rw_ rs one) (rw_ rs k)).isEmpty) (L.take j)
        rw [List.length_take] at h1
        omega
      refine ⟨_, eg_name, ?_⟩
      have hft : (D.lst ((L.filter fun one => decide (one ≠ k) && meets (rw_ rs one) (rw_ rs k)).map D.int)).fit = true := (ft_ints _).fit (by decide)
      refine xs_if (b := !(L.filter fun one => decide (one ≠ k) && meets (rw_ rs one) (rw_ rs k)).isEmpty) (EvT.is (et_t (ev_neN (xs := (L.filter fun one => decide (one ≠ k) && meets (rw_ rs one) (rw_ rs k)).map D.int) (EvM.r (EvF.m (ef_lc L D.int (fun one => decide (one ≠ k) && meets (rw_ rs one) (rw_ rs k)) D.int rfl (ei_seqL (ev_var (d := .lst (L.map .int)) rfl)) (by omega) (fun i one ho => ⟨_, egc_name (by decide), ?_, fun _ => ev_var rfl⟩)))) (EvM.r (EvF.m (ef_lst ea_nil (by decide)))) hft)) ?_) (fun hb => ?_) (fun hb => ?_)
      · have hob := hml one (List.mem_of_getElem? ho)
        refine EvT.is (et_and' (et_t (ev_neI (i := one) (j := k) (ev_var rfl) (ev_var rfl))) (et_t (ev_meets (ev_rowAt (f := Rw.tl) (ev_var rfl) (ev_var rfl) hob.1 hob.2) (ev_rowAt (f := Rw.tl) (ev_var rfl) (ev_var rfl) hkb.1 hkb.2)))) ?_
        congr 1
        simp
      · cases (L.filter fun one => decide (one ≠ k) && meets (rw_ rs one) (rw_ rs k)) <;> rfl
      · refine xs_app rfl (d := .int k) (ev_var rfl) hlen ?_
        rw [List.filter_cons_of_pos (p := fun k => !(L.filter fun one => decide (one ≠ k) && meets (rw_ rs one) (rw_ rs k)).isEmpty) hb]
        exact ⟨_, _, rfl⟩
      · rw [List.filter_cons_of_neg (p := fun k => !(L.filter fun one => decide (one ≠ k) && meets (rw_ rs one) (rw_ rs k)).isEmpty) (by rw [hb]; decide), List.filter_nil, List.map_nil, List.append_nil]
        exact xs_next ⟨_, _, rfl⟩
    rintro ρ2 ⟨v5, v6, rfl⟩
    rw [List.length_map, List.take_length]
    refine xs_fz 4 rfl ?_
    refine xs_asg (ev_var rfl) eg_name ?_
    exact ⟨_, _, _, _, rfl⟩
  · rintro ρ1 ⟨v3, v4, v5, v6, rfl⟩
    rw [rng_length, show ((rs.length : Int)).toNat = rs.length from rfl]
    exact xs_ret (ev_var rfl) rfl
theorem ok__law_shuffled (T : Tx K mg) : FnOk P w K mg base CX0 1 T.a__law_shuffled T.d__law_shuffled ["_law_ring", "_law_cell"] (sp__law_shuffled T) := by
  refine fn_f T.F__law_shuffled sc__law_shuffled (fun _ => rfl) (fun cdv A outer s H E hr =>
      (pss_cons (ps_set (i := 2) sc__law_shuffled.nd rfl (by first | exact Or.inl rfl | exact Or.inr rfl) (pe_callTy (listK (K := K) rfl) (by rfl) T.z_list (by decide +kernel) (pa_cons (pv 0) pa_nil)))
      (pss_cons (ps_set (i := 3) sc__law_shuffled.nd rfl (by first | exact Or.inl rfl | exact Or.inr rfl) (pe_lst pa_nil))
      (pss_cons (ps_for PassesOwn.never rfl (pi_range1 (by rfl) T.z_range (pa_cons (pe_callB (lenK (K := K) rfl) (by rfl) T.z_len (by decide +kernel) (pa_cons (pv 0) pa_nil)) pa_nil)) (pg_name (i := 4) sc__law_shuffled.nd rfl (by first | exact Or.inl rfl | exact Or.inr rfl)) (pss_cons (ps_set (i := 5) sc__law_shuffled.nd rfl (by first | exact Or.inl rfl | exact Or.inr rfl) (pe_callB (lenK (K := K) rfl) (by rfl) T.z_len (by decide +kernel) (pa_cons (pv 2) pa_nil)))
      (pss_cons (ps_expr (bmK (K := K) rfl PySem.F.plainAttrs_list PySem.F.slot_list_append PySem.F.type_list_append mt_append (pv 3) (pa_cons (bmK (K := K) rfl PySem.F.plainAttrs_list PySem.F.slot_list_pop PySem.F.type_list_pop mt_popAt (pv 2) (pa_cons (pe_op op_mod (pv 1) (pv 5)) pa_nil)) pa_nil)))
      (pss_one (ps_set (i := 1) sc__law_shuffled.nd rfl (by first | exact Or.inl rfl | exact Or.inr rfl) (pe_op op_fdivW (pv 1) (pv 5)))))))
      (pss_one (ps_ret (pv 3))))))) (fun x hx => ?_)
  obtain ⟨rg, c⟩ := x
  have hl : rg.length ≤ 1000 := hx
  dsimp only
  refine xs_seq (xs_asgF (ef_listL (EvM.b (EvD.m (ev_var (d := .lst (rg.map .int)) rfl)))) ?_)
  refine xs_seq (xs_asgF (ef_lst ea_nil (by decide)) ?_)
  dsimp only
  refine xs_seq (xs_for (ei_r1 (n := (rg.length : Int)) (ea_cons (ev_lenM (f := D.int) (xs := rg) (EvM.b (EvD.m (ev_var rfl)))) ea_nil) (by omega)) (fun k ρ => ∃ (rest told : List Int) (cc : Int) (v4 v5 : Option SV), rest.length + k = rg.length ∧ told.length = k ∧ told ++ shuf rest.length rest cc = shuf rg.length rg c ∧ ρ = [some (.sh (.lst (rg.map .int))), some (.sh (.int cc)), some (.ol (rest.map .int)), some (.ol (told.map .int)), v4, v5]) ⟨rg, [], c, _, _, rfl, rfl, rfl, rfl⟩ ?_ ?_)
  · rintro k e ρ1 hk ⟨rest, told, cc, v4, v5, h1, h2, h3, rfl⟩
    obtain ⟨hk1, rfl⟩ := rng_get hk
    have hk2 : k < rg.length := by omega
    have hpos : 0 < (rest.length : Int) := by omega
    have hm1 := Int.emod_nonneg cc (show (rest.length : Int) ≠ 0 by omega)
    have hm2 := Int.emod_lt_of_pos cc hpos
    have hlt : (cc % (rest.length : Int)).toNat < rest.length := by omega
    refine ⟨_, eg_name, ?_⟩
    refine xs_seq (xs_asg (ev_lenM (f := D.int) (xs := rest) (EvM.b (em_var rfl))) eg_name ?_)
    dsimp only
    refine xs_seq (xs_appPop (i := 3) (j := 2) (k := cc % (rest.length : Int)) (n := (cc % (rest.length : Int)).toNat) (d := .int (rest.getD (cc % (rest.length : Int)).toNat 0)) (ds := told.map .int) (es := rest.map .int) (by decide) rfl rfl (ev_IC (i := cc) (j := (rest.length : Int)) (ev_var rfl) (ev_var rfl) (by omega)) ⟨by omega, by omega⟩ ?_ ?_ (by rw [List.length_map, h2]; exact Nat.lt_of_lt_of_le hk2 (Nat.le_trans hl (by decide))) ?_)
    · exact (ixN_seq (by
        unfold ixN
        rw [if_pos hm1, if_pos (by rw [List.length_map]; exact hm2)])).1
    · rw [List.getElem?_map, List.getD_eq_getElem?_getD, List.getElem?_eq_getElem hlt]
      rfl
    dsimp only
    refine xs_asg (ev_IC (i := cc) (j := (rest.length : Int)) (ev_var rfl) (ev_var rfl) (divW_c hpos (by omega))) eg_name ?_
    refine ⟨rest.eraseIdx (cc % (rest.length : Int)).toNat, told ++ [rest.getD (cc % (rest.length : Int)).toNat 0], cc / (rest.length : Int), some (.sh (.int (0 + (k : Int)))), some (.sh (.int (rest.length : Int))), ?_, ?_, ?_, ?_⟩
    · rw [List.length_eraseIdx, if_pos hlt]
      omega
    · rw [List.length_append, h2]
      rfl
    · rw [← h3, List.append_assoc]
      congr 1
      rw [List.length_eraseIdx, if_pos hlt]
      obtain ⟨m, hm⟩ : ∃ m, rest.length = m + 1 := ⟨rest.length - 1, by omega⟩
      have e : shuf rest.length rest cc = rest.getD (cc % (rest.length : Int)).toNat 0 :: shuf m (rest.eraseIdx (cc % (rest.length : Int)).toNat) (cc / (rest.length : Int)) := by
        conv => lhs; arg 1; rw [hm]
        rfl
      rw [e, show rest.length - 1 = m by omega]
      rfl
    · rw [List.map_append, map_erase]
      rfl
  · rintro ρ1 ⟨rest, told, cc, v4, v5, h1, h2, h3, rfl⟩
    rw [rng_length] at h1 h2
    have h0 : rest = [] := List.eq_nil_of_length_eq_zero (by omega)
    subst h0
    refine xs_retV rfl ?_
    dsimp only
    rw [← h3]
    show _ = List.map D.int (told ++ [])
    rw [List.append_nil]
theorem ok__law_late (T : Tx K mg) : FnOk P w K mg base CX0 2 T.a__law_late T.d__law_late ["_law_row_here", "_law_rows"] (sp__law_late T) := by
  refine fn_r T.F__law_late sc__law_late (fun _ => rfl) (fun cdv A outer s H E hr =>
      (pss_cons (ps_for PassesOwn.never rfl (pi_range1 (by rfl) T.z_range (pa_cons (pe_callB (lenK (K := K) rfl) (by rfl) T.z_len (by decide +kernel) (pa_cons (pv 0) pa_nil)) pa_nil)) (pg_name (i := 2) sc__law_late.nd rfl (by first | exact Or.inl rfl | exact Or.inr rfl)) (pss_one (ps_if (pt_cmpR (neK (K := K) rfl hr.units) (pe_lc (own := [("_law_one", 3)]) rfl sc__law_late.nd (seqK (K := K) rfl (pe_slice (slK (K := K) rfl) (pv 0) po_none (po_some (pv 2)))) (blkOk_by (N := ["_law_row_here", "_law_rows", "_law_k", "_law_one"]) (sc := defScope s__law_late) (by decide +kernel)) (fun _ _ _ _ _ => (pg_name (i := 3) sc__law_late.nd rfl (by first | exact Or.inl rfl | exact Or.inr rfl))) (fun _ _ _ _ _ => pts_one (pt_val (pe_call (ok__law_meets T) hr (by rfl) T.g__law_meets T.F__law_meets.kp T.b__law_meets .nil pass0 (pa_cons (pe_ix (ixK (K := K) rfl) (pv 1) (pe_ix (ixK (K := K) rfl) (pv 0) (pv 2) (fun _ _ => rfl)) (fun _ _ => rfl)) (pa_cons (pe_ix (ixK (K := K) rfl) (pv 1) (pv 3) (fun _ _ => rfl)) pa_nil))))) (fun _ _ _ _ _ => (pv 3))) (pe_lst pa_nil) (nomark _)) (pss_one (ps_ret pe_bl)) pss_nil)))
      (pss_one (ps_ret pe_bl)))) (fun x hx => ?_)
  obtain ⟨o, rs⟩ := x
  obtain ⟨hl, hb⟩ := hx
  dsimp only at hl hb ⊢
  refine xs_seq (xs_for (ei_r1 (n := (o.length : Int)) (ea_cons (ev_lenM (f := D.int) (xs := o) (EvM.b (EvD.m (ev_var rfl)))) ea_nil) (by omega)) (fun k ρ => (List.range k).any (lateAt rs o) = false ∧ ∃ v2 v3, ρ = [some (.sh (.lst (o.map .int))), some (.sh (.lst (rs.map Rw.tl))), v2, v3]) ⟨rfl, _, _, rfl⟩ ?_ ?_)
  · rintro k e ρ1 hk ⟨h1, v2, v3, rfl⟩
    obtain ⟨hk1, rfl⟩ := rng_get hk
    have hkl : k < o.length := by omega
    have hko := hb (o.getD k 0) (by rw [List.getD_eq_getElem?_getD, List.getElem?_eq_getElem hkl]; exact List.getElem_mem _)
    refine ⟨_, eg_name, ?_⟩
    have hft : (D.lst (((o.take k).filter fun one => meets (rw_ rs (o.getD k 0)) (rw_ rs one)).map D.int)).fit = true := (ft_ints _).fit (by decide)
    have hcut : cutD (o.map D.int) none (some (0 + (k : Int))) = (o.take k).map D.int := by
      rw [Int.zero_add, cutD_map]
      congr 1
      exact cut_to o k
    refine xs_if (b := lateAt rs o k) (EvT.is (et_t (ev_neN (xs := ((o.take k).filter fun one => meets (rw_ rs (o.getD k 0)) (rw_ rs one)).map D.int) (EvM.r (EvF.m (ef_lc (o.take k) D.int (fun one => meets (rw_ rs (o.getD k 0)) (rw_ rs one)) D.int rfl (ei_seqL (EvF.v (EvF.is (ef_slL (EvM.b (EvD.m (ev_var (d := .lst (o.map .int)) rfl))) eo_none (eo_some (ev_var rfl))) hcut))) (by rw [List.length_take]; omega) (fun i one ho => ⟨_, egc_name (by decide), ?_, fun _ => ev_var rfl⟩)))) (EvM.r (EvF.m (ef_lst ea_nil (by decide)))) hft)) ?_) (fun hb => ?_) (fun hb => ?_)
    · have hob := hb one (List.mem_of_mem_take (List.mem_of_getElem? ho))
      refine et_t (ev_meets (ev_rowAt (k := o.getD k 0) (f := Rw.tl) (ev_var rfl) (ev_ixl (ds := o.map D.int) (EvM.b (EvD.m (ev_var rfl))) (ev_var rfl) ?_) hko.1 hko.2) (ev_rowAt (f := Rw.tl) (ev_var rfl) (ev_var rfl) hob.1 hob.2))
      rw [Int.zero_add, atI_int (by omega) (by omega)]
      rfl
    · unfold lateAt
      cases ((o.take k).filter fun one => meets (rw_ rs (o.getD k 0)) (rw_ rs one)) <;> rfl
    · refine xs_ret ev_cb ?_
      show D.bl true = D.bl (lateF rs o)
      congr 1
      symm
      unfold lateF
      rw [List.any_eq_true]
      exact ⟨k, List.mem_range.mpr hkl, hb⟩
    · refine xs_next ⟨?_, _, _, rfl⟩
      rw [List.range_succ, List.any_append, h1]
      show (lateAt rs o k || false) = false
      rw [hb]
      rfl
  · rintro ρ1 ⟨h1, v2, v3, rfl⟩
    rw [rng_length] at h1
    exact xs_ret ev_cb (congrArg D.bl h1.symm)
theorem ok_ring_of (T : Tx K mg) : FnOk P w K mg base CX0 5 T.a_ring_of T.d_ring_of ["rows", "left"] (sp_ring_of T) := by
  refine fn_f T.F_ring_of sc_ring_of (fun _ => rfl) (fun cdv A outer s H E hr =>
      (pss_cons (ps_set (i := 2) sc_ring_of.nd rfl (by first | exact Or.inl rfl | exact Or.inr rfl) (pe_call (ok_spoils T) hr (by rfl) T.g_spoils T.F_spoils.kp T.b_spoils .nil pass0 (pa_cons (pv 0) pa_nil)))
      (pss_cons (ps_set (i := 3) sc_ring_of.nd rfl (by first | exact Or.inl rfl | exact Or.inr rfl) (pe_lst (pa_cons (pe_ix (ixK (K := K) rfl) (pv 1) pe_int (fun _ _ => rfl)) pa_nil)))
      (pss_one (ps_while PassesOwn.never (pt_val pe_bl) (pss_cons (ps_set (i := 4) sc_ring_of.nd rfl (by first | exact Or.inl rfl | exact Or.inr rfl) (pe_ix (ixK (K := K) rfl) (pe_lc (own := [("k", 5)]) rfl sc_ring_of.nd (seqK (K := K) rfl (pe_ix (ixK (K := K) rfl) (pv 2) (pe_ix (ixK (K := K) rfl) (pv 3) (pe_un un_neg pe_int) (fun _ _ => rfl)) (fun _ _ => rfl))) (blkOk_by (N := ["rows", "left", "table", "way", "reader", "k"]) (sc := defScope s_ring_of) (by decide +kernel)) (fun _ _ _ _ _ => (pg_name (i := 5) sc_ring_of.nd rfl (by first | exact Or.inl rfl | exact Or.inr rfl))) (fun _ _ _ _ _ => pts_one (pt_cmpR (inK (K := K) rfl (hu65 hr)) (pv 5) (pv 1) rfl)) (fun _ _ _ _ _ => (pv 5))) pe_int (fun _ _ => rfl)))
      (pss_cons (ps_if (pt_cmpR (inK (K := K) rfl (hu65 hr)) (pv 4) (pv 3) rfl) (pss_one (ps_ret (listRevK (K := K) rfl (by rfl) T.z_list (by rfl) T.z_reversed (pe_slice (slK (K := K) rfl) (pv 3) (po_some (bmK (K := K) rfl PySem.F.plainAttrs_list PySem.F.slot_list_index PySem.F.type_list_index (indexK (K := K) rfl) (pv 3) (pa_cons (pv 4) pa_nil))) po_none)))) pss_nil)
      (pss_one (ps_expr (bmK (K := K) rfl PySem.F.plainAttrs_list PySem.F.slot_list_append PySem.F.type_list_append mt_append (pv 3) (pa_cons (pv 4) pa_nil))))))))))) (fun x hx => ?_)
  obtain ⟨rs, L⟩ := x
  obtain ⟨hz, hl, hc, hn⟩ := hx
  dsimp only at hz hl hc hn ⊢
  have hz1 : ∀ r ∈ rs, 1 ≤ r.size := fun r hr => (hz r hr).1
  have hLl : L.length ≤ rs.length := by
    have := nodup_len_le (xs := L) (ys := span 0 (rs.length : Int)) hc.1 fun k hk => mem_spanI.mpr ⟨(hc.2 k hk).1, by have := (hc.2 k hk).2.1; omega⟩
    rw [span_length] at this
    omega
  have hLp := List.length_pos_iff.mpr hn
  refine xs_seq (xs_asgN (en_call (x := rs) (ea_cons (ev_var rfl) ea_nil) ⟨fun r hr => (hz r hr).2, hl⟩) ?_)
  dsimp only
  refine xs_frz 2 rfl (llO_frz _) ?_
  rw [llO_toD]
  refine xs_seq (xs_asgF (ef_lst (ea_cons (ev_ixl (ds := L.map D.int) (d := .int (L.headD 0)) (EvM.b (EvD.m (ev_var rfl))) ev_ci (atI_nat (by
    cases L with
    | nil => exact absurd rfl hn
    | cons y ys => rfl))) ea_nil) (Nat.le_of_ble_eq_true rfl)) ?_)
  dsimp only
  refine xs_while (fun m ρ => ∃ (way : List Int) (v4 v5 : Option SV), Way (nxt rs L) L way ∧ m + way.length = L.length + 1 ∧ ringFrom (nxt rs L) m way = ringOf rs L ∧ ρ = [some (.sh (.lst (rs.map (Rw.ob T)))), some (.sh (.lst (L.map .int))), some (.sh (.lst ((llI (spoilsOf rs)).map .lst))), some (.ol (way.map .int)), v4, v5]) L.length ⟨[L.headD 0], _, _, Way.one (headD_mem hn), rfl, rfl, rfl⟩ ?_
  rintro m ρ1 ⟨way, v4, v5, hw, hm, hr, rfl⟩
  refine ⟨true, et_t ev_cb, fun _ => ?_, fun z => nomatch z⟩
  have hwl := nodup_len_le hw.nd hw.inL
  have hlL : way.getLastD 0 ∈ L := hw.inL _ (List.mem_of_getElem? hw.last)
  have hlb := hc.2 _ hlL
  have hnx := nxt_ok hz1 hc hlL
  match m, hm with
  | 0, hm => exact absurd hm (by omega)
  | m + 1, hm =>
  have hix : atI ((llI (spoilsOf rs)).map D.lst) (way.getLastD 0) = some (.lst ((spoilt rs (way.getLastD 0).toNat).map .int)) := by
    rw [show way.getLastD 0 = (((way.getLastD 0).toNat : Nat) : Int) by omega]
    refine atI_nat ?_
    rw [Int.toNat_natCast]
    unfold llI
    rw [List.getElem?_map, List.getElem?_map, spoilsOf_get (by omega)]
    rfl
  have hspl := spoilt_len rs (way.getLastD 0).toNat
  refine xs_seq (xs_asg (d := .int (nxt rs L (way.getLastD 0))) (ev_ixl (ds := (readers rs L (way.getLastD 0)).map D.int) (EvF.b (ef_lc (spoilt rs (way.getLastD 0).toNat) D.int (fun j => decide (j ∈ L)) D.int rfl (ei_seqL (ev_ixl (ds := (llI (spoilsOf rs)).map D.lst) (EvM.b (EvD.m (ev_var rfl))) (ev_ixl (ds := way.map D.int) (EvM.b (em_var rfl)) (EvD.is (ev_U ev_ci) rfl) (atI_lastD hw.ne)) hix)) (by omega) (fun i j _ => ⟨_, egc_name (by decide), et_t (ev_inI (ev_var rfl) (EvM.b (EvD.m (ev_var rfl)))), fun _ => ev_var rfl⟩))) ev_ci (atI_nat (by rw [List.getElem?_map, hnx.1]; rfl))) eg_name ?_)
  dsimp only
  refine xs_seq (xs_if (b := decide (nxt rs L (way.getLastD 0) ∈ way)) (et_t (ev_inI (ev_var rfl) (EvM.b (em_var rfl)))) (fun hb => ?_) (fun hb => xs_next ?_))
  · have hb := of_decide_eq_true hb
    refine xs_retF (EvF.is (ef_listRev (ds := (way.drop (way.idxOf (nxt rs L (way.getLastD 0)))).map D.int) (EvF.b (EvF.is (ef_slL (EvM.b (em_var (ds := way.map .int) rfl)) (eo_some (ev_index (EvM.b (em_var (ds := way.map .int) rfl)) (ev_var rfl) hb)) eo_none) ?_))) ?_) rfl
    · rw [cutD_map]
      congr 1
      exact cut_from way _
    · rw [← hr]
      unfold ringFrom
      rw [if_pos hb, List.map_reverse]
  · have hb := of_decide_eq_false hb
    refine xs_app rfl (d := .int (nxt rs L (way.getLastD 0))) (ev_var rfl) (by rw [List.length_map]; omega) ?_
    refine ⟨m, Nat.lt_succ_self _, way ++ [nxt rs L (way.getLastD 0)], some (.sh (.int (nxt rs L (way.getLastD 0)))), v5, hw.more hb hnx.2.1, ?_, ?_, ?_⟩
    · rw [List.length_append, List.length_singleton]
      omega
    · rw [← hr]
      conv => rhs; unfold ringFrom
      rw [if_neg hb]
    · rw [List.map_append]
      rfl
theorem ok_law (T : Tx K mg) : FnOk P w K mg base CX0 6 T.a_law T.d_law ["_law_script"] (sp_law T) := by
  refine fn_r T.F_law sc_law (fun _ => rfl) (fun cdv A outer s H E hr =>
      (pss_cons (ps_setLc (i := 1) (own := [("_law_k", 6)]) rfl sc_law.nd rfl rfl (sw_true rfl rfl rfl (by decide +kernel)) (pi_range1 (by rfl) T.z_range (pa_cons (pe_callB (lenK (K := K) rfl) (by rfl) T.z_len (by decide +kernel) (pa_cons (pe_slice (slK (K := K) rfl) (pv 0) po_none (po_some pe_int)) pa_nil)) pa_nil)) (blkOk_by (N := ["_law_script", "_law_rows", "_law_left_here", "_law_some", "_law_handed", "_law_ring", "_law_k", "_law_kept", "_law_row_here"]) (sc := defScope s_law) (by decide +kernel)) (fun _ _ _ _ _ => (pg_name (i := 6) sc_law.nd rfl (by first | exact Or.inl rfl | exact Or.inr rfl))) (fun _ _ _ _ _ => pts_nil) (fun _ _ _ _ _ => (pe_call (ok__law_row T) (hr.mono (by decide)) (by rfl) T.g__law_row T.F__law_row.kp T.b__law_row .nil pass0 (pa_cons (pe_ix (ixK (K := K) rfl) (pv 0) (pv 6) (fun _ _ => rfl)) (pa_cons (pv 6) pa_nil)))))
      (pss_cons (ps_set (i := 2) sc_law.nd rfl (by first | exact Or.inl rfl | exact Or.inr rfl) (pe_call (ok__law_left T) (hr.mono (by decide)) (by rfl) T.g__law_left T.F__law_left.kp T.b__law_left .nil pass0 (pa_cons (pv 1) (pa_cons (pe_op op_mulA (pe_op op_fdivW (pe_callB (sumK (K := K) rfl rfl) (by rfl) T.z_sum (by decide +kernel) (pa_cons (pe_slice (slK (K := K) rfl) (pv 0) (po_some pe_int) (po_some pe_int)) pa_nil)) pe_int) (pe_op op_mod (pe_callB (sumK (K := K) rfl rfl) (by rfl) T.z_sum (by decide +kernel) (pa_cons (pe_slice (slK (K := K) rfl) (pv 0) (po_some pe_int) (po_some pe_int)) pa_nil)) pe_int)) pa_nil))))
      (pss_cons (ps_if (pt_cmpR (eqK (K := K) rfl hr.units) (pv 2) (pe_lst pa_nil) (nomark _)) (pss_one (ps_ret pe_bl)) pss_nil)
      (pss_cons (ps_setLc (i := 3) (own := [("_law_row_here", 8)]) rfl sc_law.nd rfl rfl (sw_true rfl rfl rfl (by decide +kernel)) (seqK (K := K) rfl (pv 1)) (blkOk_by (N := ["_law_script", "_law_rows", "_law_left_here", "_law_some", "_law_handed", "_law_ring", "_law_k", "_law_kept", "_law_row_here"]) (sc := defScope s_law) (by decide +kernel)) (fun _ _ _ _ _ => (pg_name (i := 8) sc_law.nd rfl (by first | exact Or.inl rfl | exact Or.inr rfl))) (fun _ _ _ _ _ => pts_nil) (fun _ _ _ _ _ => (pe_call (ok_row_of T) hr (by rfl) T.g_row_of T.F_row_of.kp T.b_row_of .nil pass0 (pa_cons (pv 8) pa_nil))))
      (pss_cons (ps_set (i := 4) sc_law.nd rfl (by first | exact Or.inl rfl | exact Or.inr rfl) (pe_callTy (listK (K := K) rfl) (by rfl) T.z_list (by decide +kernel) (pa_cons (pv 2) pa_nil)))
      (pss_cons (ps_set (i := 5) sc_law.nd rfl (by first | exact Or.inl rfl | exact Or.inr rfl) (pe_call (ok_ring_of T) hr (by rfl) T.g_ring_of T.F_ring_of.kp T.b_ring_of .nil pass0 (pa_cons (pv 3) (pa_cons (pv 4) pa_nil))))
      (pss_cons (ps_if (PW.pt (pw_or (pt_not (pt_val (pe_callB (isiK (K := K) rfl) (by rfl) T.z_isinstance (by decide +kernel) (pa_cons (pv 5) (pa_cons (pe_bltn (v := .ty "list") (by rfl) T.z_list (by decide +kernel) rfl) pa_nil))))) (pw_or (pt_cmpR op_lt (pe_callB (lenK (K := K) rfl) (by rfl) T.z_len (by decide +kernel) (pa_cons (pv 5) pa_nil)) pe_int (nomark _)) (pw_or (pt_cmpR (neK (K := K) rfl hr.units) (lenSetK (K := K) rfl (by rfl) T.z_len (by rfl) T.z_set (pv 5)) (pe_callB (lenK (K := K) rfl) (by rfl) T.z_len (by decide +kernel) (pa_cons (pv 5) pa_nil)) (nomark _)) (pw_or1 (pt_cmpR (neK (K := K) rfl hr.units) (pv 4) (pv 2) (nomark _))))))) (pss_one (ps_ret pe_bl)) pss_nil)
      (pss_cons (ps_for PassesOwn.never rfl (pi_range1 (by rfl) T.z_range (pa_cons (pe_callB (lenK (K := K) rfl) (by rfl) T.z_len (by decide +kernel) (pa_cons (pv 5) pa_nil)) pa_nil)) (pg_name (i := 6) sc_law.nd rfl (by first | exact Or.inl rfl | exact Or.inr rfl)) (pss_one (ps_if (PW.pt (pw_or (pt_cmpR (notInK (K := K) rfl (hu65 hr)) (pe_ix (ixK (K := K) rfl) (pv 5) (pe_op op_sub (pv 6) pe_int) (fun _ _ => rfl)) (pv 2) rfl) (pw_or1 (pt_not (pt_val (pe_call (ok__law_meets T) (hr.mono (by decide)) (by rfl) T.g__law_meets T.F__law_meets.kp T.b__law_meets .nil pass0 (pa_cons (pe_ix (ixK (K := K) rfl) (pv 1) (pe_ix (ixK (K := K) rfl) (pv 5) (pe_op op_sub (pv 6) pe_int) (fun _ _ => rfl)) (fun _ _ => rfl)) (pa_cons (pe_ix (ixK (K := K) rfl) (pv 1) (pe_ix (ixK (K := K) rfl) (pv 5) (pv 6) (fun _ _ => rfl)) (fun _ _ => rfl)) pa_nil)))))))) (pss_one (ps_ret pe_bl)) pss_nil)))
      (pss_cons (ps_set (i := 7) sc_law.nd rfl (by first | exact Or.inl rfl | exact Or.inr rfl) (pe_callTy (listK (K := K) rfl) (by rfl) T.z_list (by decide +kernel) (pa_cons (pv 5) pa_nil)))
      (pss_cons (ps_expr (bm0K (K := K) rfl PySem.F.plainAttrs_list PySem.F.slot_list_clear PySem.F.type_list_clear mt_clear (pv 5)))
      (pss_one (ps_ret (pe_and (pe_cmpR (eqK (K := K) rfl hr.units) (pe_call (ok_ring_of T) hr (by rfl) T.g_ring_of T.F_ring_of.kp T.b_ring_of .nil pass0 (pa_cons (pv 3) (pa_cons (pv 4) pa_nil))) (pv 7) (nomark _)) (pe_one (pe_call (ok__law_late T) (hr.mono (by decide)) (by rfl) T.g__law_late T.F__law_late.kp T.b__law_late .nil pass0 (pa_cons (pe_call (ok__law_shuffled T) (hr.mono (by decide)) (by rfl) T.g__law_shuffled T.F__law_shuffled.kp T.b__law_shuffled .nil pass0 (pa_cons (pv 7) (pa_cons (pe_callB (sumK (K := K) rfl rfl) (by rfl) T.z_sum (by decide +kernel) (pa_cons (pe_slice (slK (K := K) rfl) (pv 0) (po_some pe_int) po_none) pa_nil)) pa_nil))) (pa_cons (pv 1) pa_nil)))))))))))))))))) (fun x hx => ?_)
  have ecut : cutD (x.map D.int) none (some 24) = (x.take 24).map D.int := by
    rw [cutD_map]
    congr 1
    exact cut_to x 24
  have ecut3 : cutD (x.map D.int) (some 25) none = (x.drop 25).map D.int := by
    rw [cutD_map]
    congr 1
    exact cut_from x 25
  have ecut2 : cutD (x.map D.int) (some 24) (some 25) = ((x.take 25).drop 24).map D.int := by
    rw [cutD_map]
    congr 1
    exact cut_mid x 24 25
  have hrl : ((rowsOf x).length : Int) ≤ 24 := by
    unfold rowsOf
    rw [List.length_map, span_length, List.length_take]
    omega
  have hrf : ∀ r ∈ rowsOf x, r.good ∧ 1 ≤ r.size ∧ r.size ≤ 9 := by
    intro r hr
    obtain ⟨k, _, rfl⟩ := List.mem_map.mp hr
    exact rowK_fine _ _
  have hrdef : rowsOf x = (span 0 ((x.take 24).length : Int)).map fun k => rowK (x.getD k.toNat 0) k := rfl
  have hll : (x.take 24).length ≤ 24 ∧ (x.take 24).length ≤ x.length := by rw [List.length_take]; omega
  refine xs_seq (xs_asg (d := .lst ((rowsOf x).map Rw.tl)) (EvF.v (EvF.is (ef_lcR (a := 0) (n := ((x.take 24).length : Int)) (w := fun k => (rowK (x.getD k.toNat 0) k).tl) (ei_r1 (n := ((x.take 24).length : Int)) (ea_cons (ev_lenM (EvF.b (EvF.is (by walk_at "dl ev") ecut))) ea_nil) (by omega)) rfl (by omega) (fun k h1 h2 => ⟨_, egc_name (by decide), ev_call (x := (x.getD k.toNat 0, k)) (ea_cons (ev_ixl (ds := x.map D.int) (by walk_at "dl ev") (by walk_at "dl ev") (atI_int (by omega) (by omega))) (by walk_at "dl ev")) ⟨h1, show k ≤ 1000 by omega⟩⟩)) (by rw [hrdef, List.map_map]; rfl))) eg_name ?_)
  generalize rowsOf x = rs at hrl hrf
  have hz1 : ∀ r ∈ rs, 1 ≤ r.size := fun r hr => (hrf r hr).2.1
  have hz2 : ∀ r ∈ rs, 1 ≤ r.size ∧ r.size ≤ 1000 := fun r hr => by have := hrf r hr; omega
  obtain ⟨dr, hdr⟩ : ∃ dr, dr = ((x.take 25).drop 24).sum / 2 * (((x.take 25).drop 24).sum % 2) := ⟨_, rfl⟩
  refine xs_seq (xs_asg (ev_call (x := (rs, dr)) (ea_cons (ev_var rfl) (ea_cons (EvD.is (ev_mulI (ev_IC (i := ((x.take 25).drop 24).sum) (j := 2) (ev_sum (EvF.b (EvF.is (ef_slL (EvD.s (ev_var rfl)) (eo_some ev_ci) (eo_some ev_ci)) ecut2))) ev_ci (divW_c (by decide) (by decide))) (ev_IC (i := ((x.take 25).drop 24).sum) (j := 2) (ev_sum (EvF.b (EvF.is (ef_slL (EvD.s (ev_var rfl)) (eo_some ev_ci) (eo_some ev_ci)) ecut2))) ev_ci (by decide)) (mulW_r (by omega) (by omega))) (by rw [hdr])) ea_nil)) (show rs.length ≤ 1000 by omega)) eg_name ?_)
  have hc := closed_left rs dr
  have hLl : (keptN rs rs.length (leftOf rs dr)).length ≤ rs.length := by
    have := nodup_len_le (xs := keptN rs rs.length (leftOf rs dr)) (ys := span 0 (rs.length : Int)) hc.1 fun k hk => mem_spanI.mpr ⟨(hc.2 k hk).1, by have := (hc.2 k hk).2.1; omega⟩
    rw [span_length] at this
    omega
  dsimp only
  generalize keptN rs rs.length (leftOf rs dr) = L at hc hLl
  have hft : (D.lst (L.map D.int)).fit = true := (ft_ints _).fit (by decide)
  refine xs_seq (xs_if (b := (L.map D.int).isEmpty) (et_t (ev_eqN (xs := L.map D.int) (EvD.r (ev_var rfl)) (EvM.r (EvF.m (ef_lst ea_nil (by decide)))) hft)) (fun h => xs_ret ev_cb rfl) (fun h => xs_next ?_))
  have hn : L ≠ [] := fun z => by
    rw [z] at h
    cases h
  have hg := ringOf_ring hz1 hc hn
  have hpre : (∀ r ∈ rs, 1 ≤ r.size ∧ r.size ≤ 1000) ∧ rs.length ≤ 1000 ∧ Closed rs L ∧ L ≠ [] := ⟨hz2, by omega, hc, hn⟩
  have hrgl : (ringOf rs L).length ≤ L.length := nodup_len_le hg.nd hg.inL
  refine xs_seq (xs_asg (d := .lst (rs.map (Rw.ob T))) (EvF.v (ef_lc0 rs Rw.tl (Rw.ob T) rfl (by walk_at "dl ev") (by omega) (fun k r hk => ⟨_, egc_name (by decide), ev_row_of (T := T) (r := r) (by walk_at "dl ev") (hrf r (List.mem_of_getElem? hk)).1⟩))) eg_name ?_)
  refine xs_seq (xs_asg (EvF.v (ef_listL (ds := L.map D.int) (EvM.b (EvD.m (ev_var rfl))))) eg_name ?_)
  refine xs_seq (xs_asgF (ef_call (x := (rs, L)) (ea_cons (ev_var rfl) (ea_cons (ev_var rfl) ea_nil)) hpre) ?_)
  dsimp only
  have hrdet : ringOf rs L = ringOf rs L := rfl
  generalize hrg : ringOf rs L = rg at hg hrgl ⊢
  have h2 := hg.two
  refine xs_seq (xs_no (b := false) (et_orF (et_not (et_t (isi_lst_list (EvM.r (em_var (ds := rg.map .int) rfl))))) (et_orF (et_t ((ev_Ib (i := (rg.length : Int)) (j := 2) (ev_lenM (f := D.int) (xs := rg) (EvM.b (em_var rfl))) ev_ci).is (congrArg D.bl (decide_eq_false (by omega))))) (et_orF (et_t ((ev_neI (i := (rg.length : Int)) (j := (rg.length : Int)) (ev_lenSet (xs := rg) (EvM.b (em_var rfl)) hg.nd (by omega)) (ev_lenM (f := D.int) (xs := rg) (EvM.b (em_var rfl)))).is (by simp))) (et_t (ev_neX (d := .lst (L.map D.int)) (EvD.r (ev_var rfl)) (EvD.r (ev_var rfl)) hft))))) rfl ?_)
  refine xs_seq (xs_for (ei_r1 (n := (rg.length : Int)) (ea_cons (ev_lenM (f := D.int) (xs := rg) (EvM.b (em_var rfl))) ea_nil) (by omega)) (fun k ρ => ∃ v6 v7 v8, ρ = [some (.sh (.scr (x.map .int))), some (.sh (.lst (rs.map Rw.tl))), some (.sh (.lst (L.map .int))), some (.sh (.lst (rs.map (Rw.ob T)))), some (.sh (.lst (L.map .int))), some (.ol (rg.map .int)), v6, v7, v8]) ⟨_, _, _, rfl⟩ ?_ ?_)
  · rintro k e ρ1 hk ⟨v6, v7, v8, rfl⟩
    obtain ⟨hk1, rfl⟩ := rng_get hk
    have hkl : k < rg.length := by omega
    have hgk : rg[k]? = some rg[k] := List.getElem?_eq_getElem hkl
    have hkL := hg.inL _ (List.mem_of_getElem? hgk)
    obtain ⟨y, hy1, hy2⟩ : ∃ y, atI (rg.map D.int) (0 + (k : Int) - 1) = some (.int y) ∧ y = nxt rs L rg[k] := by
      cases k with
      | zero =>
        have hy : rg[rg.length - 1]? = some rg[rg.length - 1] := List.getElem?_eq_getElem (by omega)
        refine ⟨_, ?_, hg.cl _ _ hgk hy⟩
        unfold atI
        rw [List.length_map, show (0 : Int) + ((0 : Nat) : Int) - 1 = -1 from rfl, ixN_last (by omega)]
        show (rg.map D.int)[rg.length - 1]? = _
        rw [List.getElem?_map, hy]
        rfl
      | succ k =>
        have hy : rg[k]? = some rg[k] := List.getElem?_eq_getElem (by omega)
        refine ⟨_, ?_, hg.ch k _ _ hy hgk⟩
        rw [show (0 : Int) + ((k + 1 : Nat) : Int) - 1 = (k : Int) by omega]
        exact atI_nat (by rw [List.getElem?_map, hy]; rfl)
    have hx1 : atI (rg.map D.int) (0 + (k : Int)) = some (.int rg[k]) := by
      rw [Int.zero_add]
      exact atI_nat (by rw [List.getElem?_map, hgk]; rfl)
    have hnx := nxt_ok hz1 hc hkL
    rw [← hy2] at hnx
    have hyb := hc.2 y hnx.2.1
    have hkb := hc.2 _ hkL
    refine ⟨_, eg_name, ?_⟩
    refine xs_no (b := false) (et_orF (et_t ((ev_notInI (i := y) (xs := L) (ev_ixl (ds := rg.map D.int) (EvM.b (em_var rfl)) (ev_I (ev_var rfl) ev_ci) hy1) (EvM.b (EvD.m (ev_var rfl)))).is (by rw [decide_eq_true hnx.2.1]; rfl))) (et_not (a := true) (et_t ((ev_meets (ev_rowAt (k := y) (f := Rw.tl) (ev_var rfl) (ev_ixl (ds := rg.map D.int) (EvM.b (em_var rfl)) (ev_I (ev_var rfl) ev_ci) hy1) hyb.1 hyb.2.1) (ev_rowAt (k := rg[k]) (f := Rw.tl) (ev_var rfl) (ev_ixl (ds := rg.map D.int) (EvM.b (em_var rfl)) (ev_var rfl) hx1) hkb.1 hkb.2.1)).is (by rw [hnx.2.2.2]))))) rfl ?_
    exact ⟨_, _, _, rfl⟩
  · rintro ρ1 ⟨v6, v7, v8, rfl⟩
    refine xs_seq (xs_asg (EvF.v (ef_listL (ds := rg.map D.int) (EvM.b (em_var rfl)))) eg_name ?_)
    refine xs_seq (xs_clear (ds := rg.map D.int) rfl ?_)
    dsimp only
    have hftr : (D.lst (rg.map D.int)).fit = true := (ft_ints _).fit (by decide)
    have hsp := shuf_perm rg.length rg (x.drop 25).sum rfl
    have hmem : ∀ k ∈ shuf rg.length rg (x.drop 25).sum, 0 ≤ k ∧ k < (rs.length : Int) := fun k hk => by
      have := hc.2 k (hg.inL k (hsp.mem_iff.mp hk))
      exact ⟨this.1, this.2.1⟩
    refine xs_ret (d := .bl true) (EvD.is (ev_and' (ev_eqX (d := .lst (rg.map D.int)) (EvM.r (EvF.m (EvF.is (ef_call (x := (rs, L)) (ea_cons (ev_var rfl) (ea_cons (ev_var rfl) ea_nil)) hpre) (by dsimp only; rw [hrg])))) (EvD.r (ev_var rfl)) hftr)
      (ev_call (x := (shuf rg.length rg (x.drop 25).sum, rs)) (ea_cons (EvF.v (ef_call (x := (rg, (x.drop 25).sum)) (ea_cons (ev_var rfl) (ea_cons (ev_sum (EvF.b (EvF.is (ef_slL (EvD.s (ev_var rfl)) (eo_some ev_ci) eo_none) ecut3))) ea_nil)) (show rg.length ≤ 1000 by omega))) (ea_cons (ev_var rfl) ea_nil)) ⟨by rw [hsp.length_eq]; show rg.length ≤ 1000; omega, hmem⟩)) ?_) rfl
    dsimp only
    rw [ring_late hz1 hc hg hsp]
    rfl
end
theorem all_mk {l : PySem.W.OpenLaw} {w : World} {K : PySem.W.Frag} {h : Heap} {mg : Str → Option Value} {fa : Addr} (X : K.In h) (G : h.Ns mainGlobals mg) (hfa : mg "law" = some (.ref fa))
    {od__law_meets an__law_meets : Option Addr} {sl__law_meets : Array (Option Value)} {oc__law_meets kV__law_meets dc__law_meets pm__law_meets cd__law_meets ct__law_meets : Value} {f__law_meets : Addr}
    {od__law_left an__law_left : Option Addr} {sl__law_left : Array (Option Value)} {oc__law_left kV__law_left dc__law_left pm__law_left cd__law_left ct__law_left : Value} {f__law_left : Addr}
    {od_Take_size an_Take_size : Option Addr} {sl_Take_size : Array (Option Value)} {oc_Take_size kV_Take_size dc_Take_size pm_Take_size cd_Take_size ct_Take_size : Value} {f_Take_size : Addr}
    {od_Put_size an_Put_size : Option Addr} {sl_Put_size : Array (Option Value)} {oc_Put_size kV_Put_size dc_Put_size pm_Put_size cd_Put_size ct_Put_size : Value} {f_Put_size : Addr}
    {od_Row_writes an_Row_writes : Option Addr} {sl_Row_writes : Array (Option Value)} {oc_Row_writes kV_Row_writes dc_Row_writes pm_Row_writes cd_Row_writes ct_Row_writes : Value} {f_Row_writes : Addr}
    {od_Take_writes an_Take_writes : Option Addr} {sl_Take_writes : Array (Option Value)} {oc_Take_writes kV_Take_writes dc_Take_writes pm_Take_writes cd_Take_writes ct_Take_writes : Value} {f_Take_writes : Addr}
    {od_Take_reads an_Take_reads : Option Addr} {sl_Take_reads : Array (Option Value)} {oc_Take_reads kV_Take_reads dc_Take_reads pm_Take_reads cd_Take_reads ct_Take_reads : Value} {f_Take_reads : Addr}
    {od_Row_reads an_Row_reads : Option Addr} {sl_Row_reads : Array (Option Value)} {oc_Row_reads kV_Row_reads dc_Row_reads pm_Row_reads cd_Row_reads ct_Row_reads : Value} {f_Row_reads : Addr}
    {od_spoils an_spoils : Option Addr} {sl_spoils : Array (Option Value)} {oc_spoils kV_spoils dc_spoils pm_spoils cd_spoils ct_spoils : Value} {f_spoils : Addr}
    {od_ring_of an_ring_of : Option Addr} {sl_ring_of : Array (Option Value)} {oc_ring_of kV_ring_of dc_ring_of pm_ring_of cd_ring_of ct_ring_of : Value} {f_ring_of : Addr}
    {od__law_draw an__law_draw : Option Addr} {sl__law_draw : Array (Option Value)} {oc__law_draw kV__law_draw dc__law_draw pm__law_draw cd__law_draw ct__law_draw : Value} {f__law_draw : Addr}
    {od__law_row an__law_row : Option Addr} {sl__law_row : Array (Option Value)} {oc__law_row kV__law_row dc__law_row pm__law_row cd__law_row ct__law_row : Value} {f__law_row : Addr}
    {od_is_number an_is_number : Option Addr} {sl_is_number : Array (Option Value)} {oc_is_number kV_is_number dc_is_number pm_is_number cd_is_number ct_is_number : Value} {f_is_number : Addr}
    {od_is_take an_is_take : Option Addr} {sl_is_take : Array (Option Value)} {oc_is_take kV_is_take dc_is_take pm_is_take cd_is_take ct_is_take : Value} {f_is_take : Addr}
    {od_is_sign an_is_sign : Option Addr} {sl_is_sign : Array (Option Value)} {oc_is_sign kV_is_sign dc_is_sign pm_is_sign cd_is_sign ct_is_sign : Value} {f_is_sign : Addr}
    {od_is_put an_is_put : Option Addr} {sl_is_put : Array (Option Value)} {oc_is_put kV_is_put dc_is_put pm_is_put cd_is_put ct_is_put : Value} {f_is_put : Addr}
    {od_Row___init__ an_Row___init__ : Option Addr} {sl_Row___init__ : Array (Option Value)} {oc_Row___init__ kV_Row___init__ dc_Row___init__ pm_Row___init__ cd_Row___init__ ct_Row___init__ : Value} {f_Row___init__ : Addr}
    {od_Take___init__ an_Take___init__ : Option Addr} {sl_Take___init__ : Array (Option Value)} {oc_Take___init__ kV_Take___init__ dc_Take___init__ pm_Take___init__ cd_Take___init__ ct_Take___init__ : Value} {f_Take___init__ : Addr}
    {od_Put___init__ an_Put___init__ : Option Addr} {sl_Put___init__ : Array (Option Value)} {oc_Put___init__ kV_Put___init__ dc_Put___init__ pm_Put___init__ cd_Put___init__ ct_Put___init__ : Value} {f_Put___init__ : Addr}
    {od_row_of an_row_of : Option Addr} {sl_row_of : Array (Option Value)} {oc_row_of kV_row_of dc_row_of pm_row_of cd_row_of ct_row_of : Value} {f_row_of : Addr}
    {od__law_late an__law_late : Option Addr} {sl__law_late : Array (Option Value)} {oc__law_late kV__law_late dc__law_late pm__law_late cd__law_late ct__law_late : Value} {f__law_late : Addr}
    {od__law_shuffled an__law_shuffled : Option Addr} {sl__law_shuffled : Array (Option Value)} {oc__law_shuffled kV__law_shuffled dc__law_shuffled pm__law_shuffled cd__law_shuffled ct__law_shuffled : Value} {f__law_shuffled : Addr}
    {od_law an_law : Option Addr} {sl_law : Array (Option Value)} {oc_law kV_law dc_law pm_law cd_law ct_law : Value} {f_law : Addr}
    {C_Row C_Take C_Put : Addr}
    (hg_Row : PySem.W.nsIn K mainGlobals "Row" = some (some (.ref C_Row)))
    (hg_Take : PySem.W.nsIn K mainGlobals "Take" = some (some (.ref C_Take)))
    (hg_Put : PySem.W.nsIn K mainGlobals "Put" = some (some (.ref C_Put)))
    (pg_Take : PySem.W.plainGet K C_Take Str.empty = true)
    (hd_Take : PySem.W.hasDictIn K C_Take = true)
    (po_Take : PySem.W.plainOver K C_Take = true)
    (sa_Take : PySem.W.findIn K (.ref C_Take) "__setattr__" = some (some (.builtin "object.__setattr__")))
    (mk_Take : PySem.W.makesIn K C_Take = true)
    (in_Take : PySem.W.findIn K (.ref C_Take) "__init__" = some (some (.ref f_Take___init__)))
    (if_Take : PySem.W.isFn K (.ref f_Take___init__) = true)
    (kc_Take : PySem.W.keepIn K (.ref C_Take) = true)
    (n_Take_to : PySem.W.findIn K (.ref C_Take) "to" = some none)
    (n_Take_source : PySem.W.findIn K (.ref C_Take) "source" = some none)
    (n_Take_amount : PySem.W.findIn K (.ref C_Take) "amount" = some none)
    (pg_Put : PySem.W.plainGet K C_Put Str.empty = true)
    (hd_Put : PySem.W.hasDictIn K C_Put = true)
    (po_Put : PySem.W.plainOver K C_Put = true)
    (sa_Put : PySem.W.findIn K (.ref C_Put) "__setattr__" = some (some (.builtin "object.__setattr__")))
    (mk_Put : PySem.W.makesIn K C_Put = true)
    (in_Put : PySem.W.findIn K (.ref C_Put) "__init__" = some (some (.ref f_Put___init__)))
    (if_Put : PySem.W.isFn K (.ref f_Put___init__) = true)
    (kc_Put : PySem.W.keepIn K (.ref C_Put) = true)
    (n_Put_to : PySem.W.findIn K (.ref C_Put) "to" = some none)
    (n_Put_signs : PySem.W.findIn K (.ref C_Put) "signs" = some none)
    (ma_Put_reads : PySem.W.findIn K (.ref C_Put) "reads" = some (some (.ref f_Row_reads)))
    (mf_Put_reads : PySem.W.isFn K (.ref f_Row_reads) = true)
    (mk_Put_reads : PySem.W.keepIn K (.ref f_Row_reads) = true)
    (ma_Put_size : PySem.W.findIn K (.ref C_Put) "size" = some (some (.ref f_Put_size)))
    (mf_Put_size : PySem.W.isFn K (.ref f_Put_size) = true)
    (mk_Put_size : PySem.W.keepIn K (.ref f_Put_size) = true)
    (ma_Put_writes : PySem.W.findIn K (.ref C_Put) "writes" = some (some (.ref f_Row_writes)))
    (mf_Put_writes : PySem.W.isFn K (.ref f_Row_writes) = true)
    (mk_Put_writes : PySem.W.keepIn K (.ref f_Row_writes) = true)
    (ma_Take_reads : PySem.W.findIn K (.ref C_Take) "reads" = some (some (.ref f_Take_reads)))
    (mf_Take_reads : PySem.W.isFn K (.ref f_Take_reads) = true)
    (mk_Take_reads : PySem.W.keepIn K (.ref f_Take_reads) = true)
    (ma_Take_size : PySem.W.findIn K (.ref C_Take) "size" = some (some (.ref f_Take_size)))
    (mf_Take_size : PySem.W.isFn K (.ref f_Take_size) = true)
    (mk_Take_size : PySem.W.keepIn K (.ref f_Take_size) = true)
    (ma_Take_writes : PySem.W.findIn K (.ref C_Take) "writes" = some (some (.ref f_Take_writes)))
    (mf_Take_writes : PySem.W.isFn K (.ref f_Take_writes) = true)
    (mk_Take_writes : PySem.W.keepIn K (.ref f_Take_writes) = true)
    (cr_Row___init__ : PySem.W.readsIn K C_Row (.type "type") = true)
    (cg_Row___init__ : PySem.W.specialIn K (.ref C_Row) "__getattribute__" = some (some (.builtin "type.__getattribute__")))
    (cv_Row___init__ : PySem.W.findCls K (.ref C_Row) (.type "type") "__init__" = some (.val (.ref f_Row___init__)))
    (cr_Row_writes : PySem.W.readsIn K C_Row (.type "type") = true)
    (cg_Row_writes : PySem.W.specialIn K (.ref C_Row) "__getattribute__" = some (some (.builtin "type.__getattribute__")))
    (cv_Row_writes : PySem.W.findCls K (.ref C_Row) (.type "type") "writes" = some (.val (.ref f_Row_writes)))
    (a__law_meets : PySem.W.nsIn K mainGlobals "_law_meets" = some (some (.ref f__law_meets)))
    (l__law_meets : K.lookup f__law_meets = some ⟨oc__law_meets, od__law_meets, .func (PySem.W.fnOf "_law_meets" "_law_meets" (defArgs s__law_meets) (defBody s__law_meets) (defScope s__law_meets) .none kV__law_meets dc__law_meets pm__law_meets an__law_meets cd__law_meets ct__law_meets), sl__law_meets⟩)
    (c__law_meets : PySem.W.codeIn K cd__law_meets "_law_meets" = true)
    (k__law_meets : PySem.W.keepIn K (.ref f__law_meets) = true)
    (a__law_left : PySem.W.nsIn K mainGlobals "_law_left" = some (some (.ref f__law_left)))
    (l__law_left : K.lookup f__law_left = some ⟨oc__law_left, od__law_left, .func (PySem.W.fnOf "_law_left" "_law_left" (defArgs s__law_left) (defBody s__law_left) (defScope s__law_left) .none kV__law_left dc__law_left pm__law_left an__law_left cd__law_left ct__law_left), sl__law_left⟩)
    (c__law_left : PySem.W.codeIn K cd__law_left "_law_left" = true)
    (k__law_left : PySem.W.keepIn K (.ref f__law_left) = true)
    (l_Take_size : K.lookup f_Take_size = some ⟨oc_Take_size, od_Take_size, .func (PySem.W.fnOf "size" "Take.size" (defArgs s_Take_size) (defBody s_Take_size) (defScope s_Take_size) .none kV_Take_size dc_Take_size pm_Take_size an_Take_size cd_Take_size ct_Take_size), sl_Take_size⟩)
    (c_Take_size : PySem.W.codeIn K cd_Take_size "Take.size" = true)
    (k_Take_size : PySem.W.keepIn K (.ref f_Take_size) = true)
    (l_Put_size : K.lookup f_Put_size = some ⟨oc_Put_size, od_Put_size, .func (PySem.W.fnOf "size" "Put.size" (defArgs s_Put_size) (defBody s_Put_size) (defScope s_Put_size) .none kV_Put_size dc_Put_size pm_Put_size an_Put_size cd_Put_size ct_Put_size), sl_Put_size⟩)
    (c_Put_size : PySem.W.codeIn K cd_Put_size "Put.size" = true)
    (k_Put_size : PySem.W.keepIn K (.ref f_Put_size) = true)
    (l_Row_writes : K.lookup f_Row_writes = some ⟨oc_Row_writes, od_Row_writes, .func (PySem.W.fnOf "writes" "Row.writes" (defArgs s_Row_writes) (defBody s_Row_writes) (defScope s_Row_writes) .none kV_Row_writes dc_Row_writes pm_Row_writes an_Row_writes cd_Row_writes ct_Row_writes), sl_Row_writes⟩)
    (c_Row_writes : PySem.W.codeIn K cd_Row_writes "Row.writes" = true)
    (k_Row_writes : PySem.W.keepIn K (.ref f_Row_writes) = true)
    (l_Take_writes : K.lookup f_Take_writes = some ⟨oc_Take_writes, od_Take_writes, .func (PySem.W.fnOf "writes" "Take.writes" (defArgs s_Take_writes) (defBody s_Take_writes) (defScope s_Take_writes) .none kV_Take_writes dc_Take_writes pm_Take_writes an_Take_writes cd_Take_writes ct_Take_writes), sl_Take_writes⟩)
    (c_Take_writes : PySem.W.codeIn K cd_Take_writes "Take.writes" = true)
    (k_Take_writes : PySem.W.keepIn K (.ref f_Take_writes) = true)
    (l_Take_reads : K.lookup f_Take_reads = some ⟨oc_Take_reads, od_Take_reads, .func (PySem.W.fnOf "reads" "Take.reads" (defArgs s_Take_reads) (defBody s_Take_reads) (defScope s_Take_reads) .none kV_Take_reads dc_Take_reads pm_Take_reads an_Take_reads cd_Take_reads ct_Take_reads), sl_Take_reads⟩)
    (c_Take_reads : PySem.W.codeIn K cd_Take_reads "Take.reads" = true)
    (k_Take_reads : PySem.W.keepIn K (.ref f_Take_reads) = true)
    (l_Row_reads : K.lookup f_Row_reads = some ⟨oc_Row_reads, od_Row_reads, .func (PySem.W.fnOf "reads" "Row.reads" (defArgs s_Row_reads) (defBody s_Row_reads) (defScope s_Row_reads) .none kV_Row_reads dc_Row_reads pm_Row_reads an_Row_reads cd_Row_reads ct_Row_reads), sl_Row_reads⟩)
    (c_Row_reads : PySem.W.codeIn K cd_Row_reads "Row.reads" = true)
    (k_Row_reads : PySem.W.keepIn K (.ref f_Row_reads) = true)
    (a_spoils : PySem.W.nsIn K mainGlobals "spoils" = some (some (.ref f_spoils)))
    (l_spoils : K.lookup f_spoils = some ⟨oc_spoils, od_spoils, .func (PySem.W.fnOf "spoils" "spoils" (defArgs s_spoils) (defBody s_spoils) (defScope s_spoils) .none kV_spoils dc_spoils pm_spoils an_spoils cd_spoils ct_spoils), sl_spoils⟩)
    (c_spoils : PySem.W.codeIn K cd_spoils "spoils" = true)
    (k_spoils : PySem.W.keepIn K (.ref f_spoils) = true)
    (a_ring_of : PySem.W.nsIn K mainGlobals "ring_of" = some (some (.ref f_ring_of)))
    (l_ring_of : K.lookup f_ring_of = some ⟨oc_ring_of, od_ring_of, .func (PySem.W.fnOf "ring_of" "ring_of" (defArgs s_ring_of) (defBody s_ring_of) (defScope s_ring_of) .none kV_ring_of dc_ring_of pm_ring_of an_ring_of cd_ring_of ct_ring_of), sl_ring_of⟩)
    (c_ring_of : PySem.W.codeIn K cd_ring_of "ring_of" = true)
    (k_ring_of : PySem.W.keepIn K (.ref f_ring_of) = true)
    (a__law_draw : PySem.W.nsIn K mainGlobals "_law_draw" = some (some (.ref f__law_draw)))
    (l__law_draw : K.lookup f__law_draw = some ⟨oc__law_draw, od__law_draw, .func (PySem.W.fnOf "_law_draw" "_law_draw" (defArgs s__law_draw) (defBody s__law_draw) (defScope s__law_draw) .none kV__law_draw dc__law_draw pm__law_draw an__law_draw cd__law_draw ct__law_draw), sl__law_draw⟩)
    (c__law_draw : PySem.W.codeIn K cd__law_draw "_law_draw" = true)
    (k__law_draw : PySem.W.keepIn K (.ref f__law_draw) = true)
    (a__law_row : PySem.W.nsIn K mainGlobals "_law_row" = some (some (.ref f__law_row)))
    (l__law_row : K.lookup f__law_row = some ⟨oc__law_row, od__law_row, .func (PySem.W.fnOf "_law_row" "_law_row" (defArgs s__law_row) (defBody s__law_row) (defScope s__law_row) .none kV__law_row dc__law_row pm__law_row an__law_row cd__law_row ct__law_row), sl__law_row⟩)
    (c__law_row : PySem.W.codeIn K cd__law_row "_law_row" = true)
    (k__law_row : PySem.W.keepIn K (.ref f__law_row) = true)
    (a_is_number : PySem.W.nsIn K mainGlobals "is_number" = some (some (.ref f_is_number)))
    (l_is_number : K.lookup f_is_number = some ⟨oc_is_number, od_is_number, .func (PySem.W.fnOf "is_number" "is_number" (defArgs s_is_number) (defBody s_is_number) (defScope s_is_number) .none kV_is_number dc_is_number pm_is_number an_is_number cd_is_number ct_is_number), sl_is_number⟩)
    (c_is_number : PySem.W.codeIn K cd_is_number "is_number" = true)
    (k_is_number : PySem.W.keepIn K (.ref f_is_number) = true)
    (a_is_take : PySem.W.nsIn K mainGlobals "is_take" = some (some (.ref f_is_take)))
    (l_is_take : K.lookup f_is_take = some ⟨oc_is_take, od_is_take, .func (PySem.W.fnOf "is_take" "is_take" (defArgs s_is_take) (defBody s_is_take) (defScope s_is_take) .none kV_is_take dc_is_take pm_is_take an_is_take cd_is_take ct_is_take), sl_is_take⟩)
    (c_is_take : PySem.W.codeIn K cd_is_take "is_take" = true)
    (k_is_take : PySem.W.keepIn K (.ref f_is_take) = true)
    (a_is_sign : PySem.W.nsIn K mainGlobals "is_sign" = some (some (.ref f_is_sign)))
    (l_is_sign : K.lookup f_is_sign = some ⟨oc_is_sign, od_is_sign, .func (PySem.W.fnOf "is_sign" "is_sign" (defArgs s_is_sign) (defBody s_is_sign) (defScope s_is_sign) .none kV_is_sign dc_is_sign pm_is_sign an_is_sign cd_is_sign ct_is_sign), sl_is_sign⟩)
    (c_is_sign : PySem.W.codeIn K cd_is_sign "is_sign" = true)
    (k_is_sign : PySem.W.keepIn K (.ref f_is_sign) = true)
    (a_is_put : PySem.W.nsIn K mainGlobals "is_put" = some (some (.ref f_is_put)))
    (l_is_put : K.lookup f_is_put = some ⟨oc_is_put, od_is_put, .func (PySem.W.fnOf "is_put" "is_put" (defArgs s_is_put) (defBody s_is_put) (defScope s_is_put) .none kV_is_put dc_is_put pm_is_put an_is_put cd_is_put ct_is_put), sl_is_put⟩)
    (c_is_put : PySem.W.codeIn K cd_is_put "is_put" = true)
    (k_is_put : PySem.W.keepIn K (.ref f_is_put) = true)
    (l_Row___init__ : K.lookup f_Row___init__ = some ⟨oc_Row___init__, od_Row___init__, .func (PySem.W.fnOf "__init__" "Row.__init__" (defArgs s_Row___init__) (defBody s_Row___init__) (defScope s_Row___init__) .none kV_Row___init__ dc_Row___init__ pm_Row___init__ an_Row___init__ cd_Row___init__ ct_Row___init__), sl_Row___init__⟩)
    (c_Row___init__ : PySem.W.codeIn K cd_Row___init__ "Row.__init__" = true)
    (k_Row___init__ : PySem.W.keepIn K (.ref f_Row___init__) = true)
    (l_Take___init__ : K.lookup f_Take___init__ = some ⟨oc_Take___init__, od_Take___init__, .func (PySem.W.fnOf "__init__" "Take.__init__" (defArgs s_Take___init__) (defBody s_Take___init__) (defScope s_Take___init__) .none kV_Take___init__ dc_Take___init__ pm_Take___init__ an_Take___init__ cd_Take___init__ ct_Take___init__), sl_Take___init__⟩)
    (c_Take___init__ : PySem.W.codeIn K cd_Take___init__ "Take.__init__" = true)
    (k_Take___init__ : PySem.W.keepIn K (.ref f_Take___init__) = true)
    (l_Put___init__ : K.lookup f_Put___init__ = some ⟨oc_Put___init__, od_Put___init__, .func (PySem.W.fnOf "__init__" "Put.__init__" (defArgs s_Put___init__) (defBody s_Put___init__) (defScope s_Put___init__) .none kV_Put___init__ dc_Put___init__ pm_Put___init__ an_Put___init__ cd_Put___init__ ct_Put___init__), sl_Put___init__⟩)
    (c_Put___init__ : PySem.W.codeIn K cd_Put___init__ "Put.__init__" = true)
    (k_Put___init__ : PySem.W.keepIn K (.ref f_Put___init__) = true)
    (a_row_of : PySem.W.nsIn K mainGlobals "row_of" = some (some (.ref f_row_of)))
    (l_row_of : K.lookup f_row_of = some ⟨oc_row_of, od_row_of, .func (PySem.W.fnOf "row_of" "row_of" (defArgs s_row_of) (defBody s_row_of) (defScope s_row_of) .none kV_row_of dc_row_of pm_row_of an_row_of cd_row_of ct_row_of), sl_row_of⟩)
    (c_row_of : PySem.W.codeIn K cd_row_of "row_of" = true)
    (k_row_of : PySem.W.keepIn K (.ref f_row_of) = true)
    (a__law_late : PySem.W.nsIn K mainGlobals "_law_late" = some (some (.ref f__law_late)))
    (l__law_late : K.lookup f__law_late = some ⟨oc__law_late, od__law_late, .func (PySem.W.fnOf "_law_late" "_law_late" (defArgs s__law_late) (defBody s__law_late) (defScope s__law_late) .none kV__law_late dc__law_late pm__law_late an__law_late cd__law_late ct__law_late), sl__law_late⟩)
    (c__law_late : PySem.W.codeIn K cd__law_late "_law_late" = true)
    (k__law_late : PySem.W.keepIn K (.ref f__law_late) = true)
    (a__law_shuffled : PySem.W.nsIn K mainGlobals "_law_shuffled" = some (some (.ref f__law_shuffled)))
    (l__law_shuffled : K.lookup f__law_shuffled = some ⟨oc__law_shuffled, od__law_shuffled, .func (PySem.W.fnOf "_law_shuffled" "_law_shuffled" (defArgs s__law_shuffled) (defBody s__law_shuffled) (defScope s__law_shuffled) .none kV__law_shuffled dc__law_shuffled pm__law_shuffled an__law_shuffled cd__law_shuffled ct__law_shuffled), sl__law_shuffled⟩)
    (c__law_shuffled : PySem.W.codeIn K cd__law_shuffled "_law_shuffled" = true)
    (k__law_shuffled : PySem.W.keepIn K (.ref f__law_shuffled) = true)
    (a_law : PySem.W.nsIn K mainGlobals "law" = some (some (.ref f_law)))
    (l_law : K.lookup f_law = some ⟨oc_law, od_law, .func (PySem.W.fnOf "law" "law" (defArgs s_law) (defBody s_law) (defScope s_law) .none kV_law dc_law pm_law an_law cd_law ct_law), sl_law⟩)
    (c_law : PySem.W.codeIn K cd_law "law" = true)
    (k_law : PySem.W.keepIn K (.ref f_law) = true)
    (z_abs : PySem.W.nsIn K mainGlobals "abs" = some none)
    (z_all : PySem.W.nsIn K mainGlobals "all" = some none)
    (z_bool : PySem.W.nsIn K mainGlobals "bool" = some none)
    (z_enumerate : PySem.W.nsIn K mainGlobals "enumerate" = some none)
    (z_int : PySem.W.nsIn K mainGlobals "int" = some none)
    (z_isinstance : PySem.W.nsIn K mainGlobals "isinstance" = some none)
    (z_len : PySem.W.nsIn K mainGlobals "len" = some none)
    (z_list : PySem.W.nsIn K mainGlobals "list" = some none)
    (z_range : PySem.W.nsIn K mainGlobals "range" = some none)
    (z_reversed : PySem.W.nsIn K mainGlobals "reversed" = some none)
    (z_set : PySem.W.nsIn K mainGlobals "set" = some none)
    (z_sum : PySem.W.nsIn K mainGlobals "sum" = some none)
    (z_tuple : PySem.W.nsIn K mainGlobals "tuple" = some none)
    : ∃ fd : FuncData, ∃ T : Tx K mg, T.a_law = fa ∧ T.d_law = fd ∧ (∀ (s : Shared) (v : Value), BindsTo s fd ⟨[v], []⟩ [("_law_script", v)]) := by
  have e := hfa.symm.trans (PySem.W.mg_of X G a_law)
  cases e
  have F__law_meets := fun_mk (st := s__law_meets) l__law_meets c__law_meets k__law_meets
  have b__law_meets := F__law_meets.binds (ps := ["_law_row_here", "_law_other"]) fun _ _ _ _ _ _ us hl => match us, hl with | [_, _], _ => rfl
  have F__law_left := fun_mk (st := s__law_left) l__law_left c__law_left k__law_left
  have b__law_left := F__law_left.binds (ps := ["_law_rows", "_law_dropped"]) fun _ _ _ _ _ _ us hl => match us, hl with | [_, _], _ => rfl
  have F_Take_size := fun_mk (st := s_Take_size) l_Take_size c_Take_size k_Take_size
  have b_Take_size := F_Take_size.binds (ps := ["self"]) fun _ _ _ _ _ _ us hl => match us, hl with | [_], _ => rfl
  have F_Put_size := fun_mk (st := s_Put_size) l_Put_size c_Put_size k_Put_size
  have b_Put_size := F_Put_size.binds (ps := ["self"]) fun _ _ _ _ _ _ us hl => match us, hl with | [_], _ => rfl
  have F_Row_writes := fun_mk (st := s_Row_writes) l_Row_writes c_Row_writes k_Row_writes
  have b_Row_writes := F_Row_writes.binds (ps := ["self"]) fun _ _ _ _ _ _ us hl => match us, hl with | [_], _ => rfl
  have F_Take_writes := fun_mk (st := s_Take_writes) l_Take_writes c_Take_writes k_Take_writes
  have b_Take_writes := F_Take_writes.binds (ps := ["self"]) fun _ _ _ _ _ _ us hl => match us, hl with | [_], _ => rfl
  have F_Take_reads := fun_mk (st := s_Take_reads) l_Take_reads c_Take_reads k_Take_reads
  have b_Take_reads := F_Take_reads.binds (ps := ["self"]) fun _ _ _ _ _ _ us hl => match us, hl with | [_], _ => rfl
  have F_Row_reads := fun_mk (st := s_Row_reads) l_Row_reads c_Row_reads k_Row_reads
  have b_Row_reads := F_Row_reads.binds (ps := ["self"]) fun _ _ _ _ _ _ us hl => match us, hl with | [_], _ => rfl
  have F_spoils := fun_mk (st := s_spoils) l_spoils c_spoils k_spoils
  have b_spoils := F_spoils.binds (ps := ["rows"]) fun _ _ _ _ _ _ us hl => match us, hl with | [_], _ => rfl
  have F_ring_of := fun_mk (st := s_ring_of) l_ring_of c_ring_of k_ring_of
  have b_ring_of := F_ring_of.binds (ps := ["rows", "left"]) fun _ _ _ _ _ _ us hl => match us, hl with | [_, _], _ => rfl
  have F__law_draw := fun_mk (st := s__law_draw) l__law_draw c__law_draw k__law_draw
  have b__law_draw := F__law_draw.binds (ps := ["_law_cell", "_law_k"]) fun _ _ _ _ _ _ us hl => match us, hl with | [_, _], _ => rfl
  have F__law_row := fun_mk (st := s__law_row) l__law_row c__law_row k__law_row
  have b__law_row := F__law_row.binds (ps := ["_law_cell", "_law_k"]) fun _ _ _ _ _ _ us hl => match us, hl with | [_, _], _ => rfl
  have F_is_number := fun_mk (st := s_is_number) l_is_number c_is_number k_is_number
  have b_is_number := F_is_number.binds (ps := ["thing"]) fun _ _ _ _ _ _ us hl => match us, hl with | [_], _ => rfl
  have F_is_take := fun_mk (st := s_is_take) l_is_take c_is_take k_is_take
  have b_is_take := F_is_take.binds (ps := ["told"]) fun _ _ _ _ _ _ us hl => match us, hl with | [_], _ => rfl
  have F_is_sign := fun_mk (st := s_is_sign) l_is_sign c_is_sign k_is_sign
  have b_is_sign := F_is_sign.binds (ps := ["thing"]) fun _ _ _ _ _ _ us hl => match us, hl with | [_], _ => rfl
  have F_is_put := fun_mk (st := s_is_put) l_is_put c_is_put k_is_put
  have b_is_put := F_is_put.binds (ps := ["told"]) fun _ _ _ _ _ _ us hl => match us, hl with | [_], _ => rfl
  have F_Row___init__ := fun_mk (st := s_Row___init__) l_Row___init__ c_Row___init__ k_Row___init__
  have b_Row___init__ := F_Row___init__.binds (ps := ["self", "to"]) fun _ _ _ _ _ _ us hl => match us, hl with | [_, _], _ => rfl
  have F_Take___init__ := fun_mk (st := s_Take___init__) l_Take___init__ c_Take___init__ k_Take___init__
  have b_Take___init__ := F_Take___init__.binds (ps := ["self", "to", "start", "count"]) fun _ _ _ _ _ _ us hl => match us, hl with | [_, _, _, _], _ => rfl
  have F_Put___init__ := fun_mk (st := s_Put___init__) l_Put___init__ c_Put___init__ k_Put___init__
  have b_Put___init__ := F_Put___init__.binds (ps := ["self", "to", "signs"]) fun _ _ _ _ _ _ us hl => match us, hl with | [_, _, _], _ => rfl
  have F_row_of := fun_mk (st := s_row_of) l_row_of c_row_of k_row_of
  have b_row_of := F_row_of.binds (ps := ["told"]) fun _ _ _ _ _ _ us hl => match us, hl with | [_], _ => rfl
  have F__law_late := fun_mk (st := s__law_late) l__law_late c__law_late k__law_late
  have b__law_late := F__law_late.binds (ps := ["_law_row_here", "_law_rows"]) fun _ _ _ _ _ _ us hl => match us, hl with | [_, _], _ => rfl
  have F__law_shuffled := fun_mk (st := s__law_shuffled) l__law_shuffled c__law_shuffled k__law_shuffled
  have b__law_shuffled := F__law_shuffled.binds (ps := ["_law_ring", "_law_cell"]) fun _ _ _ _ _ _ us hl => match us, hl with | [_, _], _ => rfl
  have F_law := fun_mk (st := s_law) l_law c_law k_law
  have b_law := F_law.binds (ps := ["_law_script"]) fun _ _ _ _ _ _ us hl => match us, hl with | [_], _ => rfl
  let T : Tx K mg := {
    a__law_meets := f__law_meets, d__law_meets := _, F__law_meets := F__law_meets, b__law_meets := b__law_meets, g__law_meets := PySem.W.mg_of X G a__law_meets,
    a__law_left := f__law_left, d__law_left := _, F__law_left := F__law_left, b__law_left := b__law_left, g__law_left := PySem.W.mg_of X G a__law_left,
    a_Take_size := f_Take_size, d_Take_size := _, F_Take_size := F_Take_size, b_Take_size := b_Take_size,
    a_Put_size := f_Put_size, d_Put_size := _, F_Put_size := F_Put_size, b_Put_size := b_Put_size,
    a_Row_writes := f_Row_writes, d_Row_writes := _, F_Row_writes := F_Row_writes, b_Row_writes := b_Row_writes,
    a_Take_writes := f_Take_writes, d_Take_writes := _, F_Take_writes := F_Take_writes, b_Take_writes := b_Take_writes,
    a_Take_reads := f_Take_reads, d_Take_reads := _, F_Take_reads := F_Take_reads, b_Take_reads := b_Take_reads,
    a_Row_reads := f_Row_reads, d_Row_reads := _, F_Row_reads := F_Row_reads, b_Row_reads := b_Row_reads,
    a_spoils := f_spoils, d_spoils := _, F_spoils := F_spoils, b_spoils := b_spoils, g_spoils := PySem.W.mg_of X G a_spoils,
    a_ring_of := f_ring_of, d_ring_of := _, F_ring_of := F_ring_of, b_ring_of := b_ring_of, g_ring_of := PySem.W.mg_of X G a_ring_of,
    a__law_draw := f__law_draw, d__law_draw := _, F__law_draw := F__law_draw, b__law_draw := b__law_draw, g__law_draw := PySem.W.mg_of X G a__law_draw,
    a__law_row := f__law_row, d__law_row := _, F__law_row := F__law_row, b__law_row := b__law_row, g__law_row := PySem.W.mg_of X G a__law_row,
    a_is_number := f_is_number, d_is_number := _, F_is_number := F_is_number, b_is_number := b_is_number, g_is_number := PySem.W.mg_of X G a_is_number,
    a_is_take := f_is_take, d_is_take := _, F_is_take := F_is_take, b_is_take := b_is_take, g_is_take := PySem.W.mg_of X G a_is_take,
    a_is_sign := f_is_sign, d_is_sign := _, F_is_sign := F_is_sign, b_is_sign := b_is_sign, g_is_sign := PySem.W.mg_of X G a_is_sign,
    a_is_put := f_is_put, d_is_put := _, F_is_put := F_is_put, b_is_put := b_is_put, g_is_put := PySem.W.mg_of X G a_is_put,
    a_Row___init__ := f_Row___init__, d_Row___init__ := _, F_Row___init__ := F_Row___init__, b_Row___init__ := b_Row___init__,
    a_Take___init__ := f_Take___init__, d_Take___init__ := _, F_Take___init__ := F_Take___init__, b_Take___init__ := b_Take___init__,
    a_Put___init__ := f_Put___init__, d_Put___init__ := _, F_Put___init__ := F_Put___init__, b_Put___init__ := b_Put___init__,
    a_row_of := f_row_of, d_row_of := _, F_row_of := F_row_of, b_row_of := b_row_of, g_row_of := PySem.W.mg_of X G a_row_of,
    a__law_late := f__law_late, d__law_late := _, F__law_late := F__law_late, b__law_late := b__law_late, g__law_late := PySem.W.mg_of X G a__law_late,
    a__law_shuffled := f__law_shuffled, d__law_shuffled := _, F__law_shuffled := F__law_shuffled, b__law_shuffled := b__law_shuffled, g__law_shuffled := PySem.W.mg_of X G a__law_shuffled,
    a_law := fa, d_law := _, F_law := F_law, b_law := b_law, g_law := PySem.W.mg_of X G a_law,
    C_Row := C_Row,
    C_Take := C_Take,
    C_Put := C_Put,
    g_Row := PySem.W.mg_of X G hg_Row,
    g_Take := PySem.W.mg_of X G hg_Take,
    g_Put := PySem.W.mg_of X G hg_Put,
    cl_Take := ⟨pg_Take, hd_Take, po_Take, sa_Take⟩,
    mk_Take := ⟨mk_Take, in_Take, if_Take, kc_Take⟩,
    n_Take_to := n_Take_to,
    n_Take_source := n_Take_source,
    n_Take_amount := n_Take_amount,
    cl_Put := ⟨pg_Put, hd_Put, po_Put, sa_Put⟩,
    mk_Put := ⟨mk_Put, in_Put, if_Put, kc_Put⟩,
    n_Put_to := n_Put_to,
    n_Put_signs := n_Put_signs,
    m_Put_reads := ⟨ma_Put_reads, mf_Put_reads, mk_Put_reads⟩,
    m_Put_size := ⟨ma_Put_size, mf_Put_size, mk_Put_size⟩,
    m_Put_writes := ⟨ma_Put_writes, mf_Put_writes, mk_Put_writes⟩,
    m_Take_reads := ⟨ma_Take_reads, mf_Take_reads, mk_Take_reads⟩,
    m_Take_size := ⟨ma_Take_size, mf_Take_size, mk_Take_size⟩,
    m_Take_writes := ⟨ma_Take_writes, mf_Take_writes, mk_Take_writes⟩,
    cf_Row___init__ := ⟨⟨cr_Row___init__, cg_Row___init__⟩, cv_Row___init__⟩,
    cf_Row_writes := ⟨⟨cr_Row_writes, cg_Row_writes⟩, cv_Row_writes⟩,
    z_abs := PySem.W.mg_none_of X G z_abs,
    z_all := PySem.W.mg_none_of X G z_all,
    z_bool := PySem.W.mg_none_of X G z_bool,
    z_enumerate := PySem.W.mg_none_of X G z_enumerate,
    z_int := PySem.W.mg_none_of X G z_int,
    z_isinstance := PySem.W.mg_none_of X G z_isinstance,
    z_len := PySem.W.mg_none_of X G z_len,
    z_list := PySem.W.mg_none_of X G z_list,
    z_range := PySem.W.mg_none_of X G z_range,
    z_reversed := PySem.W.mg_none_of X G z_reversed,
    z_set := PySem.W.mg_none_of X G z_set,
    z_sum := PySem.W.mg_none_of X G z_sum,
    z_tuple := PySem.W.mg_none_of X G z_tuple }
  exact ⟨_, T, rfl, rfl, fun s v => .of_eq rfl⟩
theorem all_fin {l : PySem.W.OpenLaw} {w : World} {K : PySem.W.Frag} {h : Heap} {mg : Str → Option Value} {fa : Addr} (X : K.In h) (z : ∃ fd : FuncData, ∃ T : Tx K mg, T.a_law = fa ∧ T.d_law = fd ∧ (∀ (s : Shared) (v : Value), BindsTo s fd ⟨[v], []⟩ [("_law_script", v)])) : ∃ fd : FuncData, (∀ (s : Shared) (v : Value), BindsTo s fd ⟨[v], []⟩ [("_law_script", v)]) ∧ ∀ base : Heap, K.In base → base.Ns mainGlobals mg → FnOk l.prog w K mg base CX0 6 fa fd ["_law_script"] (spEnd K) := by
  obtain ⟨fd, T, e1, e2, hb⟩ := z
  subst e1 e2
  exact ⟨T.d_law, hb, fun base _ _ => (ok_law T).imp fun vs H Q E h => law_sp T h⟩
end Lw
open PySem PySem.W PyProof.Rows
set_option maxRecDepth 100000 in
set_option maxHeartbeats 0 in
theorem PySem.Challenge.cw_oneroom_k32_whole_rings_holds : PySem.Challenge.rw_oneroom_k32_whole_rings.Holds := by
  w_on; o_law; k_head; (case hw => w_witness2)
  k_fill
  refine L2.walk_of (l := PySem.Challenge.rw_oneroom_k32_whole_rings) (n := 63) (k := 6) (x := "_law_script") (CX := fun w => L2.CX0) (sp := fun w => Lw.spEnd _) rfl (by decide) rfl ⟨rfl, by decide, by decide⟩ (fun w h Y => PySem.W.kIn_of Y) ?F (fun _ H a ns hl _ hS => Lw.law_in H a ns hl hS) (fun _ _ _ _ _ h => h)
  case F =>
    intro w mg fa h KX G hmg
    refine' Lw.all_fin KX (Lw.all_mk (l := PySem.Challenge.rw_oneroom_k32_whole_rings) (w := w) KX G hmg ?hg_Row ?hg_Take ?hg_Put ?pg_Take ?hd_Take ?po_Take ?sa_Take ?mk_Take ?in_Take ?if_Take ?kc_Take ?n_Take_to ?n_Take_source ?n_Take_amount ?pg_Put ?hd_Put ?po_Put ?sa_Put ?mk_Put ?in_Put ?if_Put ?kc_Put ?n_Put_to ?n_Put_signs ?ma_Put_reads ?mf_Put_reads ?mk_Put_reads ?ma_Put_size ?mf_Put_size ?mk_Put_size ?ma_Put_writes ?mf_Put_writes ?mk_Put_writes ?ma_Take_reads ?mf_Take_reads ?mk_Take_reads ?ma_Take_size ?mf_Take_size ?mk_Take_size ?ma_Take_writes ?mf_Take_writes ?mk_Take_writes ?cr_Row___init__ ?cg_Row___init__ ?cv_Row___init__ ?cr_Row_writes ?cg_Row_writes ?cv_Row_writes ?a__law_meets ?l__law_meets ?c__law_meets ?k__law_meets ?a__law_left ?l__law_left ?c__law_left ?k__law_left ?l_Take_size ?c_Take_size ?k_Take_size ?l_Put_size ?c_Put_size ?k_Put_size ?l_Row_writes ?c_Row_writes ?k_Row_writes ?l_Take_writes ?c_Take_writes ?k_Take_writes ?l_Take_reads ?c_Take_reads ?k_Take_reads ?l_Row_reads ?c_Row_reads ?k_Row_reads ?a_spoils ?l_spoils ?c_spoils ?k_spoils ?a_ring_of ?l_ring_of ?c_ring_of ?k_ring_of ?a__law_draw ?l__law_draw ?c__law_draw ?k__law_draw ?a__law_row ?l__law_row ?c__law_row ?k__law_row ?a_is_number ?l_is_number ?c_is_number ?k_is_number ?a_is_take ?l_is_take ?c_is_take ?k_is_take ?a_is_sign ?l_is_sign ?c_is_sign ?k_is_sign ?a_is_put ?l_is_put ?c_is_put ?k_is_put ?l_Row___init__ ?c_Row___init__ ?k_Row___init__ ?l_Take___init__ ?c_Take___init__ ?k_Take___init__ ?l_Put___init__ ?c_Put___init__ ?k_Put___init__ ?a_row_of ?l_row_of ?c_row_of ?k_row_of ?a__law_late ?l__law_late ?c__law_late ?k__law_late ?a__law_shuffled ?l__law_shuffled ?c__law_shuffled ?k__law_shuffled ?a_law ?l_law ?c_law ?k_law ?z_abs ?z_all ?z_bool ?z_enumerate ?z_int ?z_isinstance ?z_len ?z_list ?z_range ?z_reversed ?z_set ?z_sum ?z_tuple)
    (case hg_Row => k_is); (case hg_Take => k_is); (case hg_Put => k_is); (case pg_Take => k_is); (case hd_Take => k_is); (case po_Take => k_is); (case sa_Take => k_is); (case mk_Take => k_is); (case in_Take => k_is); (case if_Take => k_is); (case kc_Take => k_is); (case n_Take_to => k_is); (case n_Take_source => k_is); (case n_Take_amount => k_is); (case pg_Put => k_is); (case hd_Put => k_is); (case po_Put => k_is); (case sa_Put => k_is); (case mk_Put => k_is); (case in_Put => k_is); (case if_Put => k_is); (case kc_Put => k_is); (case n_Put_to => k_is); (case n_Put_signs => k_is); (case ma_Put_reads => k_is); (case mf_Put_reads => k_is); (case mk_Put_reads => k_is); (case ma_Put_size => k_is); (case mf_Put_size => k_is); (case mk_Put_size => k_is); (case ma_Put_writes => k_is); (case mf_Put_writes => k_is); (case mk_Put_writes => k_is); (case ma_Take_reads => k_is); (case mf_Take_reads => k_is); (case mk_Take_reads => k_is); (case ma_Take_size => k_is); (case mf_Take_size => k_is); (case mk_Take_size => k_is); (case ma_Take_writes => k_is); (case mf_Take_writes => k_is); (case mk_Take_writes => k_is); (case cr_Row___init__ => k_is); (case cg_Row___init__ => k_is); (case cv_Row___init__ => k_is); (case cr_Row_writes => k_is); (case cg_Row_writes => k_is); (case cv_Row_writes => k_is); (case a__law_meets => k_is); (case l__law_meets => k_is); (case c__law_meets => k_is); (case k__law_meets => k_is); (case a__law_left => k_is); (case l__law_left => k_is); (case c__law_left => k_is); (case k__law_left => k_is); (case l_Take_size => k_is); (case c_Take_size => k_is); (case k_Take_size => k_is); (case l_Put_size => k_is); (case c_Put_size => k_is); (case k_Put_size => k_is); (case l_Row_writes => k_is); (case c_Row_writes => k_is); (case k_Row_writes => k_is); (case l_Take_writes => k_is); (case c_Take_writes => k_is); (case k_Take_writes => k_is); (case l_Take_reads => k_is); (case c_Take_reads => k_is); (case k_Take_reads => k_is); (case l_Row_reads => k_is); (case c_Row_reads => k_is); (case k_Row_reads => k_is); (case a_spoils => k_is); (case l_spoils => k_is); (case c_spoils => k_is); (case k_spoils => k_is); (case a_ring_of => k_is); (case l_ring_of => k_is); (case c_ring_of => k_is); (case k_ring_of => k_is); (case a__law_draw => k_is); (case l__law_draw => k_is); (case c__law_draw => k_is); (case k__law_draw => k_is); (case a__law_row => k_is); (case l__law_row => k_is); (case c__law_row => k_is); (case k__law_row => k_is); (case a_is_number => k_is); (case l_is_number => k_is); (case c_is_number => k_is); (case k_is_number => k_is); (case a_is_take => k_is); (case l_is_take => k_is); (case c_is_take => k_is); (case k_is_take => k_is); (case a_is_sign => k_is); (case l_is_sign => k_is); (case c_is_sign => k_is); (case k_is_sign => k_is); (case a_is_put => k_is); (case l_is_put => k_is); (case c_is_put => k_is); (case k_is_put => k_is); (case l_Row___init__ => k_is); (case c_Row___init__ => k_is); (case k_Row___init__ => k_is); (case l_Take___init__ => k_is); (case c_Take___init__ => k_is); (case k_Take___init__ => k_is); (case l_Put___init__ => k_is); (case c_Put___init__ => k_is); (case k_Put___init__ => k_is); (case a_row_of => k_is); (case l_row_of => k_is); (case c_row_of => k_is); (case k_row_of => k_is); (case a__law_late => k_is); (case l__law_late => k_is); (case c__law_late => k_is); (case k__law_late => k_is); (case a__law_shuffled => k_is); (case l__law_shuffled => k_is); (case c__law_shuffled => k_is); (case k__law_shuffled => k_is); (case a_law => k_is); (case l_law => k_is); (case c_law => k_is); (case k_law => k_is); (case z_abs => k_is); (case z_all => k_is); (case z_bool => k_is); (case z_enumerate => k_is); (case z_int => k_is); (case z_isinstance => k_is); (case z_len => k_is); (case z_list => k_is); (case z_range => k_is); (case z_reversed => k_is); (case z_set => k_is); (case z_sum => k_is); (case z_tuple => k_is)

