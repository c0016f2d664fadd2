import PyProof.Rows.All
import Wide.All
import OpenK.AllK
import Wide.FinOn
import HandS.ForMost
import HandS.Exc
import HandS.WordsExc
import HandS.Style
import HandS.Flow
import HandS.Conv
import HandS.Wide
import HandS.IsInst
import HandS.TupAny
import HandS.Zip
import HandS.SortInts
import HandS.ExcOwn
import HandS.SetFor
import HandS.Strs
import KE.KExcInit
import HandS.ExcInit
import HandS.ExcField
import HandS.TryMany
import HandS.Defaults
import PySem.Challenge.RW_middlecall_k87_across_great_rows_calls_b
set_option Elab.async false
set_option linter.all false
section
set_option maxRecDepth 100000
set_option maxHeartbeats 4000000
/-! DLay: data without addresses over the hand layer: what a reading computes as a plain function. -/
namespace DL
open PySem PySem.Spec PyProof.Rows L2

/-- data: a value without addresses; a cell is a thing that may change, known by its number -/
inductive D where
  | non | bl (b : Bool) | int (i : Int) | str (s : Str) | tup (xs : List D) | lst (xs : List D) | frz (xs : List D) | cel (k : Nat)

def Ex (H H' : Hp) : Prop := ∀ a o, H a = some o → H' a = some o
theorem Ex.refl (H : Hp) : Ex H H := fun _ _ h => h
theorem Ex.trans {H H1 H2 : Hp} (a : Ex H H1) (b : Ex H1 H2) : Ex H H2 := fun x o h => b x o (a x o h)
theorem Ex.new {H : Hp} {p : Addr} {o : HO} (h : H p = none) : Ex H (upd H p o) := fun a u e => by
  rw [upd_ne (ne_of_none e h)]
  exact e
theorem Ex.sqT {K : PySem.W.Frag} {H H' : Hp} {a : Addr} {xs : List V} (e : Ex H H') (h : SqT K H a xs) : SqT K H' a xs := by
  rcases h with h | h
  · rcases h with h | ⟨o, h⟩
    · exact .inl (.inl (e a _ h))
    · exact .inl (.inr ⟨o, e a _ h⟩)
  · exact .inr h

theorem Ex.sqL {K : PySem.W.Frag} {H H' : Hp} {a : Addr} {xs : List V} (e : Ex H H') (h : SqL K H a xs) : SqL K H' a xs := by
  rcases h with h | h
  · rcases h with h | ⟨o, h⟩
    · exact .inl (.inl (e a _ h))
    · exact .inl (.inr ⟨o, e a _ h⟩)
  · exact .inr h
/-! ### what represents what -/
mutual
def Rep (K : PySem.W.Frag) (fp : Nat → Option Addr) (Hs : Hp) : D → V → Prop
  | .non, v => v = .non
  | .bl b, v => v = .bl b
  | .int i, v => v = .int i
  | .str s, v => v = .str s
  | .tup ds, v => ∃ a vs, v = .ref a ∧ SqT K Hs a vs ∧ Reps K fp Hs ds vs
  | .lst ds, v => ∃ a vs, v = .ref a ∧ Hs a = some (.lst vs) ∧ Reps K fp Hs ds vs
  | .frz ds, v => ∃ a vs, v = .ref a ∧ SqL K Hs a vs ∧ Reps K fp Hs ds vs
  | .cel k, v => ∃ a, v = .ref a ∧ fp k = some a
def Reps (K : PySem.W.Frag) (fp : Nat → Option Addr) (Hs : Hp) : List D → List V → Prop
  | [], vs => vs = []
  | d :: ds, vs => ∃ v r, vs = v :: r ∧ Rep K fp Hs d v ∧ Reps K fp Hs ds r
end
theorem Reps.nil {K : PySem.W.Frag} {fp : Nat → Option Addr} {Hs : Hp} : Reps K fp Hs [] [] := by
  unfold Reps
  rfl
theorem Reps.cons {K : PySem.W.Frag} {fp : Nat → Option Addr} {Hs : Hp} {d : D} {ds : List D} {v : V} {vs : List V} (h : Rep K fp Hs d v) (t : Reps K fp Hs ds vs) : Reps K fp Hs (d :: ds) (v :: vs) := by
  unfold Reps
  exact ⟨v, vs, rfl, h, t⟩
theorem Reps.nil_inv {K : PySem.W.Frag} {fp : Nat → Option Addr} {Hs : Hp} {vs : List V} (h : Reps K fp Hs [] vs) : vs = [] := by
  unfold Reps at h
  exact h
theorem Reps.cons_inv {K : PySem.W.Frag} {fp : Nat → Option Addr} {Hs : Hp} {d : D} {ds : List D} {vs : List V} (h : Reps K fp Hs (d :: ds) vs) : ∃ v r, vs = v :: r ∧ Rep K fp Hs d v ∧ Reps K fp Hs ds r := by
  unfold Reps at h
  exact h
theorem Reps.length {K : PySem.W.Frag} {fp : Nat → Option Addr} {Hs : Hp} : ∀ {ds : List D} {vs : List V}, Reps K fp Hs ds vs → ds.length = vs.length
  | [], vs, h => by
    rw [Reps.nil_inv h]
    rfl
  | d :: ds, vs, h => by
    obtain ⟨v, r, rfl, _, t⟩ := Reps.cons_inv h
    simp [Reps.length t]
theorem Reps.append {K : PySem.W.Frag} {fp : Nat → Option Addr} {Hs : Hp} : ∀ {ds es : List D} {vs ws : List V}, Reps K fp Hs ds vs → Reps K fp Hs es ws → Reps K fp Hs (ds ++ es) (vs ++ ws)
  | [], es, vs, ws, h, t => by
    rw [Reps.nil_inv h]
    exact t
  | d :: ds, es, vs, ws, h, t => by
    obtain ⟨v, r, rfl, h1, h2⟩ := Reps.cons_inv h
    exact Reps.cons h1 (Reps.append h2 t)
theorem Reps.get {K : PySem.W.Frag} {fp : Nat → Option Addr} {Hs : Hp} : ∀ {ds : List D} {vs : List V} {i : Nat} {d : D}, Reps K fp Hs ds vs → ds[i]? = some d → ∃ v, vs[i]? = some v ∧ Rep K fp Hs d v
  | [], vs, i, d, h, e => by simp at e
  | x :: ds, vs, 0, d, h, e => by
    obtain ⟨v, r, rfl, h1, h2⟩ := Reps.cons_inv h
    simp at e
    subst e
    exact ⟨v, rfl, h1⟩
  | x :: ds, vs, i + 1, d, h, e => by
    obtain ⟨v, r, rfl, h1, h2⟩ := Reps.cons_inv h
    obtain ⟨u, e1, e2⟩ := Reps.get (i := i) h2 (by simpa using e)
    exact ⟨u, by simpa using e1, e2⟩
theorem Reps.getV {K : PySem.W.Frag} {fp : Nat → Option Addr} {Hs : Hp} : ∀ {ds : List D} {vs : List V} {i : Nat} {v : V}, Reps K fp Hs ds vs → vs[i]? = some v → ∃ d, ds[i]? = some d ∧ Rep K fp Hs d v
  | [], vs, i, v, h, e => by
    rw [Reps.nil_inv h] at e
    simp at e
  | x :: ds, vs, 0, v, h, e => by
    obtain ⟨u, r, rfl, h1, h2⟩ := Reps.cons_inv h
    simp at e
    subst e
    exact ⟨x, rfl, h1⟩
  | x :: ds, vs, i + 1, v, h, e => by
    obtain ⟨u, r, rfl, h1, h2⟩ := Reps.cons_inv h
    obtain ⟨d, e1, e2⟩ := Reps.getV (i := i) h2 (by simpa using e)
    exact ⟨d, by simpa using e1, e2⟩
theorem Reps.take {K : PySem.W.Frag} {fp : Nat → Option Addr} {Hs : Hp} : ∀ {ds : List D} {vs : List V} (n : Nat), Reps K fp Hs ds vs → Reps K fp Hs (ds.take n) (vs.take n)
  | [], vs, n, h => by
    rw [Reps.nil_inv h]
    simpa using Reps.nil
  | x :: ds, vs, 0, h => Reps.nil
  | x :: ds, vs, n + 1, h => by
    obtain ⟨u, r, rfl, h1, h2⟩ := Reps.cons_inv h
    exact Reps.cons h1 (Reps.take n h2)
theorem Reps.drop {K : PySem.W.Frag} {fp : Nat → Option Addr} {Hs : Hp} : ∀ {ds : List D} {vs : List V} (n : Nat), Reps K fp Hs ds vs → Reps K fp Hs (ds.drop n) (vs.drop n)
  | [], vs, n, h => by
    rw [Reps.nil_inv h]
    simpa using Reps.nil
  | x :: ds, vs, 0, h => h
  | x :: ds, vs, n + 1, h => by
    obtain ⟨u, r, rfl, h1, h2⟩ := Reps.cons_inv h
    exact Reps.drop n h2
theorem Reps.set {K : PySem.W.Frag} {fp : Nat → Option Addr} {Hs : Hp} : ∀ {ds : List D} {vs : List V} (n : Nat) {d : D} {v : V}, Reps K fp Hs ds vs → Rep K fp Hs d v → Reps K fp Hs (ds.set n d) (vs.set n v)
  | [], vs, n, d, v, h, r => by
    rw [Reps.nil_inv h]
    exact Reps.nil
  | x :: ds, vs, 0, d, v, h, r => by
    obtain ⟨u, r', rfl, h1, h2⟩ := Reps.cons_inv h
    exact Reps.cons r h2
  | x :: ds, vs, n + 1, d, v, h, r => by
    obtain ⟨u, r', rfl, h1, h2⟩ := Reps.cons_inv h
    exact Reps.cons h1 (Reps.set n h2 r)
theorem Reps.reverse {K : PySem.W.Frag} {fp : Nat → Option Addr} {Hs : Hp} : ∀ {ds : List D} {vs : List V}, Reps K fp Hs ds vs → Reps K fp Hs ds.reverse vs.reverse
  | [], vs, h => by
    rw [Reps.nil_inv h]
    exact Reps.nil
  | x :: ds, vs, h => by
    obtain ⟨u, r', rfl, h1, h2⟩ := Reps.cons_inv h
    rw [List.reverse_cons, List.reverse_cons]
    exact Reps.append (Reps.reverse h2) (Reps.cons h1 Reps.nil)
theorem Reps.dropLast {K : PySem.W.Frag} {fp : Nat → Option Addr} {Hs : Hp} {ds : List D} {vs : List V} (h : Reps K fp Hs ds vs) : Reps K fp Hs ds.dropLast vs.dropLast := by
  rw [List.dropLast_eq_take, List.dropLast_eq_take, h.length]
  exact h.take _

mutual
theorem Rep.mono {K : PySem.W.Frag} {fp fp' : Nat → Option Addr} {Hs Hs' : Hp} (hf : ∀ k a, fp k = some a → fp' k = some a) (e : Ex Hs Hs') : ∀ {d : D} {v : V}, Rep K fp Hs d v → Rep K fp' Hs' d v
  | .non, v, h => by
    unfold Rep at h ⊢
    exact h
  | .bl b, v, h => by
    unfold Rep at h ⊢
    exact h
  | .int i, v, h => by
    unfold Rep at h ⊢
    exact h
  | .str s, v, h => by
    unfold Rep at h ⊢
    exact h
  | .tup ds, v, h => by
    unfold Rep at h ⊢
    obtain ⟨a, vs, h1, h2, h3⟩ := h
    exact ⟨a, vs, h1, e.sqT h2, Reps.mono hf e h3⟩
  | .lst ds, v, h => by
    unfold Rep at h ⊢
    obtain ⟨a, vs, h1, h2, h3⟩ := h
    exact ⟨a, vs, h1, e _ _ h2, Reps.mono hf e h3⟩
  | .frz ds, v, h => by
    unfold Rep at h ⊢
    obtain ⟨a, vs, h1, h2, h3⟩ := h
    exact ⟨a, vs, h1, e.sqL h2, Reps.mono hf e h3⟩
  | .cel k, v, h => by
    unfold Rep at h ⊢
    obtain ⟨a, h1, h2⟩ := h
    exact ⟨a, h1, hf _ _ h2⟩
theorem Reps.mono {K : PySem.W.Frag} {fp fp' : Nat → Option Addr} {Hs Hs' : Hp} (hf : ∀ k a, fp k = some a → fp' k = some a) (e : Ex Hs Hs') : ∀ {ds : List D} {vs : List V}, Reps K fp Hs ds vs → Reps K fp' Hs' ds vs
  | [], vs, h => by
    unfold Reps at h ⊢
    exact h
  | d :: ds, vs, h => by
    unfold Reps at h ⊢
    obtain ⟨v, r, h1, h2, h3⟩ := h
    exact ⟨v, r, h1, Rep.mono hf e h2, Reps.mono hf e h3⟩
end

mutual
/-- no cell within -/
def noCel : D → Bool
  | .tup ds => noCels ds
  | .lst ds => noCels ds
  | .frz ds => noCels ds
  | .cel _ => false
  | _ => true
def noCels : List D → Bool
  | [] => true
  | d :: ds => noCel d && noCels ds
end
mutual
theorem Rep.anyfp {K : PySem.W.Frag} {fp fp' : Nat → Option Addr} {Hs : Hp} : ∀ {d : D} {v : V}, noCel d = true → Rep K fp Hs d v → Rep K fp' Hs d v
  | .non, v, n, h => by
    unfold Rep at h ⊢
    exact h
  | .bl b, v, n, h => by
    unfold Rep at h ⊢
    exact h
  | .int i, v, n, h => by
    unfold Rep at h ⊢
    exact h
  | .str s, v, n, h => by
    unfold Rep at h ⊢
    exact h
  | .tup ds, v, n, h => by
    unfold noCel at n
    unfold Rep at h ⊢
    obtain ⟨a, vs, h1, h2, h3⟩ := h
    exact ⟨a, vs, h1, h2, Reps.anyfp n h3⟩
  | .lst ds, v, n, h => by
    unfold noCel at n
    unfold Rep at h ⊢
    obtain ⟨a, vs, h1, h2, h3⟩ := h
    exact ⟨a, vs, h1, h2, Reps.anyfp n h3⟩
  | .frz ds, v, n, h => by
    unfold noCel at n
    unfold Rep at h ⊢
    obtain ⟨a, vs, h1, h2, h3⟩ := h
    exact ⟨a, vs, h1, h2, Reps.anyfp n h3⟩
  | .cel k, v, n, h => by
    unfold noCel at n
    cases n
theorem Reps.anyfp {K : PySem.W.Frag} {fp fp' : Nat → Option Addr} {Hs : Hp} : ∀ {ds : List D} {vs : List V}, noCels ds = true → Reps K fp Hs ds vs → Reps K fp' Hs ds vs
  | [], vs, n, h => by
    unfold Reps at h ⊢
    exact h
  | d :: ds, vs, n, h => by
    unfold noCels at n
    rw [Bool.and_eq_true] at n
    unfold Reps at h ⊢
    obtain ⟨v, r, h1, h2, h3⟩ := h
    exact ⟨v, r, h1, Rep.anyfp n.1 h2, Reps.anyfp n.2 h3⟩
end

/-! ### worlds -/
structure Wd where
  fps : List (List Addr)
  Hs : Hp
  H : Hp
abbrev Wd.fp (W : Wd) : Nat → Option Addr := fun k => W.fps[k]?.bind List.head?
/-- what may change -/
inductive Cell where
  | dead | lst (xs : List D) | ins (C : Addr) (ns : List Str) (xs : List D)
abbrev Mu := List Cell
def CellOk (K : PySem.W.Frag) (W : Wd) (fp : List Addr) : Cell → Prop
  | .dead => True
  | .lst ds => ∃ a vs, fp = [a] ∧ W.H a = some (.lst vs) ∧ Reps K W.fp W.Hs ds vs
  | .ins C ns ds => ∃ a dx vs, fp = [a, dx] ∧ W.H a = some (.ins C dx (ns.zip vs)) ∧ W.H dx = some (.own a) ∧ ns.length = ds.length ∧ Reps K W.fp W.Hs ds vs
structure StOk (K : PySem.W.Frag) (W : Wd) (μ : Mu) : Prop where
  ex : Ex W.Hs W.H
  len : W.fps.length = μ.length
  nd : W.fps.flatten.Nodup
  dom : ∀ a ∈ W.fps.flatten, W.H a ≠ none
  cell : ∀ (k : Nat) (c : Cell) (fp : List Addr), μ[k]? = some c → W.fps[k]? = some fp → CellOk K W fp c
  live : ∀ (k : Nat) (c : Cell) (fp : List Addr), μ[k]? = some c → c ≠ .dead → W.fps[k]? = some fp → ∀ a ∈ fp, W.Hs a = none
structure Step (W W' : Wd) : Prop where
  fps : ∃ ex, W'.fps = W.fps ++ ex
  hs : Ex W.Hs W'.Hs
  out : ∀ a o, W.H a = some o → a ∉ W.fps.flatten → W'.H a = some o
  dom : ∀ a, W.H a ≠ none → W'.H a ≠ none
  newf : ∀ a ∈ W'.fps.flatten, a ∈ W.fps.flatten ∨ W.H a = none
  news : ∀ a, W'.Hs a ≠ none → W.Hs a ≠ none ∨ W.H a = none ∨ a ∈ W.fps.flatten
theorem Step.refl (W : Wd) : Step W W := ⟨⟨[], by simp⟩, Ex.refl _, fun _ _ h _ => h, fun _ h => h, fun _ h => .inl h, fun _ h => .inl h⟩
theorem Step.trans {W W1 W2 : Wd} (a : Step W W1) (b : Step W1 W2) : Step W W2 := by
  obtain ⟨⟨e1, f1⟩, h1, o1, d1, n1, s1⟩ := a
  obtain ⟨⟨e2, f2⟩, h2, o2, d2, n2, s2⟩ := b
  refine ⟨⟨e1 ++ e2, by rw [f2, f1, List.append_assoc]⟩, h1.trans h2, fun a o h hn => ?_, fun a h => d2 a (d1 a h), fun a h => ?_, fun a h => ?_⟩
  · refine o2 a o (o1 a o h hn) fun hm => ?_
    rcases n1 a hm with z | z
    · exact hn z
    · rw [h] at z
      cases z
  · rcases n2 a h with z | z
    · exact n1 a z
    · right
      cases q : W.H a with
      | none => rfl
      | some o => exact absurd z (d1 a (by rw [q]; simp))
  · rcases s2 a h with z | z | z
    · exact s1 a z
    · right; left
      cases q : W.H a with
      | none => rfl
      | some o => exact absurd z (d1 a (by rw [q]; simp))
    · rcases n1 a z with y | y
      · exact .inr (.inr y)
      · exact .inr (.inl y)
theorem Step.fp {W W' : Wd} (s : Step W W') : ∀ k a, W.fp k = some a → W'.fp k = some a := by
  obtain ⟨ex, e⟩ := s.fps
  intro k a h
  show W'.fps[k]?.bind List.head? = some a
  have h' : W.fps[k]?.bind List.head? = some a := h
  cases q : W.fps[k]? with
  | none => rw [q] at h'; cases h'
  | some f =>
    have hk : k < W.fps.length := (List.getElem?_eq_some_iff.mp q).1
    rw [e, List.getElem?_append_left hk, q]
    rw [q] at h'
    exact h'
theorem Step.rep {K : PySem.W.Frag} {W W' : Wd} (s : Step W W') {d : D} {v : V} (h : Rep K W.fp W.Hs d v) : Rep K W'.fp W'.Hs d v := Rep.mono s.fp s.hs h
theorem Step.reps {K : PySem.W.Frag} {W W' : Wd} (s : Step W W') {d : List D} {v : List V} (h : Reps K W.fp W.Hs d v) : Reps K W'.fp W'.Hs d v := Reps.mono s.fp s.hs h

/-- a new stable object -/
theorem step_new {W : Wd} {p : Addr} {o : HO} (ex : Ex W.Hs W.H) (hp : W.H p = none) : Step W ⟨W.fps, upd W.Hs p o, upd W.H p o⟩ := by
  have hps : W.Hs p = none := by
    cases q : W.Hs p with
    | none => rfl
    | some u => rw [ex p u q] at hp; cases hp
  refine ⟨⟨[], by simp⟩, Ex.new hps, fun a u h _ => Ex.new hp a u h, fun a h => ?_, fun a h => .inl h, fun a h => ?_⟩
  · cases q : W.H a with
    | none => exact absurd q h
    | some u =>
      show upd W.H p o a ≠ none
      rw [Ex.new hp a u q]
      simp
  · by_cases e : a = p
    · subst e
      exact .inr (.inl hp)
    · left
      have h' : upd W.Hs p o a ≠ none := h
      rw [upd_ne e] at h'
      exact h'
theorem CellOk.move {K : PySem.W.Frag} {W W' : Wd} {fp : List Addr} {c : Cell} (h : CellOk K W fp c) (hf : ∀ k a, W.fp k = some a → W'.fp k = some a) (he : Ex W.Hs W'.Hs) (hk : ∀ a ∈ fp, ∀ o, W.H a = some o → W'.H a = some o) : CellOk K W' fp c := by
  cases c with
  | dead => trivial
  | lst ds =>
    obtain ⟨a, vs, rfl, h1, h2⟩ := h
    exact ⟨a, vs, rfl, hk a (by simp) _ h1, Reps.mono hf he h2⟩
  | ins C ns ds =>
    obtain ⟨a, dx, vs, rfl, h1, h2, h3, h4⟩ := h
    exact ⟨a, dx, vs, rfl, hk a (by simp) _ h1, hk dx (by simp) _ h2, h3, Reps.mono hf he h4⟩
theorem StOk.new {K : PySem.W.Frag} {W : Wd} {μ : Mu} {p : Addr} {o : HO} (h : StOk K W μ) (hp : W.H p = none) : StOk K ⟨W.fps, upd W.Hs p o, upd W.H p o⟩ μ := by
  have hps : W.Hs p = none := by
    cases q : W.Hs p with
    | none => rfl
    | some u => rw [h.ex p u q] at hp; cases hp
  refine ⟨fun a u e => ?_, h.len, h.nd, fun a ha => ?_, fun k c fp e1 e2 => ?_, fun k c fp e1 hc e2 a ha => ?_⟩
  · have e' : upd W.Hs p o a = some u := e
    show upd W.H p o a = some u
    by_cases q : a = p
    · subst q
      rw [upd_same] at e' ⊢
      exact e'
    · rw [upd_ne q] at e' ⊢
      exact h.ex a u e'
  · cases q : W.H a with
    | none => exact absurd q (h.dom a ha)
    | some u =>
      show upd W.H p o a ≠ none
      rw [Ex.new hp a u q]
      simp
  · exact (h.cell k c fp e1 e2).move (fun _ _ x => x) (Ex.new hps) fun a _ u q => Ex.new hp a u q
  · show upd W.Hs p o a = none
    rw [upd_ne]
    · exact h.live k c fp e1 hc e2 a ha
    · intro z
      subst z
      exact h.dom _ (List.mem_flatten.mpr ⟨fp, List.mem_of_getElem? e2, ha⟩) hp

/-! ### results -/
inductive Res (α : Type) where
  | ok (a : α) (μ : Mu) | exc (c : Nat) (d : D) (μ : Mu) | no
def Res.bind {α β : Type} (r : Res α) (f : α → Mu → Res β) : Res β := match r with
  | .ok a μ => f a μ
  | .exc c d μ => .exc c d μ
  | .no => .no
@[simp] theorem Res.bind_ok {α β : Type} (a : α) (μ : Mu) (f : α → Mu → Res β) : (Res.ok a μ).bind f = f a μ := rfl
@[simp] theorem Res.bind_exc {α β : Type} (c : Nat) (d : D) (μ : Mu) (f : α → Mu → Res β) : (Res.exc c d μ : Res α).bind f = .exc c d μ := rfl
@[simp] theorem Res.bind_no {α β : Type} (f : α → Mu → Res β) : (Res.no : Res α).bind f = .no := rfl
abbrev En := List (Option D)
inductive Out where
  | nx (ρ : En) (μ : Mu) | rt (d : D) (μ : Mu) | bk (ρ : En) (μ : Mu) | ct (ρ : En) (μ : Mu) | exc (c : Nat) (d : D) (ρ : En) (μ : Mu) | no
def EnvOk (K : PySem.W.Frag) (W : Wd) (ρ : En) (σ : L2.St) : Prop := ρ.length = σ.length ∧ ∀ (i : Nat) (d : D), ρ[i]? = some (some d) → ∃ v, σ[i]? = some (some v) ∧ Rep K W.fp W.Hs d v
theorem EnvOk.step {K : PySem.W.Frag} {W W' : Wd} {ρ : En} {σ : L2.St} (h : EnvOk K W ρ σ) (s : Step W W') : EnvOk K W' ρ σ := ⟨h.1, fun i d e => by
  obtain ⟨v, h1, h2⟩ := h.2 i d e
  exact ⟨v, h1, s.rep h2⟩⟩
theorem EnvOk.set {K : PySem.W.Frag} {W : Wd} {ρ : En} {σ : L2.St} (h : EnvOk K W ρ σ) (j : Nat) {d : D} {v : V} (r : Rep K W.fp W.Hs d v) : EnvOk K W (ρ.set j (some d)) (σ.set j (some v)) := by
  refine ⟨by simp [h.1], fun i x e => ?_⟩
  rw [List.getElem?_set] at e ⊢
  by_cases hij : j = i
  · subst hij
    rw [if_pos rfl] at e ⊢
    by_cases hl : j < ρ.length
    · rw [if_pos hl] at e
      rw [if_pos (by rw [← h.1]; exact hl)]
      cases e
      exact ⟨v, rfl, r⟩
    · rw [if_neg hl] at e
      cases e
  · rw [if_neg hij] at e ⊢
    exact h.2 i x e

/-- the field that an own error keeps -/
def fldOf : Nat → Str
  | 0 => "person" | 1 => "place" | 2 => "number" | 3 => "many" | 4 => "many" | 5 => "calls" | 6 => "at" | 7 => "text" | 8 => "at" | 9 => "reason" | 10 => "many" | _ => "many"

/-- an error as it lies behind: its own dict at dx -/
def ExcAt (K : PySem.W.Frag) (W : Wd) (c : Nat) (d : D) (dx : Addr) : Prop := ∃ v, W.H dx = some (.xd [(fldOf c, v)]) ∧ Rep K W.fp W.Hs d v

abbrev TEd := En → Mu → Res D
abbrev TTd := En → Mu → Res Bool
abbrev TAd := En → Mu → Res (List D)
abbrev TSd := En → Mu → Out

section
variable (K : PySem.W.Frag) (XC : Nat → Addr) (Wx : WX)
def SimE (t : TE) (T : TEd) : Prop := ∀ (W : Wd) (σ : L2.St) (ρ : En) (μ : Mu) (Q : VK), StOk K W μ → EnvOk K W ρ σ →
  (∀ W' v d μ', T ρ μ = .ok d μ' → Step W W' → StOk K W' μ' → Rep K W'.fp W'.Hs d v → Q v W'.H) →
  (∀ W' dx c d μ', T ρ μ = .exc c d μ' → Step W W' → StOk K W' μ' → ExcAt K W' c d dx → Wx (.ref (XC c)) (some dx) σ W'.H) →
  T ρ μ ≠ .no → t σ W.H Q
def SimT (t : TT) (T : TTd) : Prop := ∀ (W : Wd) (σ : L2.St) (ρ : En) (μ : Mu) (Q : Bool → Hp → Prop), StOk K W μ → EnvOk K W ρ σ →
  (∀ W' b μ', T ρ μ = .ok b μ' → Step W W' → StOk K W' μ' → Q b W'.H) →
  (∀ W' dx c d μ', T ρ μ = .exc c d μ' → Step W W' → StOk K W' μ' → ExcAt K W' c d dx → Wx (.ref (XC c)) (some dx) σ W'.H) →
  T ρ μ ≠ .no → t σ W.H Q
def SimA (t : TA) (T : TAd) : Prop := ∀ (W : Wd) (σ : L2.St) (ρ : En) (μ : Mu) (Q : List V → Hp → Prop), StOk K W μ → EnvOk K W ρ σ →
  (∀ W' vs ds μ', T ρ μ = .ok ds μ' → Step W W' → StOk K W' μ' → Reps K W'.fp W'.Hs ds vs → Q vs W'.H) →
  (∀ W' dx c d μ', T ρ μ = .exc c d μ' → Step W W' → StOk K W' μ' → ExcAt K W' c d dx → Wx (.ref (XC c)) (some dx) σ W'.H) →
  T ρ μ ≠ .no → t σ W.H Q
def SimS (t : TS) (T : TSd) : Prop := ∀ (W : Wd) (σ : L2.St) (ρ : En) (μ : Mu) (Dn : Ends), StOk K W μ → EnvOk K W ρ σ →
  (∀ W' σ' ρ' μ', T ρ μ = .nx ρ' μ' → Step W W' → StOk K W' μ' → EnvOk K W' ρ' σ' → Dn.nx σ' W'.H) →
  (∀ W' v d μ', T ρ μ = .rt d μ' → Step W W' → StOk K W' μ' → Rep K W'.fp W'.Hs d v → Dn.rt v W'.H) →
  (∀ W' σ' ρ' μ', T ρ μ = .bk ρ' μ' → Step W W' → StOk K W' μ' → EnvOk K W' ρ' σ' → Dn.bk σ' W'.H) →
  (∀ W' σ' ρ' μ', T ρ μ = .ct ρ' μ' → Step W W' → StOk K W' μ' → EnvOk K W' ρ' σ' → Dn.ct σ' W'.H) →
  (∀ W' dx σ' c d ρ' μ', T ρ μ = .exc c d ρ' μ' → Step W W' → StOk K W' μ' → EnvOk K W' ρ' σ' → ExcAt K W' c d dx → Wx (.ref (XC c)) (some dx) σ' W'.H) →
  T ρ μ ≠ .no → t Dn σ W.H
/-- a two-place operation on values -/
def SimR2 (r : R2) (f : D → D → Mu → Res D) : Prop := ∀ (W : Wd) (μ : Mu) (x y : D) (v u : V) (Q : VK), StOk K W μ → Rep K W.fp W.Hs x v → Rep K W.fp W.Hs y u →
  (∀ W' z d μ', f x y μ = .ok d μ' → Step W W' → StOk K W' μ' → Rep K W'.fp W'.Hs d z → Q z W'.H) → (∃ d μ', f x y μ = .ok d μ') → r v u W.H Q
def SimR1 (r : V → Hp → VK → Prop) (f : D → Mu → Res D) : Prop := ∀ (W : Wd) (μ : Mu) (x : D) (v : V) (Q : VK), StOk K W μ → Rep K W.fp W.Hs x v →
  (∀ W' z d μ', f x μ = .ok d μ' → Step W W' → StOk K W' μ' → Rep K W'.fp W'.Hs d z → Q z W'.H) → (∃ d μ', f x μ = .ok d μ') → r v W.H Q
def SimRC (r : List V → Hp → VK → Prop) (f : List D → Mu → Res D) : Prop := ∀ (W : Wd) (μ : Mu) (xs : List D) (vs : List V) (Q : VK), StOk K W μ → Reps K W.fp W.Hs xs vs →
  (∀ W' z d μ', f xs μ = .ok d μ' → Step W W' → StOk K W' μ' → Rep K W'.fp W'.Hs d z → Q z W'.H) → (∃ d μ', f xs μ = .ok d μ') → r vs W.H Q
end
/-- only what comes to a value counts -/
def okR (r : Res D) : Res D := match r with
  | .ok d μ => .ok d μ
  | _ => .no
theorem okR_ok {r : Res D} {d : D} {μ : Mu} : okR r = .ok d μ → r = .ok d μ := by
  cases r <;> simp [okR]
theorem okR_no {r : Res D} (h : okR r ≠ .no) : ∃ d μ, r = .ok d μ := by
  cases r with
  | ok d μ => exact ⟨d, μ, rfl⟩
  | exc c d μ => exact absurd rfl h
  | no => exact absurd rfl h
theorem okR_exc {r : Res D} {c : Nat} {d : D} {μ : Mu} : okR r ≠ .exc c d μ := by
  cases r <;> simp [okR]
@[simp] theorem okR_of (d : D) (μ : Mu) : okR (.ok d μ) = .ok d μ := rfl

/-! ### expressions -/
section
variable {K : PySem.W.Frag} {XC : Nat → Addr} {Wx : WX}
def xVar (i : Nat) : TEd := fun ρ μ => match ρ[i]? with
  | some (some d) => .ok d μ
  | _ => .no
theorem sim_var {i : Nat} : SimE K XC Wx (tVar i) (xVar i) := by
  intro W σ ρ μ Q h he q qx hn
  unfold xVar at q hn
  cases e : ρ[i]? with
  | none => rw [e] at hn; exact absurd rfl hn
  | some o =>
    cases o with
    | none => rw [e] at hn; exact absurd rfl hn
    | some d =>
      obtain ⟨v, h1, h2⟩ := he.2 i d e
      rw [e] at q
      exact ⟨v, h1, q W v d μ rfl (Step.refl W) h h2⟩
def xC (d : D) : TEd := fun _ μ => .ok d μ
/-- a scalar that stands for itself -/
def cV : D → V
  | .bl b => .bl b
  | .int i => .int i
  | .str s => .str s
  | _ => .non
def isC : D → Bool
  | .non => true
  | .bl _ => true
  | .int _ => true
  | .str _ => true
  | _ => false
theorem rep_c {fp : Nat → Option Addr} {Hs : Hp} {d : D} (h : isC d = true) : Rep K fp Hs d (cV d) := by
  cases d <;> first | (unfold Rep; rfl) | cases h
theorem rep_c_inv {fp : Nat → Option Addr} {Hs : Hp} {d : D} {v : V} (h : isC d = true) (r : Rep K fp Hs d v) : v = cV d := by
  cases d <;> first | (unfold Rep at r; exact r) | cases h
theorem sim_c {d : D} (h : isC d = true := by rfl) : SimE K XC Wx (tC (cV d)) (xC d) := by
  intro W σ ρ μ Q hs he q qx hn
  exact q W _ d μ rfl (Step.refl W) hs (rep_c h)
def xOp (f : D → D → Mu → Res D) (Ta Tb : TEd) : TEd := fun ρ μ => (Ta ρ μ).bind fun x μ1 => (Tb ρ μ1).bind fun y μ2 => okR (f x y μ2)
theorem sim_op {r : R2} {f : D → D → Mu → Res D} {ta tb : TE} {Ta Tb : TEd} (hr : SimR2 K r f) (ha : SimE K XC Wx ta Ta) (hb : SimE K XC Wx tb Tb) : SimE K XC Wx (tOp r ta tb) (xOp f Ta Tb) := by
  intro W σ ρ μ Q h he q qx hn
  unfold xOp at q qx hn
  refine ha W σ ρ μ _ h he (fun W1 v x μ1 e1 s1 h1 r1 => ?_) (fun W1 dx c d μ1 e1 s1 h1 r1 => ?_) (fun e => by rw [e] at hn; exact hn rfl)
  · rw [e1] at q qx hn
    refine hb W1 σ ρ μ1 _ h1 (he.step s1) (fun W2 u y μ2 e2 s2 h2 r2 => ?_) (fun W2 dx c d μ2 e2 s2 h2 r2 => ?_) (fun e => by rw [Res.bind_ok, e] at hn; exact hn rfl)
    · rw [Res.bind_ok, e2, Res.bind_ok] at q hn
      exact hr W2 μ2 x y v u Q h2 (s2.rep r1) r2 (fun W3 z d μ3 e3 s3 h3 r3 => q W3 z d μ3 (by rw [e3]; rfl) ((s1.trans s2).trans s3) h3 r3) (okR_no hn)
    · rw [Res.bind_ok, e2] at qx
      exact qx W2 dx c d μ2 rfl (s1.trans s2) h2 r2
  · rw [e1] at qx
    exact qx W1 dx c d μ1 rfl s1 h1 r1
def xUn (f : D → Mu → Res D) (Ta : TEd) : TEd := fun ρ μ => (Ta ρ μ).bind fun x μ1 => okR (f x μ1)
theorem sim_un {r : V → Hp → VK → Prop} {f : D → Mu → Res D} {ta : TE} {Ta : TEd} (hr : SimR1 K r f) (ha : SimE K XC Wx ta Ta) : SimE K XC Wx (tUn r ta) (xUn f Ta) := by
  intro W σ ρ μ Q h he q qx hn
  unfold xUn at q qx hn
  refine ha W σ ρ μ _ h he (fun W1 v x μ1 e1 s1 h1 r1 => ?_) (fun W1 dx c d μ1 e1 s1 h1 r1 => ?_) (fun e => by rw [e] at hn; exact hn rfl)
  · rw [e1] at q qx hn
    rw [Res.bind_ok] at q hn
    exact hr W1 μ1 x v Q h1 r1 (fun W3 z d μ3 e3 s3 h3 r3 => q W3 z d μ3 (by rw [e3]; rfl) (s1.trans s3) h3 r3) (okR_no hn)
  · rw [e1] at qx
    exact qx W1 dx c d μ1 rfl s1 h1 r1
def xNil : TAd := fun _ μ => .ok [] μ
theorem sim_nil : SimA K XC Wx tNil xNil := by
  intro W σ ρ μ Q h he q qx hn
  exact q W [] [] μ rfl (Step.refl W) h Reps.nil
def xCons (Ta : TEd) (Tr : TAd) : TAd := fun ρ μ => (Ta ρ μ).bind fun x μ1 => (Tr ρ μ1).bind fun ys μ2 => .ok (x :: ys) μ2
theorem sim_cons {ta : TE} {tr : TA} {Ta : TEd} {Tr : TAd} (ha : SimE K XC Wx ta Ta) (hb : SimA K XC Wx tr Tr) : SimA K XC Wx (tCons ta tr) (xCons Ta Tr) := by
  intro W σ ρ μ Q h he q qx hn
  unfold xCons at q qx hn
  refine ha W σ ρ μ _ h he (fun W1 v x μ1 e1 s1 h1 r1 => ?_) (fun W1 dx c d μ1 e1 s1 h1 r1 => ?_) (fun e => by rw [e] at hn; exact hn rfl)
  · rw [e1] at q qx hn
    refine hb W1 σ ρ μ1 _ h1 (he.step s1) (fun W2 u y μ2 e2 s2 h2 r2 => ?_) (fun W2 dx c d μ2 e2 s2 h2 r2 => ?_) (fun e => by rw [Res.bind_ok, e] at hn; exact hn rfl)
    · rw [Res.bind_ok, e2, Res.bind_ok] at q
      exact q W2 _ _ μ2 rfl (s1.trans s2) h2 (Reps.cons (s2.rep r1) r2)
    · rw [Res.bind_ok, e2] at qx
      exact qx W2 dx c d μ2 rfl (s1.trans s2) h2 r2
  · rw [e1] at qx
    exact qx W1 dx c d μ1 rfl s1 h1 r1
/-- the most items that a list or tuple is let have here -/
def lim : Nat := 100000
theorem lim_le {n : Nat} (h : n ≤ lim) : n ≤ sizeLine := Nat.le_trans h (by decide)
theorem lim_lt {n : Nat} (h : n < lim) : n < sizeLine := Nat.lt_of_lt_of_le h (by decide)
def mkTup (xs : List D) (μ : Mu) : Res D := if xs.length ≤ lim then .ok (.tup xs) μ else .no
def mkLst (xs : List D) (μ : Mu) : Res D := if xs.length ≤ lim then .ok (.lst xs) μ else .no
theorem rep_tup_new {W : Wd} {μ : Mu} {ds : List D} {vs : List V} {p : Addr} (h : StOk K W μ) (r : Reps K W.fp W.Hs ds vs) (hp : W.H p = none) :
    Step W ⟨W.fps, upd W.Hs p (.tup vs), upd W.H p (.tup vs)⟩ ∧ StOk K ⟨W.fps, upd W.Hs p (.tup vs), upd W.H p (.tup vs)⟩ μ ∧ Rep K W.fp (upd W.Hs p (.tup vs)) (.tup ds) (.ref p) := by
  have s := step_new (o := .tup vs) h.ex hp
  refine ⟨s, h.new hp, ?_⟩
  unfold Rep
  exact ⟨p, vs, rfl, .inl (.inl upd_same), s.reps r⟩
theorem rep_lst_new {W : Wd} {μ : Mu} {ds : List D} {vs : List V} {p : Addr} (h : StOk K W μ) (r : Reps K W.fp W.Hs ds vs) (hp : W.H p = none) :
    Step W ⟨W.fps, upd W.Hs p (.lst vs), upd W.H p (.lst vs)⟩ ∧ StOk K ⟨W.fps, upd W.Hs p (.lst vs), upd W.H p (.lst vs)⟩ μ ∧ Rep K W.fp (upd W.Hs p (.lst vs)) (.lst ds) (.ref p) := by
  have s := step_new (o := .lst vs) h.ex hp
  refine ⟨s, h.new hp, ?_⟩
  unfold Rep
  exact ⟨p, vs, rfl, upd_same, s.reps r⟩
def xTup (T : TAd) : TEd := fun ρ μ => (T ρ μ).bind mkTup
def xLst (T : TAd) : TEd := fun ρ μ => (T ρ μ).bind mkLst
theorem sim_tup {t : TA} {T : TAd} (ha : SimA K XC Wx t T) : SimE K XC Wx (tTup t) (xTup T) := by
  intro W σ ρ μ Q h he q qx hn
  unfold xTup at q qx hn
  refine ha W σ ρ μ _ h he (fun W1 vs xs μ1 e1 s1 h1 r1 => ?_) (fun W1 dx c d μ1 e1 s1 h1 r1 => ?_) (fun e => by rw [e] at hn; exact hn rfl)
  · rw [e1, Res.bind_ok] at q hn
    unfold mkTup at q hn
    by_cases hl : xs.length ≤ lim
    · rw [if_pos hl] at q
      refine ⟨lim_le (by rw [← r1.length]; exact hl), fun p hp => ?_⟩
      obtain ⟨s2, h2, r2⟩ := rep_tup_new h1 r1 hp
      exact q _ _ _ μ1 rfl (s1.trans s2) h2 r2
    · rw [if_neg hl] at hn
      exact absurd rfl hn
  · rw [e1] at qx
    exact qx W1 dx c d μ1 rfl s1 h1 r1
theorem sim_lst {t : TA} {T : TAd} (ha : SimA K XC Wx t T) : SimE K XC Wx (tLst t) (xLst T) := by
  intro W σ ρ μ Q h he q qx hn
  unfold xLst at q qx hn
  refine ha W σ ρ μ _ h he (fun W1 vs xs μ1 e1 s1 h1 r1 => ?_) (fun W1 dx c d μ1 e1 s1 h1 r1 => ?_) (fun e => by rw [e] at hn; exact hn rfl)
  · rw [e1, Res.bind_ok] at q hn
    unfold mkLst at q hn
    by_cases hl : xs.length ≤ lim
    · rw [if_pos hl] at q
      refine ⟨lim_le (by rw [← r1.length]; exact hl), fun p hp => ?_⟩
      obtain ⟨s2, h2, r2⟩ := rep_lst_new h1 r1 hp
      exact q _ _ _ μ1 rfl (s1.trans s2) h2 r2
    · rw [if_neg hl] at hn
      exact absurd rfl hn
  · rw [e1] at qx
    exact qx W1 dx c d μ1 rfl s1 h1 r1
/-- a call of a builtin by values -/
def xCB (f : List D → Mu → Res D) (T : TAd) : TEd := fun ρ μ => (T ρ μ).bind fun xs μ1 => okR (f xs μ1)
theorem sim_cb {r : List V → Hp → VK → Prop} {f : List D → Mu → Res D} {t : TA} {T : TAd} (hr : SimRC K r f) (ha : SimA K XC Wx t T) : SimE K XC Wx (tCB r t) (xCB f T) := by
  intro W σ ρ μ Q h he q qx hn
  unfold xCB at q qx hn
  refine ha W σ ρ μ _ h he (fun W1 v x μ1 e1 s1 h1 r1 => ?_) (fun W1 dx c d μ1 e1 s1 h1 r1 => ?_) (fun e => by rw [e] at hn; exact hn rfl)
  · rw [e1] at q qx hn
    rw [Res.bind_ok] at q hn
    exact hr W1 μ1 x v Q h1 r1 (fun W3 z d μ3 e3 s3 h3 r3 => q W3 z d μ3 (by rw [e3]; rfl) (s1.trans s3) h3 r3) (okR_no hn)
  · rw [e1] at qx
    exact qx W1 dx c d μ1 rfl s1 h1 r1
end
end DL
end
section
set_option maxRecDepth 100000
set_option maxHeartbeats 400000
/-! DStm: tests, targets, statements, loops, comprehensions over DLay. -/
namespace DL
open PySem PySem.Spec PyProof.Rows L2
section
variable {K : PySem.W.Frag} {XC : Nat → Addr} {Wx : WX}
/-! ### tests -/
def asB (d : D) (μ : Mu) : Res Bool := match d with
  | .bl b => .ok b μ
  | _ => .no
def xTest (T : TEd) : TTd := fun ρ μ => (T ρ μ).bind asB
theorem sim_test {t : TE} {T : TEd} (h : SimE K XC Wx t T) : SimT K XC Wx (tTest t) (xTest T) := by
  intro W σ ρ μ Q hs he q qx hn
  unfold xTest at q qx hn
  refine h W σ ρ μ _ hs he (fun W1 v x μ1 e1 s1 h1 r1 => ?_) (fun W1 dx c d μ1 e1 s1 h1 r1 => ?_) (fun e => by rw [e] at hn; exact hn rfl)
  · rw [e1, Res.bind_ok] at q hn
    cases x with
    | bl b =>
      unfold Rep at r1
      exact ⟨b, r1, q W1 b μ1 rfl s1 h1⟩
    | _ => exact absurd rfl hn
  · rw [e1] at qx
    exact qx W1 dx c d μ1 rfl s1 h1 r1
theorem sim_tB {t : TE} {T : TEd} (h : SimE K XC Wx t T) : SimT K XC Wx (tB t) (xTest T) := sim_test h
def xAnd (A B : TTd) : TTd := fun ρ μ => (A ρ μ).bind fun a μ1 => if a = true then B ρ μ1 else .ok false μ1
def xOr (A B : TTd) : TTd := fun ρ μ => (A ρ μ).bind fun a μ1 => if a = true then .ok true μ1 else B ρ μ1
def xNot (A : TTd) : TTd := fun ρ μ => (A ρ μ).bind fun a μ1 => .ok (!a) μ1
theorem sim_and {t u : TT} {A B : TTd} (ha : SimT K XC Wx t A) (hb : SimT K XC Wx u B) : SimT K XC Wx (tAnd t u) (xAnd A B) := by
  intro W σ ρ μ Q hs he q qx hn
  unfold xAnd at q qx hn
  refine ha W σ ρ μ _ hs he (fun W1 a μ1 e1 s1 h1 => ?_) (fun W1 dx c d μ1 e1 s1 h1 r1 => ?_) (fun e => by rw [e] at hn; exact hn rfl)
  · rw [e1, Res.bind_ok] at q qx hn
    cases a with
    | true =>
      rw [if_pos rfl] at q qx hn
      rw [if_pos rfl]
      exact hb W1 σ ρ μ1 Q h1 (he.step s1) (fun W2 b μ2 e2 s2 h2 => q W2 b μ2 e2 (s1.trans s2) h2) (fun W2 dx c d μ2 e2 s2 h2 r2 => qx W2 dx c d μ2 e2 (s1.trans s2) h2 r2) hn
    | false =>
      rw [if_neg (by decide)] at q ⊢
      exact q W1 false μ1 rfl s1 h1
  · rw [e1] at qx
    exact qx W1 dx c d μ1 rfl s1 h1 r1
theorem sim_or {t u : TT} {A B : TTd} (ha : SimT K XC Wx t A) (hb : SimT K XC Wx u B) : SimT K XC Wx (tOr t u) (xOr A B) := by
  intro W σ ρ μ Q hs he q qx hn
  unfold xOr at q qx hn
  refine ha W σ ρ μ _ hs he (fun W1 a μ1 e1 s1 h1 => ?_) (fun W1 dx c d μ1 e1 s1 h1 r1 => ?_) (fun e => by rw [e] at hn; exact hn rfl)
  · rw [e1, Res.bind_ok] at q qx hn
    cases a with
    | false =>
      rw [if_neg (by decide)] at q qx hn
      rw [if_neg (by decide)]
      exact hb W1 σ ρ μ1 Q h1 (he.step s1) (fun W2 b μ2 e2 s2 h2 => q W2 b μ2 e2 (s1.trans s2) h2) (fun W2 dx c d μ2 e2 s2 h2 r2 => qx W2 dx c d μ2 e2 (s1.trans s2) h2 r2) hn
    | true =>
      rw [if_pos rfl] at q ⊢
      exact q W1 true μ1 rfl s1 h1
  · rw [e1] at qx
    exact qx W1 dx c d μ1 rfl s1 h1 r1
theorem sim_not {t : TT} {A : TTd} (ha : SimT K XC Wx t A) : SimT K XC Wx (tNot t) (xNot A) := by
  intro W σ ρ μ Q hs he q qx hn
  unfold xNot at q qx hn
  refine ha W σ ρ μ _ hs he (fun W1 a μ1 e1 s1 h1 => ?_) (fun W1 dx c d μ1 e1 s1 h1 r1 => ?_) (fun e => by rw [e] at hn; exact hn rfl)
  · rw [e1, Res.bind_ok] at q
    exact q W1 (!a) μ1 rfl s1 h1
  · rw [e1] at qx
    exact qx W1 dx c d μ1 rfl s1 h1 r1
/-- and, or, not as values: all but the last a bool -/
def xAndV (A B : TEd) : TEd := fun ρ μ => (xTest A ρ μ).bind fun a μ1 => if a = true then B ρ μ1 else .ok (.bl false) μ1
def xOrV (A B : TEd) : TEd := fun ρ μ => (xTest A ρ μ).bind fun a μ1 => if a = true then .ok (.bl true) μ1 else B ρ μ1
def xNotV (A : TEd) : TEd := fun ρ μ => (xTest A ρ μ).bind fun a μ1 => .ok (.bl (!a)) μ1
theorem rep_bl {fp : Nat → Option Addr} {Hs : Hp} {b : Bool} : Rep K fp Hs (.bl b) (.bl b) := by
  unfold Rep
  rfl
theorem rep_int {fp : Nat → Option Addr} {Hs : Hp} {i : Int} : Rep K fp Hs (.int i) (.int i) := by
  unfold Rep
  rfl
theorem rep_str {fp : Nat → Option Addr} {Hs : Hp} {i : Str} : Rep K fp Hs (.str i) (.str i) := by
  unfold Rep
  rfl
theorem rep_non {fp : Nat → Option Addr} {Hs : Hp} : Rep K fp Hs .non .non := by
  unfold Rep
  rfl
theorem rep_int_inv {fp : Nat → Option Addr} {Hs : Hp} {i : Int} {v : V} (h : Rep K fp Hs (.int i) v) : v = .int i := by
  unfold Rep at h
  exact h
theorem rep_bl_inv {fp : Nat → Option Addr} {Hs : Hp} {i : Bool} {v : V} (h : Rep K fp Hs (.bl i) v) : v = .bl i := by
  unfold Rep at h
  exact h
theorem rep_str_inv {fp : Nat → Option Addr} {Hs : Hp} {i : Str} {v : V} (h : Rep K fp Hs (.str i) v) : v = .str i := by
  unfold Rep at h
  exact h
theorem rep_non_inv {fp : Nat → Option Addr} {Hs : Hp} {v : V} (h : Rep K fp Hs .non v) : v = .non := by
  unfold Rep at h
  exact h
theorem rep_tup_inv {fp : Nat → Option Addr} {Hs : Hp} {ds : List D} {v : V} (h : Rep K fp Hs (.tup ds) v) : ∃ a vs, v = .ref a ∧ SqT K Hs a vs ∧ Reps K fp Hs ds vs := by
  unfold Rep at h
  exact h
theorem rep_lst_inv {fp : Nat → Option Addr} {Hs : Hp} {ds : List D} {v : V} (h : Rep K fp Hs (.lst ds) v) : ∃ a vs, v = .ref a ∧ Hs a = some (.lst vs) ∧ Reps K fp Hs ds vs := by
  unfold Rep at h
  exact h
theorem rep_frz_inv {fp : Nat → Option Addr} {Hs : Hp} {ds : List D} {v : V} (h : Rep K fp Hs (.frz ds) v) : ∃ a vs, v = .ref a ∧ SqL K Hs a vs ∧ Reps K fp Hs ds vs := by
  unfold Rep at h
  exact h
theorem rep_cel_inv {fp : Nat → Option Addr} {Hs : Hp} {k : Nat} {v : V} (h : Rep K fp Hs (.cel k) v) : ∃ a, v = .ref a ∧ fp k = some a := by
  unfold Rep at h
  exact h
theorem sim_andV {ta tb : TE} {A B : TEd} (ha : SimE K XC Wx ta A) (hb : SimE K XC Wx tb B) : SimE K XC Wx (tAndV ta tb) (xAndV A B) := by
  intro W σ ρ μ Q hs he q qx hn
  unfold xAndV at q qx hn
  have ht := sim_test ha
  refine ht W σ ρ μ _ hs he (fun W1 a μ1 e1 s1 h1 => ?_) (fun W1 dx c d μ1 e1 s1 h1 r1 => ?_) (fun e => by rw [e] at hn; exact hn rfl)
  · rw [e1, Res.bind_ok] at q qx hn
    cases a with
    | true =>
      rw [if_pos rfl] at q qx hn
      rw [if_pos rfl]
      exact hb W1 σ ρ μ1 Q h1 (he.step s1) (fun W2 v b μ2 e2 s2 h2 r2 => q W2 v b μ2 e2 (s1.trans s2) h2 r2) (fun W2 dx c d μ2 e2 s2 h2 r2 => qx W2 dx c d μ2 e2 (s1.trans s2) h2 r2) hn
    | false =>
      rw [if_neg (by decide)] at q ⊢
      exact q W1 _ (.bl false) μ1 rfl s1 h1 rep_bl
  · rw [e1] at qx
    exact qx W1 dx c d μ1 rfl s1 h1 r1
theorem sim_orV {ta tb : TE} {A B : TEd} (ha : SimE K XC Wx ta A) (hb : SimE K XC Wx tb B) : SimE K XC Wx (tOrV ta tb) (xOrV A B) := by
  intro W σ ρ μ Q hs he q qx hn
  unfold xOrV at q qx hn
  have ht := sim_test ha
  refine ht W σ ρ μ _ hs he (fun W1 a μ1 e1 s1 h1 => ?_) (fun W1 dx c d μ1 e1 s1 h1 r1 => ?_) (fun e => by rw [e] at hn; exact hn rfl)
  · rw [e1, Res.bind_ok] at q qx hn
    cases a with
    | false =>
      rw [if_neg (by decide)] at q qx hn
      rw [if_neg (by decide)]
      exact hb W1 σ ρ μ1 Q h1 (he.step s1) (fun W2 v b μ2 e2 s2 h2 r2 => q W2 v b μ2 e2 (s1.trans s2) h2 r2) (fun W2 dx c d μ2 e2 s2 h2 r2 => qx W2 dx c d μ2 e2 (s1.trans s2) h2 r2) hn
    | true =>
      rw [if_pos rfl] at q ⊢
      exact q W1 _ (.bl true) μ1 rfl s1 h1 rep_bl
  · rw [e1] at qx
    exact qx W1 dx c d μ1 rfl s1 h1 r1
theorem sim_notV {ta : TE} {A : TEd} (ha : SimE K XC Wx ta A) : SimE K XC Wx (tNotV ta) (xNotV A) := by
  intro W σ ρ μ Q hs he q qx hn
  unfold xNotV at q qx hn
  have ht := sim_test ha
  refine ht W σ ρ μ _ hs he (fun W1 a μ1 e1 s1 h1 => ?_) (fun W1 dx c d μ1 e1 s1 h1 r1 => ?_) (fun e => by rw [e] at hn; exact hn rfl)
  · rw [e1, Res.bind_ok] at q
    exact q W1 _ (.bl (!a)) μ1 rfl s1 h1 rep_bl
  · rw [e1] at qx
    exact qx W1 dx c d μ1 rfl s1 h1 r1
def xIf (T : TTd) (A B : TEd) : TEd := fun ρ μ => (T ρ μ).bind fun a μ1 => if a = true then A ρ μ1 else B ρ μ1
theorem sim_if {t : TT} {ta tb : TE} {T : TTd} {A B : TEd} (ht : SimT K XC Wx t T) (ha : SimE K XC Wx ta A) (hb : SimE K XC Wx tb B) : SimE K XC Wx (tIf t ta tb) (xIf T A B) := by
  intro W σ ρ μ Q hs he q qx hn
  unfold xIf at q qx hn
  refine ht W σ ρ μ _ hs he (fun W1 a μ1 e1 s1 h1 => ?_) (fun W1 dx c d μ1 e1 s1 h1 r1 => ?_) (fun e => by rw [e] at hn; exact hn rfl)
  · rw [e1, Res.bind_ok] at q qx hn
    cases a with
    | true =>
      rw [if_pos rfl] at q qx hn
      rw [if_pos rfl]
      exact ha W1 σ ρ μ1 Q h1 (he.step s1) (fun W2 v b μ2 e2 s2 h2 r2 => q W2 v b μ2 e2 (s1.trans s2) h2 r2) (fun W2 dx c d μ2 e2 s2 h2 r2 => qx W2 dx c d μ2 e2 (s1.trans s2) h2 r2) hn
    | false =>
      rw [if_neg (by decide)] at q qx hn
      rw [if_neg (by decide)]
      exact hb W1 σ ρ μ1 Q h1 (he.step s1) (fun W2 v b μ2 e2 s2 h2 r2 => q W2 v b μ2 e2 (s1.trans s2) h2 r2) (fun W2 dx c d μ2 e2 s2 h2 r2 => qx W2 dx c d μ2 e2 (s1.trans s2) h2 r2) hn
  · rw [e1] at qx
    exact qx W1 dx c d μ1 rfl s1 h1 r1
def xChain (f g : D → D → Mu → Res D) (A B C : TEd) : TEd := fun ρ μ => (A ρ μ).bind fun x μ1 => (B ρ μ1).bind fun y μ2 => ((okR (f x y μ2)).bind asB).bind fun b μ3 =>
  if b = true then (C ρ μ3).bind fun z μ4 => okR (g y z μ4) else .ok (.bl false) μ3
theorem sim_chain {r r' : R2} {f g : D → D → Mu → Res D} {ta tb tc : TE} {A B C : TEd} (hr : SimR2 K r f) (hg : SimR2 K r' g) (ha : SimE K XC Wx ta A) (hb : SimE K XC Wx tb B) (hc : SimE K XC Wx tc C) :
    SimE K XC Wx (tChain r r' ta tb tc) (xChain f g A B C) := by
  intro W σ ρ μ Q h he q qx hn
  unfold xChain at q qx hn
  refine ha W σ ρ μ _ h he (fun W1 v x μ1 e1 s1 h1 r1 => ?_) (fun W1 dx c d μ1 e1 s1 h1 r1 => ?_) (fun e => by rw [e] at hn; exact hn rfl)
  · rw [e1] at q qx hn
    refine hb W1 σ ρ μ1 _ h1 (he.step s1) (fun W2 u y μ2 e2 s2 h2 r2 => ?_) (fun W2 dx c d μ2 e2 s2 h2 r2 => ?_) (fun e => by rw [Res.bind_ok, e] at hn; exact hn rfl)
    · rw [Res.bind_ok, e2, Res.bind_ok] at q qx hn
      have hok : ∃ d μ', f x y μ2 = .ok d μ' := okR_no fun e => by
        rw [e] at hn
        exact hn rfl
      refine hr W2 μ2 x y v u _ h2 (s2.rep r1) r2 (fun W3 z d μ3 e3 s3 h3 r3 => ?_) hok
      rw [e3, okR_of, Res.bind_ok] at q qx hn
      cases d with
      | bl b =>
        refine ⟨b, rep_bl_inv r3, ?_⟩
        have hq : (asB (.bl b) μ3) = .ok b μ3 := rfl
        rw [hq, Res.bind_ok] at q qx hn
        cases b with
        | true =>
          rw [if_pos rfl] at q qx hn
          rw [if_pos rfl]
          refine hc W3 σ ρ μ3 _ h3 (he.step ((s1.trans s2).trans s3)) (fun W4 w' z' μ4 e4 s4 h4 r4 => ?_) (fun W4 dx c d μ4 e4 s4 h4 r4 => ?_) (fun e => by rw [e] at hn; exact hn rfl)
          · rw [e4, Res.bind_ok] at q hn
            exact hg W4 μ4 y z' u w' Q h4 ((s3.trans s4).rep r2) r4 (fun W5 z5 d5 μ5 e5 s5 h5 r5 => q W5 z5 d5 μ5 (by rw [e5]; rfl) ((((s1.trans s2).trans s3).trans s4).trans s5) h5 r5) (okR_no hn)
          · rw [e4] at qx
            exact qx W4 dx c d μ4 rfl (((s1.trans s2).trans s3).trans s4) h4 r4
        | false =>
          rw [if_neg (by decide)] at q ⊢
          exact q W3 _ (.bl false) μ3 rfl ((s1.trans s2).trans s3) h3 rep_bl
      | _ => exact absurd rfl hn
    · rw [Res.bind_ok, e2] at qx
      exact qx W2 dx c d μ2 rfl (s1.trans s2) h2 r2
  · rw [e1] at qx
    exact qx W1 dx c d μ1 rfl s1 h1 r1

/-! ### targets -/
def SimG (K : PySem.W.Frag) (XC : Nat → Addr) (Wx : WX) (js : List Nat) (g : TG) (G : D → En → Mu → Res En) : Prop := ∀ (W : Wd) (σ : L2.St) (ρ : En) (μ : Mu) (d : D) (v : V) (Q : L2.St → Hp → Prop), StOk K W μ → EnvOk K W ρ σ → Rep K W.fp W.Hs d v →
  (∀ W' σ' ρ' μ', G d ρ μ = .ok ρ' μ' → Step W W' → StOk K W' μ' → EnvOk K W' ρ' σ' → σ'.length = σ.length → (∀ j, j ∉ js → σ'[j]? = σ[j]?) → Q σ' W'.H) →
  (∃ ρ' μ', G d ρ μ = .ok ρ' μ') → g v σ W.H Q
def SimGs (K : PySem.W.Frag) (XC : Nat → Addr) (Wx : WX) (js : List Nat) (g : TGs) (G : List D → En → Mu → Res En) : Prop := ∀ (W : Wd) (σ : L2.St) (ρ : En) (μ : Mu) (d : List D) (v : List V) (Q : L2.St → Hp → Prop), StOk K W μ → EnvOk K W ρ σ → Reps K W.fp W.Hs d v →
  (∀ W' σ' ρ' μ', G d ρ μ = .ok ρ' μ' → Step W W' → StOk K W' μ' → EnvOk K W' ρ' σ' → σ'.length = σ.length → (∀ j, j ∉ js → σ'[j]? = σ[j]?) → Q σ' W'.H) →
  (∃ ρ' μ', G d ρ μ = .ok ρ' μ') → g v σ W.H Q
def xgName (i : Nat) (d : D) (ρ : En) (μ : Mu) : Res En := .ok (ρ.set i (some d)) μ
theorem simg_name {i : Nat} : SimG K XC Wx [i] (gName i) (xgName i) := by
  intro W σ ρ μ d v Q h he r q hx
  refine q W _ _ μ rfl (Step.refl W) h (he.set i r) (by simp) fun j hj => ?_
  rw [List.getElem?_set_ne]
  intro e
  exact hj (by rw [e]; simp)
def xgNil (ds : List D) (ρ : En) (μ : Mu) : Res En := match ds with
  | [] => .ok ρ μ
  | _ => .no
def xgCons (G : D → En → Mu → Res En) (Gr : List D → En → Mu → Res En) (ds : List D) (ρ : En) (μ : Mu) : Res En := match ds with
  | d :: r => (G d ρ μ).bind fun ρ1 μ1 => Gr r ρ1 μ1
  | [] => .no
theorem simg_nil : SimGs K XC Wx [] gNil xgNil := by
  intro W σ ρ μ d v Q h he r q hx
  cases d with
  | nil => exact ⟨r.nil_inv, q W σ ρ μ rfl (Step.refl W) h he rfl fun _ _ => rfl⟩
  | cons x d =>
    obtain ⟨_, _, e⟩ := hx
    cases e
theorem simg_cons {js ks : List Nat} {g : TG} {gr : TGs} {G : D → En → Mu → Res En} {Gr : List D → En → Mu → Res En} (h1 : SimG K XC Wx js g G) (h2 : SimGs K XC Wx ks gr Gr) : SimGs K XC Wx (js ++ ks) (gCons g gr) (xgCons G Gr) := by
  intro W σ ρ μ d v Q h he r q hx
  cases d with
  | nil =>
    obtain ⟨_, _, e⟩ := hx
    cases e
  | cons x d =>
    obtain ⟨u, rr, rfl, r1, r2⟩ := r.cons_inv
    unfold xgCons at q hx
    dsimp only at q hx
    refine ⟨u, rr, rfl, h1 W σ ρ μ x u _ h he r1 (fun W1 σ1 ρ1 μ1 e1 s1 h1 he1 hl1 hj1 => ?_) ?_⟩
    · rw [e1] at q hx
      refine h2 W1 σ1 ρ1 μ1 d rr Q h1 he1 (s1.reps r2) (fun W2 σ2 ρ2 μ2 e2 s2 h2 he2 hl2 hj2 => ?_) hx
      refine q W2 σ2 ρ2 μ2 e2 (s1.trans s2) h2 he2 (hl2.trans hl1) fun j hj => ?_
      rw [hj2 j (fun z => hj (List.mem_append_right _ z)), hj1 j (fun z => hj (List.mem_append_left _ z))]
    · obtain ⟨ρ', μ', e⟩ := hx
      cases q2 : G x ρ μ with
      | ok a b => exact ⟨a, b, rfl⟩
      | exc c d' m => rw [q2] at e; cases e
      | no => rw [q2] at e; cases e
def xgTup (n : Nat) (G : List D → En → Mu → Res En) (d : D) (ρ : En) (μ : Mu) : Res En := match d with
  | .tup ds => if ds.length = n then G ds ρ μ else .no
  | _ => .no
theorem simg_tup {js : List Nat} {n : Nat} {g : TGs} {G : List D → En → Mu → Res En} (h1 : SimGs K XC Wx js g G) : SimG K XC Wx js (gTup K n g) (xgTup n G) := by
  intro W σ ρ μ d v Q h he r q hx
  unfold xgTup at q hx
  cases d with
  | tup ds =>
    obtain ⟨a, vs, rfl, ht, r1⟩ := rep_tup_inv r
    dsimp only at q hx
    by_cases hl : ds.length = n
    · rw [if_pos hl] at hx
      simp only [if_pos hl] at q
      exact ⟨a, vs, rfl, h.ex.sqT ht, by rw [← r1.length, hl], h1 W σ ρ μ ds vs Q h he r1 q hx⟩
    · rw [if_neg hl] at hx
      obtain ⟨_, _, e⟩ := hx
      cases e
  | _ =>
    obtain ⟨_, _, e⟩ := hx
    cases e

/-! ### statements -/
def xDrop (T : TEd) : TSd := fun ρ μ => match T ρ μ with
  | .ok _ μ1 => .nx ρ μ1
  | .exc c d μ1 => .exc c d ρ μ1
  | .no => .no
theorem sim_drop {t : TE} {T : TEd} (h : SimE K XC Wx t T) : SimS K XC Wx (tDrop t) (xDrop T) := by
  intro W σ ρ μ Dn hs he qn qr qb qc qx hn
  unfold xDrop at qn qx hn
  refine h W σ ρ μ _ hs he (fun W1 v x μ1 e1 s1 h1 r1 => ?_) (fun W1 dx c d μ1 e1 s1 h1 r1 => ?_) (fun e => by rw [e] at hn; exact hn rfl)
  · rw [e1] at qn
    exact qn W1 σ ρ μ1 rfl s1 h1 (he.step s1)
  · rw [e1] at qx
    exact qx W1 dx σ c d ρ μ1 rfl s1 h1 (he.step s1) r1
def xRet (T : TEd) : TSd := fun ρ μ => match T ρ μ with
  | .ok d μ1 => .rt d μ1
  | .exc c d μ1 => .exc c d ρ μ1
  | .no => .no
theorem sim_ret {t : TE} {T : TEd} (h : SimE K XC Wx t T) : SimS K XC Wx (tRet t) (xRet T) := by
  intro W σ ρ μ Dn hs he qn qr qb qc qx hn
  unfold xRet at qr qx hn
  refine h W σ ρ μ _ hs he (fun W1 v x μ1 e1 s1 h1 r1 => ?_) (fun W1 dx c d μ1 e1 s1 h1 r1 => ?_) (fun e => by rw [e] at hn; exact hn rfl)
  · rw [e1] at qr
    exact qr W1 v x μ1 rfl s1 h1 r1
  · rw [e1] at qx
    exact qx W1 dx σ c d ρ μ1 rfl s1 h1 (he.step s1) r1
def xRetN : TSd := fun _ μ => .rt .non μ
theorem sim_retN : SimS K XC Wx tRetN xRetN := by
  intro W σ ρ μ Dn hs he qn qr qb qc qx hn
  exact qr W _ .non μ rfl (Step.refl W) hs rep_non
def xNext : TSd := fun ρ μ => .nx ρ μ
theorem sim_next : SimS K XC Wx tNext xNext := by
  intro W σ ρ μ Dn hs he qn qr qb qc qx hn
  exact qn W σ ρ μ rfl (Step.refl W) hs he
def xBreak : TSd := fun ρ μ => .bk ρ μ
theorem sim_break : SimS K XC Wx tBreak xBreak := by
  intro W σ ρ μ Dn hs he qn qr qb qc qx hn
  exact qb W σ ρ μ rfl (Step.refl W) hs he
def xCont : TSd := fun ρ μ => .ct ρ μ
theorem sim_cont : SimS K XC Wx tCont xCont := by
  intro W σ ρ μ Dn hs he qn qr qb qc qx hn
  exact qc W σ ρ μ rfl (Step.refl W) hs he
def xNever : TSd := fun _ _ => .no
theorem sim_never : SimS K XC Wx tNever xNever := by
  intro W σ ρ μ Dn hs he qn qr qb qc qx hn
  exact absurd rfl hn
def xSeq (A B : TSd) : TSd := fun ρ μ => match A ρ μ with
  | .nx ρ1 μ1 => B ρ1 μ1
  | o => o
theorem sim_seq {t u : TS} {A B : TSd} (ha : SimS K XC Wx t A) (hb : SimS K XC Wx u B) : SimS K XC Wx (tSeq t u) (xSeq A B) := by
  intro W σ ρ μ Dn hs he qn qr qb qc qx hn
  unfold xSeq at qn qr qb qc qx hn
  refine ha W σ ρ μ _ hs he (fun W1 σ1 ρ1 μ1 e1 s1 h1 he1 => ?_) (fun W1 v d μ1 e1 s1 h1 r1 => ?_) (fun W1 σ1 ρ1 μ1 e1 s1 h1 he1 => ?_) (fun W1 σ1 ρ1 μ1 e1 s1 h1 he1 => ?_) (fun W1 dx σ1 c d ρ1 μ1 e1 s1 h1 he1 r1 => ?_) (fun e => by rw [e] at hn; exact hn rfl)
  · rw [e1] at qn qr qb qc qx hn
    exact hb W1 σ1 ρ1 μ1 Dn h1 he1 (fun W2 σ2 ρ2 μ2 e2 s2 => qn W2 σ2 ρ2 μ2 e2 (s1.trans s2)) (fun W2 v d μ2 e2 s2 => qr W2 v d μ2 e2 (s1.trans s2)) (fun W2 σ2 ρ2 μ2 e2 s2 => qb W2 σ2 ρ2 μ2 e2 (s1.trans s2)) (fun W2 σ2 ρ2 μ2 e2 s2 => qc W2 σ2 ρ2 μ2 e2 (s1.trans s2)) (fun W2 dx σ2 c d ρ2 μ2 e2 s2 => qx W2 dx σ2 c d ρ2 μ2 e2 (s1.trans s2)) hn
  · rw [e1] at qr
    exact qr W1 v d μ1 rfl s1 h1 r1
  · rw [e1] at qb
    exact qb W1 σ1 ρ1 μ1 rfl s1 h1 he1
  · rw [e1] at qc
    exact qc W1 σ1 ρ1 μ1 rfl s1 h1 he1
  · rw [e1] at qx
    exact qx W1 dx σ1 c d ρ1 μ1 rfl s1 h1 he1 r1
def xIfS (T : TTd) (A B : TSd) : TSd := fun ρ μ => match T ρ μ with
  | .ok b μ1 => if b = true then A ρ μ1 else B ρ μ1
  | .exc c d μ1 => .exc c d ρ μ1
  | .no => .no
theorem sim_ifS {c : TT} {t u : TS} {T : TTd} {A B : TSd} (hc : SimT K XC Wx c T) (ha : SimS K XC Wx t A) (hb : SimS K XC Wx u B) : SimS K XC Wx (tIfS c t u) (xIfS T A B) := by
  intro W σ ρ μ Dn hs he qn qr qb qc qx hn
  unfold xIfS at qn qr qb qc qx hn
  refine hc W σ ρ μ _ hs he (fun W1 b μ1 e1 s1 h1 => ?_) (fun W1 dx c d μ1 e1 s1 h1 r1 => ?_) (fun e => by rw [e] at hn; exact hn rfl)
  · rw [e1] at qn qr qb qc qx hn
    cases b with
    | true =>
      simp only [if_pos rfl] at qn qr qb qc qx hn
      rw [if_pos rfl]
      exact ha W1 σ ρ μ1 Dn h1 (he.step s1) (fun W2 σ2 ρ2 μ2 e2 s2 => qn W2 σ2 ρ2 μ2 e2 (s1.trans s2)) (fun W2 v d μ2 e2 s2 => qr W2 v d μ2 e2 (s1.trans s2)) (fun W2 σ2 ρ2 μ2 e2 s2 => qb W2 σ2 ρ2 μ2 e2 (s1.trans s2)) (fun W2 σ2 ρ2 μ2 e2 s2 => qc W2 σ2 ρ2 μ2 e2 (s1.trans s2)) (fun W2 dx σ2 c d ρ2 μ2 e2 s2 => qx W2 dx σ2 c d ρ2 μ2 e2 (s1.trans s2)) hn
    | false =>
      simp only [if_neg (show ¬ (false = true) by decide)] at qn qr qb qc qx hn
      rw [if_neg (by decide)]
      exact hb W1 σ ρ μ1 Dn h1 (he.step s1) (fun W2 σ2 ρ2 μ2 e2 s2 => qn W2 σ2 ρ2 μ2 e2 (s1.trans s2)) (fun W2 v d μ2 e2 s2 => qr W2 v d μ2 e2 (s1.trans s2)) (fun W2 σ2 ρ2 μ2 e2 s2 => qb W2 σ2 ρ2 μ2 e2 (s1.trans s2)) (fun W2 σ2 ρ2 μ2 e2 s2 => qc W2 σ2 ρ2 μ2 e2 (s1.trans s2)) (fun W2 dx σ2 c d ρ2 μ2 e2 s2 => qx W2 dx σ2 c d ρ2 μ2 e2 (s1.trans s2)) hn
  · rw [e1] at qx
    exact qx W1 dx σ c d ρ μ1 rfl s1 h1 (he.step s1) r1
/-- as a statement's outcome -/
def asgO (r : Res En) (ρ : En) : Out := match r with
  | .ok ρ' μ' => .nx ρ' μ'
  | .exc c d μ' => .no
  | .no => .no
def xAsg (T : TEd) (G : D → En → Mu → Res En) : TSd := fun ρ μ => match T ρ μ with
  | .ok d μ1 => asgO (G d ρ μ1) ρ
  | .exc c d μ1 => .exc c d ρ μ1
  | .no => .no
theorem asgO_ok {r : Res En} {ρ : En} (h : asgO r ρ ≠ .no) : ∃ ρ' μ', r = .ok ρ' μ' := by
  cases r with
  | ok a b => exact ⟨a, b, rfl⟩
  | exc c d m => exact absurd rfl h
  | no => exact absurd rfl h
theorem sim_asg {js : List Nat} {t : TE} {g : TG} {T : TEd} {G : D → En → Mu → Res En} (h : SimE K XC Wx t T) (hg : SimG K XC Wx js g G) : SimS K XC Wx (tAsg t g) (xAsg T G) := by
  intro W σ ρ μ Dn hs he qn qr qb qc qx hn
  unfold xAsg at qn qx hn
  refine h W σ ρ μ _ hs he (fun W1 v x μ1 e1 s1 h1 r1 => ?_) (fun W1 dx c d μ1 e1 s1 h1 r1 => ?_) (fun e => by rw [e] at hn; exact hn rfl)
  · rw [e1] at qn hn
    exact hg W1 σ ρ μ1 x v _ h1 (he.step s1) r1 (fun W2 σ2 ρ2 μ2 e2 s2 h2 he2 _ _ => qn W2 σ2 ρ2 μ2 (by show asgO (G x ρ μ1) ρ = _; rw [e2]; rfl) (s1.trans s2) h2 he2) (asgO_ok hn)
  · rw [e1] at qx
    exact qx W1 dx σ c d ρ μ1 rfl s1 h1 (he.step s1) r1
def xPar (i j : Nat) (T : TAd) : TSd := fun ρ μ => match T ρ μ with
  | .ok [x, y] μ1 => .nx ((ρ.set i (some x)).set j (some y)) μ1
  | .ok _ _ => .no
  | .exc c d μ1 => .exc c d ρ μ1
  | .no => .no
theorem sim_par {i j : Nat} {t : TA} {T : TAd} (h : SimA K XC Wx t T) : SimS K XC Wx (tPar i j t) (xPar i j T) := by
  intro W σ ρ μ Dn hs he qn qr qb qc qx hn
  unfold xPar at qn qx hn
  refine h W σ ρ μ _ hs he (fun W1 vs xs μ1 e1 s1 h1 r1 => ?_) (fun W1 dx c d μ1 e1 s1 h1 r1 => ?_) (fun e => by rw [e] at hn; exact hn rfl)
  · rw [e1] at qn hn
    match xs, r1 with
    | [x, y], r1 =>
      obtain ⟨u, r, rfl, a1, a2⟩ := r1.cons_inv
      obtain ⟨w', r', rfl, b1, b2⟩ := a2.cons_inv
      rw [b2.nil_inv]
      exact ⟨u, w', rfl, qn W1 _ _ μ1 rfl s1 h1 (((he.step s1).set i a1).set j b1)⟩
    | [], _ => exact absurd rfl hn
    | [_], _ => exact absurd rfl hn
    | _ :: _ :: _ :: _, _ => exact absurd rfl hn
  · rw [e1] at qx
    exact qx W1 dx σ c d ρ μ1 rfl s1 h1 (he.step s1) r1
def xPar3 (i j l : Nat) (T : TAd) : TSd := fun ρ μ => match T ρ μ with
  | .ok [x, y, z] μ1 => .nx (((ρ.set i (some x)).set j (some y)).set l (some z)) μ1
  | .ok _ _ => .no
  | .exc c d μ1 => .exc c d ρ μ1
  | .no => .no
theorem sim_par3 {i j l : Nat} {t : TA} {T : TAd} (h : SimA K XC Wx t T) : SimS K XC Wx (tPar3 i j l t) (xPar3 i j l T) := by
  intro W σ ρ μ Dn hs he qn qr qb qc qx hn
  unfold xPar3 at qn qx hn
  refine h W σ ρ μ _ hs he (fun W1 vs xs μ1 e1 s1 h1 r1 => ?_) (fun W1 dx c d μ1 e1 s1 h1 r1 => ?_) (fun e => by rw [e] at hn; exact hn rfl)
  · rw [e1] at qn hn
    match xs, r1 with
    | [x, y, z], r1 =>
      obtain ⟨u, r, rfl, a1, a2⟩ := r1.cons_inv
      obtain ⟨w', r', rfl, b1, b2⟩ := a2.cons_inv
      obtain ⟨w2, r2, rfl, c1, c2⟩ := b2.cons_inv
      rw [c2.nil_inv]
      exact ⟨u, w', w2, rfl, qn W1 _ _ μ1 rfl s1 h1 ((((he.step s1).set i a1).set j b1).set l c1)⟩
    | [], _ => exact absurd rfl hn
    | [_], _ => exact absurd rfl hn
    | [_, _], _ => exact absurd rfl hn
    | _ :: _ :: _ :: _ :: _, _ => exact absurd rfl hn
  · rw [e1] at qx
    exact qx W1 dx σ c d ρ μ1 rfl s1 h1 (he.step s1) r1
def xAug (i : Nat) (f : D → D → Mu → Res D) (T : TEd) : TSd := fun ρ μ => match ρ[i]? with
  | some (some x) => (match T ρ μ with
    | .ok y μ1 => (match f x y μ1 with
      | .ok z μ2 => .nx (ρ.set i (some z)) μ2
      | _ => .no)
    | .exc c d μ1 => .exc c d ρ μ1
    | .no => .no)
  | _ => .no
theorem sim_aug {i : Nat} {t : TE} {T : TEd} {r : TIp} {f : D → D → Mu → Res D} (h : SimE K XC Wx t T) (hr : SimR2 K r f) : SimS K XC Wx (tAug i t r) (xAug i f T) := by
  intro W σ ρ μ Dn hs he qn qr qb qc qx hn
  unfold xAug at qn qx hn
  cases e : ρ[i]? with
  | none => rw [e] at hn; exact absurd rfl hn
  | some o =>
    cases o with
    | none => rw [e] at hn; exact absurd rfl hn
    | some x =>
      obtain ⟨v, h1, h2⟩ := he.2 i x e
      rw [e] at qn qx hn
      refine ⟨v, h1, h W σ ρ μ _ hs he (fun W1 u y μ1 e1 s1 h1 r1 => ?_) (fun W1 dx c d μ1 e1 s1 h1 r1 => ?_) (fun e => by simp only [e] at hn; exact hn rfl)⟩
      · simp only [e1] at qn hn
        have hx : ∃ d μ', f x y μ1 = .ok d μ' := by
          cases q : f x y μ1 with
          | ok a b => exact ⟨a, b, rfl⟩
          | exc c d m => rw [q] at hn; exact absurd rfl hn
          | no => rw [q] at hn; exact absurd rfl hn
        refine hr W1 μ1 x y v u _ h1 (s1.rep h2) r1 (fun W2 z d μ2 e2 s2 h3 r2 => ?_) hx
        rw [e2] at qn
        exact qn W2 _ _ μ2 rfl (s1.trans s2) h3 ((he.step (s1.trans s2)).set i r2)
      · simp only [e1] at qx
        exact qx W1 dx σ c d ρ μ1 rfl s1 h1 (he.step s1) r1

/-! ### what is walked -/
def Iters (K : PySem.W.Frag) (J : It) (W0 : Wd) (items : List D) : Prop := ∀ W μ, Step W0 W → StOk K W μ →
  (∀ i d, items[i]? = some d → J.go i W.H ∧ ∀ x H', J.yld i W.H x H' → ∃ W', W'.H = H' ∧ Step W W' ∧ StOk K W' μ ∧ Rep K W'.fp W'.Hs d x) ∧ J.stop items.length W.H
def SimI (K : PySem.W.Frag) (XC : Nat → Addr) (Wx : WX) (wi : TI) (T : En → Mu → Res (List D)) : Prop := ∀ (W : Wd) (σ : L2.St) (ρ : En) (μ : Mu) (R : It → Hp → Prop), StOk K W μ → EnvOk K W ρ σ →
  (∀ W' J items μ', T ρ μ = .ok items μ' → Step W W' → StOk K W' μ' → Iters K J W' items → R J W'.H) →
  (∀ W' dx c d μ', T ρ μ = .exc c d μ' → Step W W' → StOk K W' μ' → ExcAt K W' c d dx → Wx (.ref (XC c)) (some dx) σ W'.H) →
  T ρ μ ≠ .no → wi σ W.H R

def forD (G : D → En → Mu → Res En) (B : TSd) : List D → En → Mu → Out
  | [], ρ, μ => .nx ρ μ
  | d :: ds, ρ, μ => match G d ρ μ with
    | .ok ρ1 μ1 => (match B ρ1 μ1 with
      | .nx ρ2 μ2 => forD G B ds ρ2 μ2
      | .ct ρ2 μ2 => forD G B ds ρ2 μ2
      | .bk ρ2 μ2 => .nx ρ2 μ2
      | .rt x μ2 => .rt x μ2
      | .exc c x ρ2 μ2 => .exc c x ρ2 μ2
      | .no => .no)
    | _ => .no
def xFor (T : En → Mu → Res (List D)) (G : D → En → Mu → Res En) (B : TSd) : TSd := fun ρ μ => match T ρ μ with
  | .ok items μ1 => forD G B items ρ μ1
  | .exc c d μ1 => .exc c d ρ μ1
  | .no => .no
theorem sim_for {js : List Nat} {wi : TI} {g : TG} {tb : TS} {T : En → Mu → Res (List D)} {G : D → En → Mu → Res En} {B : TSd} (hi : SimI K XC Wx wi T) (hg : SimG K XC Wx js g G) (hb : SimS K XC Wx tb B) : SimS K XC Wx (tFor wi g tb) (xFor T G B) := by
  intro W σ ρ μ Dn hs he qn qr qb qc qx hn
  unfold xFor at qn qr qb qc qx hn
  refine hi W σ ρ μ _ hs he (fun W1 J items μ1 e1 s1 h1 it => ?_) (fun W1 dx c d μ1 e1 s1 h1 r1 => ?_) (fun e => by rw [e] at hn; exact hn rfl)
  · rw [e1] at qn qr qb qc qx hn
    dsimp only at qn qr qb qc qx hn
    generalize hO : forD G B items ρ μ1 = O at qn qr qb qc qx hn
    refine ⟨fun i m σ' H' => ∃ W2 ρ2 μ2, W2.H = H' ∧ Step W1 W2 ∧ StOk K W2 μ2 ∧ EnvOk K W2 ρ2 σ' ∧ i + m = items.length ∧ forD G B (items.drop i) ρ2 μ2 = O, ⟨items.length, W1, ρ, μ1, rfl, Step.refl _, h1, he.step s1, by simp, by simpa using hO⟩, fun i m σ' H' hW => ?_⟩
    obtain ⟨W2, ρ2, μ2, rfl, s2, h2, he2, hm, hf⟩ := hW
    obtain ⟨g1, g2⟩ := it W2 μ2 s2 h2
    by_cases hl : i < items.length
    · have hd : items[i]? = some items[i] := List.getElem?_eq_getElem hl
      obtain ⟨go, hy⟩ := g1 i _ hd
      rw [List.drop_eq_getElem_cons hl] at hf
      unfold forD at hf
      refine .inr ⟨go, fun σ3 H3 => ∃ W3 ρ3 μ3, W3.H = H3 ∧ Step W1 W3 ∧ StOk K W3 μ3 ∧ EnvOk K W3 ρ3 σ3 ∧ forD G B (items.drop (i + 1)) ρ3 μ3 = O, fun σ3 H3 hN => ?_, fun x H3 y => ?_⟩
      · obtain ⟨W3, ρ3, μ3, a1, a2, a3, a4, a5⟩ := hN
        exact ⟨m - 1, by omega, W3, ρ3, μ3, a1, a2, a3, a4, by omega, a5⟩
      · obtain ⟨W3, rfl, s3, h3, r3⟩ := hy x H3 y
        have hgo : ∃ ρ' μ', G items[i] ρ2 μ2 = .ok ρ' μ' := by
          cases q : G items[i] ρ2 μ2 with
          | ok a b => exact ⟨a, b, rfl⟩
          | exc c d m => rw [q] at hf; exact absurd hf.symm hn
          | no => rw [q] at hf; exact absurd hf.symm hn
        refine hg W3 σ' ρ2 μ2 _ x _ h3 (he2.step s3) r3 (fun W4 σ4 ρ4 μ4 e4 s4 h4 he4 _ _ => ?_) hgo
        simp only [e4] at hf
        have s14 := (s2.trans s3).trans s4
        refine hb W4 σ4 ρ4 μ4 _ h4 he4 (fun W5 σ5 ρ5 μ5 e5 s5 h5 he5 => ?_) (fun W5 v d μ5 e5 s5 h5 r5 => ?_) (fun W5 σ5 ρ5 μ5 e5 s5 h5 he5 => ?_) (fun W5 σ5 ρ5 μ5 e5 s5 h5 he5 => ?_) (fun W5 dx σ5 c d ρ5 μ5 e5 s5 h5 he5 r5 => ?_) (fun e => by simp only [e] at hf; exact hn hf.symm)
        · simp only [e5] at hf
          exact ⟨W5, ρ5, μ5, rfl, s14.trans s5, h5, he5, hf⟩
        · simp only [e5] at hf
          exact qr W5 v d μ5 hf.symm (s1.trans (s14.trans s5)) h5 r5
        · simp only [e5] at hf
          exact qn W5 σ5 ρ5 μ5 hf.symm (s1.trans (s14.trans s5)) h5 he5
        · simp only [e5] at hf
          exact ⟨W5, ρ5, μ5, rfl, s14.trans s5, h5, he5, hf⟩
        · simp only [e5] at hf
          exact qx W5 dx σ5 c d ρ5 μ5 hf.symm (s1.trans (s14.trans s5)) h5 he5 r5
    · have ei : i = items.length := by omega
      subst ei
      rw [List.drop_length] at hf
      exact .inl ⟨g2, qn W2 σ' ρ2 μ2 hf.symm (s1.trans s2) h2 he2⟩
  · rw [e1] at qx
    exact qx W1 dx σ c d ρ μ1 rfl s1 h1 (he.step s1) r1
def whileD (C : TTd) (B : TSd) : Nat → En → Mu → Out
  | 0, _, _ => .no
  | n + 1, ρ, μ => match C ρ μ with
    | .ok b μ1 => if b = true then (match B ρ μ1 with
      | .nx ρ2 μ2 => whileD C B n ρ2 μ2
      | .ct ρ2 μ2 => whileD C B n ρ2 μ2
      | .bk ρ2 μ2 => .nx ρ2 μ2
      | .rt x μ2 => .rt x μ2
      | .exc c x ρ2 μ2 => .exc c x ρ2 μ2
      | .no => .no) else .nx ρ μ1
    | .exc c d μ1 => .exc c d ρ μ1
    | .no => .no
def xWhile (fu : En → Mu → Nat) (C : TTd) (B : TSd) : TSd := fun ρ μ => whileD C B (fu ρ μ) ρ μ
theorem sim_while (fu : En → Mu → Nat) {c : TT} {tb : TS} {C : TTd} {B : TSd} (hc : SimT K XC Wx c C) (hb : SimS K XC Wx tb B) : SimS K XC Wx (tWhile c tb) (xWhile fu C B) := by
  intro W σ ρ μ Dn hs he qn qr qb qc qx hn
  unfold xWhile at qn qr qb qc qx hn
  generalize hO : whileD C B (fu ρ μ) ρ μ = O at qn qr qb qc qx hn
  refine ⟨fun m σ' H' => ∃ W2 ρ2 μ2, W2.H = H' ∧ Step W W2 ∧ StOk K W2 μ2 ∧ EnvOk K W2 ρ2 σ' ∧ whileD C B m ρ2 μ2 = O, ⟨fu ρ μ, W, ρ, μ, rfl, Step.refl _, hs, he, hO⟩, fun m σ' H' hW => ?_⟩
  obtain ⟨W2, ρ2, μ2, rfl, s2, h2, he2, hf⟩ := hW
  cases m with
  | zero => exact absurd hf.symm hn
  | succ m =>
    unfold whileD at hf
    refine hc W2 σ' ρ2 μ2 _ h2 he2 (fun W3 b μ3 e3 s3 h3 => ?_) (fun W3 dx c d μ3 e3 s3 h3 r3 => ?_) (fun e => by simp only [e] at hf; exact hn hf.symm)
    · simp only [e3] at hf
      cases b with
      | false =>
        rw [if_neg (by decide)] at hf ⊢
        exact qn W3 σ' ρ2 μ3 hf.symm (s2.trans s3) h3 (he2.step s3)
      | true =>
        rw [if_pos rfl] at hf ⊢
        refine ⟨fun σ3 H3 => ∃ W3 ρ3 μ3, W3.H = H3 ∧ Step W W3 ∧ StOk K W3 μ3 ∧ EnvOk K W3 ρ3 σ3 ∧ whileD C B m ρ3 μ3 = O, fun σ3 H3 hN => ⟨m, Nat.lt_succ_self m, hN⟩, ?_⟩
        have s14 := s2.trans s3
        refine hb W3 σ' ρ2 μ3 _ h3 (he2.step s3) (fun W5 σ5 ρ5 μ5 e5 s5 h5 he5 => ?_) (fun W5 v d μ5 e5 s5 h5 r5 => ?_) (fun W5 σ5 ρ5 μ5 e5 s5 h5 he5 => ?_) (fun W5 σ5 ρ5 μ5 e5 s5 h5 he5 => ?_) (fun W5 dx σ5 c d ρ5 μ5 e5 s5 h5 he5 r5 => ?_) (fun e => by simp only [e] at hf; exact hn hf.symm)
        · simp only [e5] at hf
          exact ⟨W5, ρ5, μ5, rfl, s14.trans s5, h5, he5, hf⟩
        · simp only [e5] at hf
          exact qr W5 v d μ5 hf.symm (s14.trans s5) h5 r5
        · simp only [e5] at hf
          exact qn W5 σ5 ρ5 μ5 hf.symm (s14.trans s5) h5 he5
        · simp only [e5] at hf
          exact ⟨W5, ρ5, μ5, rfl, s14.trans s5, h5, he5, hf⟩
        · simp only [e5] at hf
          exact qx W5 dx σ5 c d ρ5 μ5 hf.symm (s14.trans s5) h5 he5 r5
    · simp only [e3] at hf
      exact qx W3 dx σ' c d ρ2 μ3 hf.symm (s2.trans s3) h3 (he2.step s3) r3
end
end DL
end
section
set_option maxRecDepth 100000
set_option maxHeartbeats 1000000
/-! DIter: walks over a list or a tuple, over zip and enumerate of such, enumerate of a zip. -/
namespace DL
open PySem PySem.Spec PyProof.Rows L2

/-- an iterator over the list (b) or tuple at l, the next place i; the items there -/
def SqIt (b : Bool) (it l : Addr) (i : Nat) (h : Heap) : Prop := if b = true then h.IsListIter it l i else h.IsTupleIter it l i
def SqC (b : Bool) (l : Addr) (xs : Array Value) (h : Heap) : Prop := if b = true then h.IsList l xs else h.IsTuple l xs
theorem SqIt.at {b : Bool} {it l : Addr} {i : Nat} {h h' : Heap} (x : SqIt b it l i h) (k : ∀ o, h.get? it = some o → h'.get? it = some o) : SqIt b it l i h' := by
  cases b with
  | true => exact Heap.IsListIter.at x k
  | false => exact Heap.IsTupleIter.at x k
theorem SqC.at {b : Bool} {l : Addr} {xs : Array Value} {h h' : Heap} (x : SqC b l xs h) (k : ∀ o, h.get? l = some o → h'.get? l = some o) : SqC b l xs h' := by
  cases b with
  | true =>
    obtain ⟨o, e, r⟩ := x
    exact ⟨o, k o e, r⟩
  | false =>
    obtain ⟨o, e, r⟩ := x
    exact ⟨o, k o e, r⟩
theorem SqIt.obj {b : Bool} {it l : Addr} {i : Nat} {h : Heap} (x : SqIt b it l i h) : ∃ o, h.get? it = some o ∧ ∀ v, o.data ≠ .cell v := by
  cases b with
  | true =>
    obtain ⟨o, e, _, d⟩ := x
    exact ⟨o, e, fun v z => by rw [d] at z; cases z⟩
  | false =>
    obtain ⟨o, e, _, d⟩ := x
    exact ⟨o, e, fun v z => by rw [d] at z; cases z⟩
section
variable {prog : Program} {w : World} {A : Around} {E : Value → Shared → Prop} {s : Shared}
theorem next_sq {b : Bool} {it l : Addr} {i : Nat} {xs : Array Value} {x : Value} {Q : Value → Shared → Prop} (hi : SqIt b it l i s.heap) (hc : SqC b l xs s.heap) (hx : xs[i]? = some x)
    (hq : ∀ h', SqIt b it l (i + 1) h' → Heap.SameBut it s.heap h' → Q x { s with heap := h' }) : wpAny (model prog w) A (Builtin.SmallTypes.nextOf (.ref it)) Q E s := by
  cases b with
  | true => exact wpAny_nextOf_list_item hi hc hx hq
  | false => exact RZ.nextOf_tuple_item hi hc hx hq
theorem next_sq_end {b : Bool} {it l : Addr} {i : Nat} {xs : Array Value} {Q : Value → Shared → Prop} (hh : A.handled = none) (hi : SqIt b it l i s.heap) (hc : SqC b l xs s.heap) (hx : xs[i]? = none)
    (hq : ∀ h' e, Heap.ExtBut it s.heap h' → (∃ o, h'.get? e = some o ∧ o.cls = .type "StopIteration") → E (.ref e) { s with heap := h' }) : wpAny (model prog w) A (Builtin.SmallTypes.nextOf (.ref it)) Q E s := by
  cases b with
  | true => exact wpAny_nextOf_list_end hh hi hc hx hq
  | false => exact RZ.nextOf_tuple_end hh hi hc hx hq
end

/-! ### zip -/
abbrev ZipAt (h : Heap) (z TI TO : Addr) (f0 f1 : Value) : Prop :=
  h.get? z = some { cls := .type "zip", dict := none, data := .fields #[f0, f1, .bool false, .ref TI, .ref TO], slots := #[] }
/-- what the zip says of its last pair -/
def ZipF (f0 : Value) : Prop := f0 = .none ∨ ∃ a : Addr, f0 = rawInt a
structure ZipTn (b1 b2 : Bool) (z TI TO i1 i2 l1 l2 : Addr) (i : Nat) (h : Heap) : Prop where
  zip : ∃ f0 f1, ZipAt h z TI TO f0 f1 ∧ ZipF f0
  ti : IsPair h TI (.ref i1) (.ref i2)
  to : ∃ a b, IsPair h TO a b
  h1 : SqIt b1 i1 l1 i h
  h2 : SqIt b2 i2 l2 i h
section
variable {prog : Program} {w : World} {A : Around} {E : Value → Shared → Prop} {s : Shared}
theorem alive_any {a : Addr} {Q : Option Obj → Shared → Prop} (h : Q (s.heap.get? a) s) : wpAny (model prog w) A (loadIfAlive a) Q E s := fun _ _ _ => h
theorem zip_free {z TI TO : Addr} {f0 f1 : Value} {Q : Bool → Shared → Prop} (hz : ZipAt s.heap z TI TO f0 f1) (hf : ZipF f0)
    (hQ : ∀ r h' f1', ZipAt h' z TI TO f0 f1' → Heap.SameBut z s.heap h' → Q r { s with heap := h' }) :
    wpAny (model prog w) A (Builtin.SmallTypes.ownedTupleIsFree (.ref z)) Q E s := by
  unfold Builtin.SmallTypes.ownedTupleIsFree
  refine wpAny_bind (wpAny_field hz rfl (x := f0) rfl ?_)
  have same : Heap.SameBut z s.heap s.heap := ⟨rfl, fun _ _ => rfl⟩
  rcases hf with rfl | ⟨a, rfl⟩
  · exact wpAny_pure (hQ true s.heap f1 hz same)
  · show wpAny _ _ (loadIfAlive (Int.toNat (a : Int)) >>= _) _ _ _
    refine wpAny_bind (alive_any ?_)
    cases hg : s.heap.get? (Int.toNat (a : Int)) with
    | none => exact wpAny_pure (hQ true s.heap f1 hz same)
    | some o =>
      show wpAny _ _ (field (.ref z) 1 >>= _) _ _ _
      refine wpAny_bind (wpAny_field hz rfl (x := f1) rfl ?_)
      cases hb : (f1 != .bool true) with
      | false =>
        simp only [hb, Bool.false_eq_true, if_false]
        exact wpAny_pure (hQ false s.heap f1 hz same)
      | true =>
        simp only [hb, if_true]
        refine wpAny_bind (wpAny_setField_rec hz (by simp) fun h₁ hz₁ hs₁ => wpAny_pure (hQ false h₁ (.bool true) hz₁ hs₁))
/-- drawing a pair -/
theorem zip_item {b1 b2 : Bool} {z TI TO i1 i2 l1 l2 : Addr} {i : Nat} {xs ys : Array Value} {x y : Value} {Q : Value → Shared → Prop} (D : ZipApart z TI TO i1 i2 l1 l2)
    (t : ZipTn b1 b2 z TI TO i1 i2 l1 l2 i s.heap) (c1 : SqC b1 l1 xs s.heap) (c2 : SqC b2 l2 ys s.heap) (hx : xs[i]? = some x) (hy : ys[i]? = some y)
    (hQ : ∀ h' : Heap, (∃ f1, ZipAt h' z TI TO (rawInt s.heap.objs.size) f1) ∨ True → ZipTn b1 b2 z TI TO i1 i2 l1 l2 (i + 1) h' → IsPair h' s.heap.objs.size x y → h'.objs.size = s.heap.objs.size + 1 →
      (∀ c o, c ≠ z → c ≠ TO → c ≠ i1 → c ≠ i2 → s.heap.get? c = some o → h'.get? c = some o) → Q (.ref s.heap.objs.size) { s with heap := h' }) :
    wpAny (model prog w) A (Builtin.«zip.__next__» ⟨[.ref z], []⟩) (fun fin s' => ∃ v, fin = .done (.ret v) ∧ Q v s') E s := by
  obtain ⟨⟨f0, f1, hz, hf⟩, hTI, ⟨a, b, hTO⟩, h1, h2⟩ := t
  show wpAny _ _ (field (.ref z) 2 >>= _) _ _ _
  refine wpAny_bind (wpAny_field hz rfl (x := .bool false) rfl ?_)
  show wpAny _ _ (field (.ref z) 3 >>= _) _ _ _
  refine wpAny_bind (wpAny_field hz rfl (x := .ref TI) rfl ?_)
  refine wpAny_bind (wpAny_seqItems hTI rfl ?_)
  show wpAny _ _ (Builtin.SmallTypes.ownedTupleIsFree (.ref z) >>= _) _ _ _
  refine wpAny_bind (zip_free hz hf fun r h₀ f1' hz₀ hs₀ => ?_)
  have hTO₀ : IsPair h₀ TO a b := hs₀.extBut _ _ D.TOz hTO
  have h1₀ : SqIt b1 i1 l1 i h₀ := h1.at fun o q => hs₀.extBut _ _ D.i1z q
  have h2₀ : SqIt b2 i2 l2 i h₀ := h2.at fun o q => hs₀.extBut _ _ D.i2z q
  have c1₀ : SqC b1 l1 xs h₀ := c1.at fun o q => hs₀.extBut _ _ D.l1z q
  have c2₀ : SqC b2 l2 ys h₀ := c2.at fun o q => hs₀.extBut _ _ D.l2z q
  have sz₀ : h₀.objs.size = s.heap.objs.size := hs₀.1
  cases r with
  | true =>
    simp only [if_true]
    refine wpAny_bind (wpAny_rule ?_)
    refine wpAny_bind (wpAny_field hz₀ rfl (x := .ref TO) rfl ?_)
    refine wpAny_bind (wpAny_setField_rec hz₀ (by simp) fun h₁ hz₁ hs₁ => ?_)
    replace hz₁ : ZipAt h₁ z TI TO .ellipsis f1' := hz₁
    refine wpAny_bind ?_
    simp only [List.zipIdx_cons, List.zipIdx_nil, List.forIn_cons, List.forIn_nil]
    refine wpAny_bind (wpAny_bind (wpAny_onRaise ?_))
    show wpAny _ _ (Builtin.SmallTypes.nextOf (.ref i1) >>= _) _ _ _
    refine wpAny_bind (next_sq (h1₀.at fun o q => hs₁.extBut _ _ D.i1z q) (c1₀.at fun o q => hs₁.extBut _ _ D.l1z q) hx fun h₂ h1₂ hs₂ => wpAny_pure ?_)
    have hTO₂ : IsPair h₂ TO a b := hs₂.extBut _ _ D.TOi1 (hs₁.extBut _ _ D.TOz hTO₀)
    refine wpAny_bind (wpAny_seqItems hTO₂ rfl ?_)
    refine wpAny_bind (wpAny_updateSeq_pair hTO₂ fun h₃ hTO₃ hs₃ => ?_)
    replace hTO₃ : IsPair h₃ TO x b := hTO₃
    refine wpAny_bind (wpAny_letGo (wpAny_pure ?_))
    refine wpAny_bind (wpAny_bind (wpAny_onRaise ?_))
    show wpAny _ _ (Builtin.SmallTypes.nextOf (.ref i2) >>= _) _ _ _
    have i2₃ : ∀ o, h₀.get? i2 = some o → h₃.get? i2 = some o := fun o q => hs₃.extBut _ _ D.TOi2.symm (hs₂.extBut _ _ D.i12.symm (hs₁.extBut _ _ D.i2z q))
    have l2₃ : ∀ o, h₀.get? l2 = some o → h₃.get? l2 = some o := fun o q => hs₃.extBut _ _ D.l2TO (hs₂.extBut _ _ D.l2i1 (hs₁.extBut _ _ D.l2z q))
    refine wpAny_bind (next_sq (h2₀.at i2₃) (c2₀.at l2₃) hy fun h₄ h2₄ hs₄ => wpAny_pure ?_)
    have hTO₄ : IsPair h₄ TO x b := hs₄.extBut _ _ D.TOi2 hTO₃
    refine wpAny_bind (wpAny_seqItems hTO₄ rfl ?_)
    refine wpAny_bind (wpAny_updateSeq_pair hTO₄ fun h₅ hTO₅ hs₅ => ?_)
    replace hTO₅ : IsPair h₅ TO x y := hTO₅
    refine wpAny_bind (wpAny_letGo (wpAny_pure (wpAny_pure ?_)))
    refine wpAny_bind (wpAny_seqItems hTO₅ rfl ?_)
    refine wpAny_bind (wpAny_newTuple ?_)
    have sz₅ : h₅.objs.size = s.heap.objs.size := by
      have e1 := hs₁.1
      have e2 := hs₂.1
      have e3 := hs₃.1
      have e4 := hs₄.1
      have e5 := hs₅.1
      simp only at e1 e2 e3 e4 e5
      omega
    have up : ∀ c o, c ≠ z → c ≠ TO → c ≠ i1 → c ≠ i2 → h₀.get? c = some o → h₅.get? c = some o := fun c o n1 n2 n3 n4 q =>
      hs₅.extBut _ _ n2 (hs₄.extBut _ _ n4 (hs₃.extBut _ _ n2 (hs₂.extBut _ _ n3 (hs₁.extBut _ _ n1 q))))
    have hz₅ : ZipAt h₅ z TI TO .ellipsis f1' := hs₅.extBut _ _ D.TOz.symm (hs₄.extBut _ _ D.i2z.symm (hs₃.extBut _ _ D.TOz.symm (hs₂.extBut _ _ D.i1z.symm hz₁)))
    have h1₅ : SqIt b1 i1 l1 (i + 1) h₅ := h1₂.at fun o q => hs₅.extBut _ _ D.TOi1.symm (hs₄.extBut _ _ D.i12 (hs₃.extBut _ _ D.TOi1.symm q))
    have h2₅ : SqIt b2 i2 l2 (i + 1) h₅ := h2₄.at fun o q => hs₅.extBut _ _ D.TOi2.symm q
    show wpAny _ _ (Builtin.SmallTypes.ownedTupleHandOut (.ref z) (.ref h₅.objs.size) >>= _) _ _ _
    refine wpAny_bind ?_
    unfold Builtin.SmallTypes.ownedTupleHandOut
    have hz₆ : ZipAt (h₅.push { cls := .type "tuple", data := .seq #[x, y] }) z TI TO .ellipsis f1' := Heap.get?_push_of_some _ hz₅
    refine wpAny_bind (wpAny_setField_rec hz₆ (by simp) fun h₇ hz₇ hs₇ => ?_)
    replace hz₇ : ZipAt h₇ z TI TO (rawInt h₅.objs.size) f1' := hz₇
    refine wpAny_setField_rec hz₇ (by simp) fun h₈ hz₈ hs₈ => ?_
    replace hz₈ : ZipAt h₈ z TI TO (rawInt h₅.objs.size) (.bool false) := hz₈
    have zlt : z < h₅.objs.size := Heap.lt_size hz₅
    have up8 : ∀ c o, c ≠ z → h₅.get? c = some o → h₈.get? c = some o := fun c o n1 q => hs₈.extBut _ _ n1 (hs₇.extBut _ _ n1 (Heap.get?_push_of_some _ q))
    have hT₈ : IsPair h₈ h₅.objs.size x y := hs₈.extBut _ _ (Nat.ne_of_gt zlt) (hs₇.extBut _ _ (Nat.ne_of_gt zlt) (Heap.get?_push_size _ rfl))
    have sz₈ : h₈.objs.size = h₅.objs.size + 1 := by rw [hs₈.1, hs₇.1, Heap.size_push]
    rw [sz₅] at hz₈ hT₈ sz₈
    refine wpAny_pure ⟨_, rfl, ?_⟩
    show Q (.ref h₅.objs.size) _
    rw [sz₅]
    exact hQ h₈ (.inr trivial) ⟨⟨_, _, hz₈, .inr ⟨_, rfl⟩⟩, up8 _ _ D.TIz (up _ _ D.TIz D.TITO D.TIi1 D.TIi2 (hs₀.extBut _ _ D.TIz hTI)), ⟨x, y, up8 _ _ D.TOz hTO₅⟩, h1₅.at fun o q => up8 _ o D.i1z q, h2₅.at fun o q => up8 _ o D.i2z q⟩
      hT₈ sz₈ fun c o n1 n2 n3 n4 q => up8 c o n1 (up c o n1 n2 n3 n4 (hs₀.extBut _ _ n1 q))
  | false =>
    simp only [Bool.false_eq_true, if_false]
    refine wpAny_bind ?_
    simp only [List.forIn_toArray, List.forIn_cons, List.forIn_nil]
    refine wpAny_bind (wpAny_bind (wpAny_holding ?_))
    show wpAny _ _ (Builtin.SmallTypes.nextOf (.ref i1) >>= _) _ _ _
    refine wpAny_bind (next_sq h1₀ c1₀ hx fun h₂ h1₂ hs₂ => wpAny_pure (wpAny_pure ?_))
    refine wpAny_bind (wpAny_bind (wpAny_holding ?_))
    show wpAny _ _ (Builtin.SmallTypes.nextOf (.ref i2) >>= _) _ _ _
    refine wpAny_bind (next_sq (h2₀.at fun o q => hs₂.extBut _ _ D.i12.symm q) (c2₀.at fun o q => hs₂.extBut _ _ D.l2i1 q) hy fun h₄ h2₄ hs₄ => wpAny_pure (wpAny_pure (wpAny_pure ?_)))
    refine wpAny_bind (wpAny_newTuple (hsz := by show 2 ≤ sizeLine; decide) ?_)
    have sz₄ : h₄.objs.size = s.heap.objs.size := by
      have e2 := hs₂.1
      have e4 := hs₄.1
      simp only at e2 e4
      omega
    refine wpAny_pure ⟨_, rfl, ?_⟩
    show Q (.ref h₄.objs.size) _
    rw [sz₄]
    have up : ∀ c o, c ≠ i1 → c ≠ i2 → h₀.get? c = some o → (h₄.push { cls := .type "tuple", data := .seq #[x, y] }).get? c = some o := fun c o n3 n4 q =>
      Heap.get?_push_of_some _ (hs₄.extBut _ _ n4 (hs₂.extBut _ _ n3 q))
    have hT : IsPair (h₄.push { cls := .type "tuple", data := .seq #[x, y] }) h₄.objs.size x y := Heap.get?_push_size _ rfl
    rw [sz₄] at hT
    exact hQ _ (.inr trivial) ⟨⟨f0, f1', up _ _ D.i1z.symm D.i2z.symm hz₀, hf⟩, up _ _ D.TIi1 D.TIi2 (hs₀.extBut _ _ D.TIz hTI), ⟨a, b, up _ _ D.TOi1 D.TOi2 hTO₀⟩,
      h1₂.at fun o q => Heap.get?_push_of_some _ (hs₄.extBut _ _ D.i12 q), h2₄.at fun o q => Heap.get?_push_of_some _ q⟩ hT (by rw [Heap.size_push, sz₄])
      fun c o n1 n2 n3 n4 q => up c o n3 n4 (hs₀.extBut _ _ n1 q)
theorem zip_end {b1 b2 : Bool} {z TI TO i1 i2 l1 l2 : Addr} {i : Nat} {xs ys : Array Value} {Q : Fin → Shared → Prop} (hh : A.handled = none) (D : ZipApart z TI TO i1 i2 l1 l2)
    (t : ZipTn b1 b2 z TI TO i1 i2 l1 l2 i s.heap) (c1 : SqC b1 l1 xs s.heap) (c2 : SqC b2 l2 ys s.heap) (hend : xs[i]? = none ∨ ys[i]? = none)
    (hE : ∀ h' e, (∀ c o, c ≠ z → c ≠ TO → c ≠ i1 → c ≠ i2 → s.heap.get? c = some o → h'.get? c = some o) → (∃ o, h'.get? e = some o ∧ o.cls = .type "StopIteration") → E (.ref e) { s with heap := h' }) :
    wpAny (model prog w) A (Builtin.«zip.__next__» ⟨[.ref z], []⟩) Q E s := by
  obtain ⟨⟨f0, f1, hz, hf⟩, hTI, ⟨a, b, hTO⟩, h1, h2⟩ := t
  show wpAny _ _ (field (.ref z) 2 >>= _) _ _ _
  refine wpAny_bind (wpAny_field hz rfl (x := .bool false) rfl ?_)
  show wpAny _ _ (field (.ref z) 3 >>= _) _ _ _
  refine wpAny_bind (wpAny_field hz rfl (x := .ref TI) rfl ?_)
  refine wpAny_bind (wpAny_seqItems hTI rfl ?_)
  show wpAny _ _ (Builtin.SmallTypes.ownedTupleIsFree (.ref z) >>= _) _ _ _
  refine wpAny_bind (zip_free hz hf fun r h₀ f1' hz₀ hs₀ => ?_)
  have hTO₀ : IsPair h₀ TO a b := hs₀.extBut _ _ D.TOz hTO
  have h1₀ : SqIt b1 i1 l1 i h₀ := h1.at fun o q => hs₀.extBut _ _ D.i1z q
  have h2₀ : SqIt b2 i2 l2 i h₀ := h2.at fun o q => hs₀.extBut _ _ D.i2z q
  have c1₀ : SqC b1 l1 xs h₀ := c1.at fun o q => hs₀.extBut _ _ D.l1z q
  have c2₀ : SqC b2 l2 ys h₀ := c2.at fun o q => hs₀.extBut _ _ D.l2z q
  cases r with
  | true =>
    simp only [if_true]
    refine wpAny_bind (wpAny_rule ?_)
    refine wpAny_bind (wpAny_field hz₀ rfl (x := .ref TO) rfl ?_)
    refine wpAny_bind (wpAny_setField_rec hz₀ (by simp) fun h₁ hz₁ hs₁ => ?_)
    replace hz₁ : ZipAt h₁ z TI TO .ellipsis f1' := hz₁
    refine wpAny_bind ?_
    simp only [List.zipIdx_cons, List.zipIdx_nil, List.forIn_cons, List.forIn_nil]
    refine wpAny_bind (wpAny_bind (wpAny_onRaise ?_))
    show wpAny _ _ (Builtin.SmallTypes.nextOf (.ref i1) >>= _) _ _ _
    cases hx : xs[i]? with
    | none =>
      refine wpAny_bind (next_sq_end hh (h1₀.at fun o q => hs₁.extBut _ _ D.i1z q) (c1₀.at fun o q => hs₁.extBut _ _ D.l1z q) hx fun h₂ e hs₂ he => ?_)
      obtain ⟨oe, hoe, hce⟩ := he
      have hz₂ : ZipAt h₂ z TI TO .ellipsis f1' := hs₂ _ _ D.i1z.symm hz₁
      have hez : e ≠ z := fun q => by
        subst q
        rw [hz₂] at hoe
        cases hoe
        simp at hce
      refine wpAny_setField_rec hz₂ (by simp) fun h₃ _ hs₃ => hE h₃ e (fun c o n1 _ n3 _ q => hs₃.extBut _ _ n1 (hs₂ _ _ n3 (hs₁.extBut _ _ n1 (hs₀.extBut _ _ n1 q)))) ⟨oe, hs₃.extBut _ _ hez hoe, hce⟩
    | some x =>
      have hy : ys[i]? = none := by
        rcases hend with h | h
        · rw [hx] at h
          cases h
        · exact h
      refine wpAny_bind (next_sq (h1₀.at fun o q => hs₁.extBut _ _ D.i1z q) (c1₀.at fun o q => hs₁.extBut _ _ D.l1z q) hx fun h₂ h1₂ hs₂ => wpAny_pure ?_)
      have hTO₂ : IsPair h₂ TO a b := hs₂.extBut _ _ D.TOi1 (hs₁.extBut _ _ D.TOz hTO₀)
      refine wpAny_bind (wpAny_seqItems hTO₂ rfl ?_)
      refine wpAny_bind (wpAny_updateSeq_pair hTO₂ fun h₃ hTO₃ hs₃ => ?_)
      refine wpAny_bind (wpAny_letGo (wpAny_pure ?_))
      refine wpAny_bind (wpAny_bind (wpAny_onRaise ?_))
      show wpAny _ _ (Builtin.SmallTypes.nextOf (.ref i2) >>= _) _ _ _
      have i2₃ : ∀ o, h₀.get? i2 = some o → h₃.get? i2 = some o := fun o q => hs₃.extBut _ _ D.TOi2.symm (hs₂.extBut _ _ D.i12.symm (hs₁.extBut _ _ D.i2z q))
      have l2₃ : ∀ o, h₀.get? l2 = some o → h₃.get? l2 = some o := fun o q => hs₃.extBut _ _ D.l2TO (hs₂.extBut _ _ D.l2i1 (hs₁.extBut _ _ D.l2z q))
      refine wpAny_bind (next_sq_end hh (h2₀.at i2₃) (c2₀.at l2₃) hy fun h₄ e hs₄ he => ?_)
      obtain ⟨oe, hoe, hce⟩ := he
      have hz₄ : ZipAt h₄ z TI TO .ellipsis f1' := hs₄ _ _ D.i2z.symm (hs₃.extBut _ _ D.TOz.symm (hs₂.extBut _ _ D.i1z.symm hz₁))
      have hez : e ≠ z := fun q => by
        subst q
        rw [hz₄] at hoe
        cases hoe
        simp at hce
      refine wpAny_setField_rec hz₄ (by simp) fun h₅ _ hs₅ => hE h₅ e (fun c o n1 n2 n3 n4 q => hs₅.extBut _ _ n1 (hs₄ _ _ n4 (hs₃.extBut _ _ n2 (hs₂.extBut _ _ n3 (hs₁.extBut _ _ n1 (hs₀.extBut _ _ n1 q)))))) ⟨oe, hs₅.extBut _ _ hez hoe, hce⟩
  | false =>
    simp only [Bool.false_eq_true, if_false]
    refine wpAny_bind ?_
    simp only [List.forIn_toArray, List.forIn_cons, List.forIn_nil]
    refine wpAny_bind (wpAny_bind (wpAny_holding ?_))
    show wpAny _ _ (Builtin.SmallTypes.nextOf (.ref i1) >>= _) _ _ _
    cases hx : xs[i]? with
    | none =>
      refine wpAny_bind (next_sq_end hh h1₀ c1₀ hx fun h₂ e hs₂ he => ?_)
      exact hE h₂ e (fun c o n1 _ n3 _ q => hs₂ _ _ n3 (hs₀.extBut _ _ n1 q)) he
    | some x =>
      have hy : ys[i]? = none := by
        rcases hend with h | h
        · rw [hx] at h
          cases h
        · exact h
      refine wpAny_bind (next_sq h1₀ c1₀ hx fun h₂ h1₂ hs₂ => wpAny_pure (wpAny_pure ?_))
      refine wpAny_bind (wpAny_bind (wpAny_holding ?_))
      show wpAny _ _ (Builtin.SmallTypes.nextOf (.ref i2) >>= _) _ _ _
      refine wpAny_bind (next_sq_end hh (h2₀.at fun o q => hs₂.extBut _ _ D.i12.symm q) (c2₀.at fun o q => hs₂.extBut _ _ D.l2i1 q) hy fun h₄ e hs₄ he => ?_)
      exact hE h₄ e (fun c o n1 _ n3 n4 q => hs₄ _ _ n4 (hs₂.extBut _ _ n3 (hs₀.extBut _ _ n1 q))) he
theorem zip_next {b1 b2 : Bool} {z TI TO i1 i2 l1 l2 : Addr} {i : Nat} {xs ys : Array Value} {x y : Value} {Q : Value → Shared → Prop} (D : ZipApart z TI TO i1 i2 l1 l2)
    (t : ZipTn b1 b2 z TI TO i1 i2 l1 l2 i s.heap) (c1 : SqC b1 l1 xs s.heap) (c2 : SqC b2 l2 ys s.heap) (hx : xs[i]? = some x) (hy : ys[i]? = some y)
    (hQ : ∀ h' : Heap, ZipTn b1 b2 z TI TO i1 i2 l1 l2 (i + 1) h' → IsPair h' s.heap.objs.size x y → h'.objs.size = s.heap.objs.size + 1 →
      (∀ c o, c ≠ z → c ≠ TO → c ≠ i1 → c ≠ i2 → s.heap.get? c = some o → h'.get? c = some o) → Q (.ref s.heap.objs.size) { s with heap := h' }) :
    wpAny (model prog w) A (Builtin.SmallTypes.nextOf (.ref z)) Q E s := by
  obtain ⟨f0, f1, hz, hf⟩ := t.zip
  have hT : s.TypeIs (.ref z) "zip" := ⟨_, hz, rfl⟩
  unfold Builtin.SmallTypes.nextOf
  exact wpAny_bind (wpAny_callSpecial?_slot (name := Str.ofString "__next__") hT F.slot_zip_next
    (wpAny_call_entry F.slot_zip_next hT F.entry_zip_next
      (zip_item D t c1 c2 hx hy fun h' _ a1 a2 a3 a4 => wpAny_pure (hQ h' a1 a2 a3 a4)) (F.args_zip_next_1 _)))
theorem zip_pyNext {b1 b2 : Bool} {z TI TO i1 i2 l1 l2 : Addr} {i : Nat} {xs ys : Array Value} {x y : Value} {Q : Option Value → Shared → Prop} (D : ZipApart z TI TO i1 i2 l1 l2)
    (t : ZipTn b1 b2 z TI TO i1 i2 l1 l2 i s.heap) (c1 : SqC b1 l1 xs s.heap) (c2 : SqC b2 l2 ys s.heap) (hx : xs[i]? = some x) (hy : ys[i]? = some y)
    (hQ : ∀ h' : Heap, ZipTn b1 b2 z TI TO i1 i2 l1 l2 (i + 1) h' → IsPair h' s.heap.objs.size x y → h'.objs.size = s.heap.objs.size + 1 →
      (∀ c o, c ≠ z → c ≠ TO → c ≠ i1 → c ≠ i2 → s.heap.get? c = some o → h'.get? c = some o) → Q (some (.ref s.heap.objs.size)) { s with heap := h' }) :
    wpAny (model prog w) A (pyNext (.ref z)) Q E s := by
  obtain ⟨f0, f1, hz, hf⟩ := t.zip
  have hT : s.TypeIs (.ref z) "zip" := ⟨_, hz, rfl⟩
  unfold pyNext
  exact wpAny_bind (wpAny_attempt (wpAny_callSpecial?_slot (name := Str.ofString "__next__") hT F.slot_zip_next
    (wpAny_call_entry F.slot_zip_next hT F.entry_zip_next
      (zip_item D t c1 c2 hx hy fun h' _ a1 a2 a3 a4 => wpAny_pure (hQ h' a1 a2 a3 a4)) (F.args_zip_next_1 _))))
theorem zip_next_end {b1 b2 : Bool} {z TI TO i1 i2 l1 l2 : Addr} {i : Nat} {xs ys : Array Value} {Q : Value → Shared → Prop} (hh : A.handled = none) (D : ZipApart z TI TO i1 i2 l1 l2)
    (t : ZipTn b1 b2 z TI TO i1 i2 l1 l2 i s.heap) (c1 : SqC b1 l1 xs s.heap) (c2 : SqC b2 l2 ys s.heap) (hend : xs[i]? = none ∨ ys[i]? = none)
    (hE : ∀ h' e, (∀ c o, c ≠ z → c ≠ TO → c ≠ i1 → c ≠ i2 → s.heap.get? c = some o → h'.get? c = some o) → (∃ o, h'.get? e = some o ∧ o.cls = .type "StopIteration") → E (.ref e) { s with heap := h' }) :
    wpAny (model prog w) A (Builtin.SmallTypes.nextOf (.ref z)) Q E s := by
  obtain ⟨f0, f1, hz, hf⟩ := t.zip
  have hT : s.TypeIs (.ref z) "zip" := ⟨_, hz, rfl⟩
  unfold Builtin.SmallTypes.nextOf
  exact wpAny_bind (wpAny_callSpecial?_slot (name := Str.ofString "__next__") hT F.slot_zip_next
    (wpAny_call_entry F.slot_zip_next hT F.entry_zip_next (zip_end hh D t c1 c2 hend hE) (F.args_zip_next_1 _)))
theorem zip_pyNext_end {b1 b2 : Bool} {z TI TO i1 i2 l1 l2 : Addr} {i : Nat} {xs ys : Array Value} {Q : Option Value → Shared → Prop} (hh : A.handled = none) (D : ZipApart z TI TO i1 i2 l1 l2)
    (t : ZipTn b1 b2 z TI TO i1 i2 l1 l2 i s.heap) (c1 : SqC b1 l1 xs s.heap) (c2 : SqC b2 l2 ys s.heap) (hend : xs[i]? = none ∨ ys[i]? = none)
    (hQ : ∀ h', (∀ c o, c ≠ z → c ≠ TO → c ≠ i1 → c ≠ i2 → s.heap.get? c = some o → h'.get? c = some o) → Q none { s with heap := h' }) :
    wpAny (model prog w) A (pyNext (.ref z)) Q E s := by
  obtain ⟨f0, f1, hz, hf⟩ := t.zip
  have hT : s.TypeIs (.ref z) "zip" := ⟨_, hz, rfl⟩
  unfold pyNext
  refine wpAny_bind (wpAny_attempt (wpAny_callSpecial?_slot (name := Str.ofString "__next__") hT F.slot_zip_next
    (wpAny_call_entry F.slot_zip_next hT F.entry_zip_next (zip_end hh D t c1 c2 hend fun h' e hk he => ?_) (F.args_zip_next_1 _))))
  obtain ⟨o, ho, hc⟩ := he
  refine wpAny_bind (wpAny_isInstance (T := "StopIteration") (b := true) ⟨o, ho, hc⟩ isSubtype_stop ?_)
  exact wpAny_pure (hQ _ hk)
/-- ahead of the store: the pair given up, or not -/
theorem zip_go {elts : List Expr} {k : Nat} {pos : Pos} {z TI TO T : Addr} {f0 f1 : Value} {Q : Unit → Shared → Prop} (hz : ZipAt s.heap z TI TO f0 f1) (hf : ZipF f0)
    (hQ : ∀ h' f0', ZipAt h' z TI TO f0' f1 → ZipF f0' → Heap.SameBut z s.heap h' → Q () { s with heap := h' }) :
    wpAny (model prog w) A (letOwnedTupleGo (.Tuple elts k pos) (.ref z) (.ref T)) Q E s := by
  unfold letOwnedTupleGo
  refine wpAny_bind (wpAny_load hz ?_)
  show wpAny _ _ (if (["enumerate", "zip", "dict_itemiterator", "dict_reverseitemiterator", "odict_iterator", "itertools.zip_longest", "itertools.pairwise"].contains "zip" &&
      (#[f0, f1, .bool false, .ref TI, .ref TO] : Array Value)[0]? == some (rawInt T)) = true then _ else _) Q E s
  by_cases hb : (["enumerate", "zip", "dict_itemiterator", "dict_reverseitemiterator", "odict_iterator", "itertools.zip_longest", "itertools.pairwise"].contains "zip" &&
      (#[f0, f1, .bool false, .ref TI, .ref TO] : Array Value)[0]? == some (rawInt T)) = true
  · rw [if_pos hb]
    refine wpAny_bind (wpAny_rule ?_)
    show wpAny _ _ (setField (.ref z) 0 .none) Q E s
    exact wpAny_setField_rec hz (by simp) fun h' hz' hs' => hQ h' .none hz' (.inl rfl) hs'
  · rw [if_neg hb]
    exact wpAny_pure (hQ s.heap f0 hz hf ⟨rfl, fun _ _ => rfl⟩)
theorem zip_self {z TI TO : Addr} {f0 f1 : Value} {Q : Value → Shared → Prop} (hz : ZipAt s.heap z TI TO f0 f1) (h : Q (.ref z) s) : wpAny (model prog w) A (pyIter (.ref z)) Q E s := by
  have hT : s.TypeIs (.ref z) "zip" := ⟨_, hz, rfl⟩
  refine wpAny_pyIter_slot hT F.slot_zip_iter (wpAny_call_entry F.slot_zip_iter hT F.entry_zip_iter ?_ (F.args_zip_iter_1 _))
  show wpAny _ _ (ret (.ref z)) _ _ s
  exact wpAny_pure ⟨_, rfl, "zip", _, hT, F.slot_zip_next.lookup, h⟩

/-! ### enumerate -/
theorem enum_item {e it : Addr} {i : Nat} {old : Value} {Q : Value → Shared → Prop} (he : IsEnum s.heap e it i old)
    (hn : wpAny (model prog w) A (Builtin.SmallTypes.nextOf (.ref it)) (fun x s1 => s1.gens = s.gens ∧ s1.drawn = s.drawn ∧ s1.os = s.os ∧ IsEnum s1.heap e it i old ∧
      ∀ h', IsEnumOut h' e it ((i : Int) + 1) x s1.heap.objs.size → h'.get? s1.heap.objs.size = some { cls := .type "tuple", data := .seq #[.int i s1.toks, x] } → h'.objs.size = s1.heap.objs.size + 1 →
        (∀ b o, b ≠ e → s1.heap.get? b = some o → h'.get? b = some o) → Q (.ref s1.heap.objs.size) { s1 with heap := h', toks := s1.toks + 1 }) E s) :
    wpAny (model prog w) A (Builtin.«enumerate.__next__» ⟨[.ref e], []⟩) (fun fin s' => ∃ v, fin = .done (.ret v) ∧ Q v s') E s := by
  show wpAny _ _ (field (.ref e) 2 >>= _) _ _ _
  refine wpAny_bind (wpAny_field he rfl (x := .ref it) rfl ?_)
  refine wpAny_bind (thn hn fun x s1 hq => ?_)
  obtain ⟨hp, g, d, tk, os⟩ := s1
  obtain ⟨_, _, _, he₁, hQ⟩ := hq
  show wpAny _ _ (field (.ref e) 3 >>= _) _ _ ⟨hp, g, d, tk, os⟩
  refine wpAny_bind (wpAny_field he₁ rfl (x := rawInt i) rfl ?_)
  show wpAny _ _ (field (.ref e) 4 >>= _) _ _ ⟨hp, g, d, tk, os⟩
  refine wpAny_bind (wpAny_field he₁ rfl (x := .none) rfl ?_)
  show wpAny _ _ (mkInt i >>= _) _ _ ⟨hp, g, d, tk, os⟩
  refine wpAny_bind (wpAny_mkInt ?_)
  show wpAny _ _ (setField (.ref e) 3 (rawInt ((i : Int) + 1)) >>= _) _ _ ⟨hp, g, d, tk + 1, os⟩
  refine wpAny_bind (wpAny_setField_rec he₁ (by simp) fun h₂ he₂ hs₂ => ?_)
  replace hs₂ : Heap.SameBut e hp h₂ := hs₂
  replace he₂ : IsEnum h₂ e it ((i : Int) + 1) old := he₂
  show wpAny _ _ (setField (.ref e) 4 .none >>= _) _ _ ⟨h₂, g, d, tk + 1, os⟩
  refine wpAny_bind (wpAny_setField_rec he₂ (by simp) fun h₃ he₃ hs₃ => ?_)
  replace hs₃ : Heap.SameBut e h₂ h₃ := hs₃
  replace he₃ : IsEnum h₃ e it ((i : Int) + 1) old := he₃
  show wpAny _ _ (newTuple [.int i tk, x] >>= _) _ _ ⟨h₃, g, d, tk + 1, os⟩
  refine wpAny_bind (wpAny_newTuple ?_)
  have hsz : h₃.objs.size = hp.objs.size := by rw [hs₃.1, hs₂.1]
  have hel : e < hp.objs.size := Heap.lt_size he₁
  have he₄ : IsEnum (h₃.push { cls := .type "tuple", data := .seq #[.int i tk, x] }) e it ((i : Int) + 1) old := Heap.get?_push_of_some _ he₃
  have ht₄ : (h₃.push { cls := .type "tuple", data := .seq #[.int i tk, x] }).get? hp.objs.size = some { cls := .type "tuple", data := .seq #[.int i tk, x] } := by
    rw [← hsz]
    exact Heap.get?_push_size _ rfl
  have hz₄ : (h₃.push { cls := .type "tuple", data := .seq #[.int i tk, x] }).objs.size = hp.objs.size + 1 := by rw [Heap.size_push, hsz]
  have hk₄ : ∀ b o, b ≠ e → hp.get? b = some o → (h₃.push { cls := .type "tuple", data := .seq #[.int i tk, x] }).get? b = some o := fun b o hbe hb =>
    Heap.get?_push_of_some _ (hs₃.extBut b o hbe (hs₂.extBut b o hbe hb))
  generalize h₃.push { cls := .type "tuple", data := .seq #[.int i tk, x] } = h₄ at he₄ ht₄ hz₄ hk₄ ⊢
  show wpAny _ _ (Builtin.SmallTypes.ownedTupleIsFree (.ref e) >>= _) _ _ ⟨h₄, g, d, tk + 1, os⟩
  rw [hsz]
  refine wpAny_bind ?_
  unfold Builtin.SmallTypes.ownedTupleIsFree
  refine wpAny_bind (wpAny_field he₄ rfl (x := .none) rfl (wpAny_pure ?_))
  simp only [if_true]
  refine wpAny_bind (wpAny_rule ?_)
  refine wpAny_bind (wpAny_field he₄ rfl (x := old) rfl ?_)
  refine wpAny_bind (wpAny_setField_rec he₄ (by simp) fun h₅ he₅ hs₅ => ?_)
  replace hs₅ : Heap.SameBut e h₄ h₅ := hs₅
  replace he₅ : IsEnum h₅ e it ((i : Int) + 1) x := he₅
  show wpAny _ _ (Builtin.SmallTypes.ownedTupleHandOut (.ref e) (.ref hp.objs.size) >>= _) _ _ ⟨h₅, g, d, tk + 1, os⟩
  refine wpAny_bind ?_
  unfold Builtin.SmallTypes.ownedTupleHandOut
  refine wpAny_bind (wpAny_setField_rec he₅ (by simp) fun h₆ he₆ hs₆ => ?_)
  replace hs₆ : Heap.SameBut e h₅ h₆ := hs₆
  replace he₆ : IsEnumOut h₆ e it ((i : Int) + 1) x hp.objs.size := he₆
  refine wpAny_setField_rec he₆ (by simp) fun h₇ he₇ hs₇ => ?_
  replace hs₇ : Heap.SameBut e h₆ h₇ := hs₇
  replace he₇ : IsEnumOut h₇ e it ((i : Int) + 1) x hp.objs.size := he₇
  refine wpAny_bind (wpAny_letGo (wpAny_pure ⟨_, rfl, hQ h₇ he₇ ?_ ?_ ?_⟩))
  · exact hs₇.extBut _ _ (Nat.ne_of_gt hel) (hs₆.extBut _ _ (Nat.ne_of_gt hel) (hs₅.extBut _ _ (Nat.ne_of_gt hel) ht₄))
  · rw [hs₇.1, hs₆.1, hs₅.1, hz₄]
  · exact fun b o hbe hb => hs₇.extBut b o hbe (hs₆.extBut b o hbe (hs₅.extBut b o hbe (hk₄ b o hbe hb)))
theorem enum_pyNext {e it : Addr} {i : Nat} {old : Value} {Q : Option Value → Shared → Prop} (he : IsEnum s.heap e it i old)
    (hn : wpAny (model prog w) A.in1 (Builtin.SmallTypes.nextOf (.ref it)) (fun x s1 => s1.gens = s.gens ∧ s1.drawn = s.drawn ∧ s1.os = s.os ∧ IsEnum s1.heap e it i old ∧
      ∀ h', IsEnumOut h' e it ((i : Int) + 1) x s1.heap.objs.size → h'.get? s1.heap.objs.size = some { cls := .type "tuple", data := .seq #[.int i s1.toks, x] } → h'.objs.size = s1.heap.objs.size + 1 →
        (∀ b o, b ≠ e → s1.heap.get? b = some o → h'.get? b = some o) → Q (some (.ref s1.heap.objs.size)) { s1 with heap := h', toks := s1.toks + 1 })
      (fun _ _ => False) s) : wpAny (model prog w) A (pyNext (.ref e)) Q E s := by
  have hT : s.TypeIs (.ref e) "enumerate" := ⟨_, he, rfl⟩
  unfold pyNext
  refine wpAny_bind (wpAny_attempt (wpAny_callSpecial?_slot (name := Str.ofString "__next__") hT F.slot_enumerate_next
    (wpAny_call_entry F.slot_enumerate_next hT F.entry_enumerate_next
      (enum_item he (wpAny_mono hn (fun x s1 ⟨a, b, c, d, k⟩ => ⟨a, b, c, d, fun h' k1 k2 k3 k4 => wpAny_pure (k h' k1 k2 k3 k4)⟩) (fun _ _ z => False.elim z))) (F.args_enumerate_next_1 _))))
theorem enum_pyNext_end {e it : Addr} {i : Nat} {old : Value} {Q : Option Value → Shared → Prop} (he : IsEnum s.heap e it i old)
    (hn : wpAny (model prog w) A.in1 (Builtin.SmallTypes.nextOf (.ref it)) (fun _ _ => False) (fun v s1 => ∃ x, v = .ref x ∧ (∃ o, s1.heap.get? x = some o ∧ o.cls = .type "StopIteration") ∧ Q none s1) s) :
    wpAny (model prog w) A (pyNext (.ref e)) Q E s := by
  have hT : s.TypeIs (.ref e) "enumerate" := ⟨_, he, rfl⟩
  unfold pyNext
  refine wpAny_bind (wpAny_attempt (wpAny_callSpecial?_slot (name := Str.ofString "__next__") hT F.slot_enumerate_next
    (wpAny_call_entry F.slot_enumerate_next hT F.entry_enumerate_next ?_ (F.args_enumerate_next_1 _))))
  show wpAny _ _ (field (.ref e) 2 >>= _) _ _ _
  refine wpAny_bind (wpAny_field he rfl (x := .ref it) rfl ?_)
  refine wpAny_bind (wpAny_mono hn (fun _ _ z => False.elim z) fun v s1 ⟨x, e1, hx, q⟩ => ?_)
  subst e1
  refine wpAny_bind (wpAny_isInstance (T := "StopIteration") (b := true) (by obtain ⟨o, ho, hc⟩ := hx; exact ⟨o, ho, hc⟩) isSubtype_stop ?_)
  exact wpAny_pure q
end
end DL
end
section
set_option maxRecDepth 100000
set_option maxHeartbeats 1000000
/-! DIter2: the turns and what is walked. -/
namespace DL
open PySem PySem.Spec PyProof.Rows L2
/-- the list or tuple at a -/
def SqA (K : PySem.W.Frag) (H : Hp) (b : Bool) (a : Addr) (xs : List V) : Prop := if b = true then SqL K H a xs else SqT K H a xs
section
variable {X : Cx} {pins : List (Addr × Obj)} {σ : L2.St} {H : Hp} {s : Shared}
theorem sqa_inv {b : Bool} {a : Addr} {xs : List V} (I : Inv X pins σ H s) (h : SqA X.K H b a xs) : ∃ its : List Value, Vals xs its ∧ SqC b a its.toArray s.heap ∧ a < s.heap.objs.size := by
  cases b with
  | true =>
    obtain ⟨its, rv, p, _⟩ := I.list h
    exact ⟨its, rv, p.isList, p.lt⟩
  | false =>
    obtain ⟨its, rv, p, _⟩ := I.tuple h
    obtain ⟨o, e, _⟩ := id p
    exact ⟨its, rv, p, Heap.lt_size e⟩
theorem sqa_inj {b : Bool} {a : Addr} {xs ys : List V} (I : Inv X pins σ H s) (h : SqA X.K H b a xs) (h' : SqA X.K H b a ys) : xs = ys := by
  cases b with
  | true => exact I.list_inj h h'
  | false => exact I.tuple_inj h h'
end

/-! ### one list or tuple -/
def iSeq (K : PySem.W.Frag) (tl : TE) : TI := fun σ H R => tl σ H fun x H1 => ∃ a, x = .ref a ∧ (((∃ xs, SqL K H1 a xs) ∧ R (Itl K a) H1) ∨ ((∃ xs, SqT K H1 a xs) ∧ R (Itt K a) H1))
theorem pi_seq {X : Cx} {tg l : Expr} {tl : TE} (hl : PE X l tl) : PI X tg l (iSeq X.K tl) := by
  refine ⟨fun pins s σ H R I h => ?_⟩
  refine thn (hl.run pins s σ H _ I h) fun v s1 ⟨x, H1, I1, r1, q1⟩ => ?_
  obtain ⟨a, rfl, q1⟩ := q1
  cases r1
  have fr : ∀ b ∈ [s1.heap.objs.size], FpOk X pins H1 b := fun b hb => by
    obtain rfl : b = s1.heap.objs.size := by simpa using hb
    exact I1.fpOk (Nat.le_refl _) (I1.hok.fresh (Nat.le_refl _))
  rcases q1 with ⟨⟨xs, hq⟩, q⟩ | ⟨⟨xs, hq⟩, q⟩
  · obtain ⟨its, _, p, _⟩ := I1.list hq
    refine wpAny_pyIter_list p.isList ⟨s1.heap.objs.size, [s1.heap.objs.size], _, _, H1, rfl, I1.kept (t' := s1.toks) fun b o e => Heap.get?_push_of_some _ e, turn_list a _, ⟨_, Heap.get?_push_size _ rfl, rfl, rfl⟩, fr, q⟩
  · obtain ⟨its, _, p, _⟩ := I1.tuple hq
    refine wpAny_pyIter_tuple (show s1.heap.IsTuple a its.toArray from p) ⟨s1.heap.objs.size, [s1.heap.objs.size], _, _, H1, rfl, I1.kept (t' := s1.toks) fun b o e => Heap.get?_push_of_some _ e, turn_tuple a _, ⟨_, Heap.get?_push_size _ rfl, rfl, rfl⟩, fr, q⟩

/-! ### zip of two -/
def ItZp (K : PySem.W.Frag) (b1 b2 : Bool) (a c : Addr) : It :=
  ⟨fun i H => ∃ (xs ys : List V) (x y : V), SqA K H b1 a xs ∧ SqA K H b2 c ys ∧ xs[i]? = some x ∧ ys[i]? = some y,
    fun i H v H' => ∃ T x y, v = .ref T ∧ H T = none ∧ H' = upd H T (.tup [x, y]) ∧ (∀ xs, SqA K H b1 a xs → xs[i]? = some x) ∧ ∀ ys, SqA K H b2 c ys → ys[i]? = some y,
    fun i H => ∃ xs ys : List V, SqA K H b1 a xs ∧ SqA K H b2 c ys ∧ (xs.length ≤ i ∨ ys.length ≤ i)⟩
theorem zipTn_obj {b1 b2 : Bool} {z TI TO i1 i2 l1 l2 : Addr} {i : Nat} {h : Heap} (t : ZipTn b1 b2 z TI TO i1 i2 l1 l2 i h) : ∀ c ∈ [z, TI, TO, i1, i2], ∃ o, h.get? c = some o ∧ ∀ v, o.data ≠ .cell v := fun c hc => by
  obtain ⟨⟨f0, f1, hz, _⟩, hTI, ⟨a, b, hTO⟩, h1, h2⟩ := t
  have e' : c = z ∨ c = TI ∨ c = TO ∨ c = i1 ∨ c = i2 := by simpa using hc
  rcases e' with q | q | q | q | q <;> subst q
  · exact ⟨_, hz, fun v q => nomatch q⟩
  · exact ⟨_, hTI, fun v q => nomatch q⟩
  · exact ⟨_, hTO, fun v q => nomatch q⟩
  · exact h1.obj
  · exact h2.obj
theorem zipTn_keep {b1 b2 : Bool} {z TI TO i1 i2 l1 l2 : Addr} {i : Nat} {h h' : Heap} (t : ZipTn b1 b2 z TI TO i1 i2 l1 l2 i h) (k : ∀ c ∈ [z, TI, TO, i1, i2], ∀ o, h.get? c = some o → h'.get? c = some o) : ZipTn b1 b2 z TI TO i1 i2 l1 l2 i h' := by
  obtain ⟨⟨f0, f1, hz, hf⟩, hTI, ⟨a, b, hTO⟩, h1, h2⟩ := t
  exact ⟨⟨f0, f1, k z (by simp) _ hz, hf⟩, k TI (by simp) _ hTI, ⟨a, b, k TO (by simp) _ hTO⟩, h1.at fun o q => k i1 (by simp) o q, h2.at fun o q => k i2 (by simp) o q⟩
theorem zipTn_lt {b1 b2 : Bool} {z TI TO i1 i2 l1 l2 : Addr} {i : Nat} {h : Heap} (t : ZipTn b1 b2 z TI TO i1 i2 l1 l2 i h) : ∀ c ∈ [z, TI, TO, i1, i2], c < h.objs.size := fun c hc => by
  obtain ⟨o, e, _⟩ := zipTn_obj t c hc
  exact Heap.lt_size e
theorem turn_zp {P : Program} {w : World} {K : PySem.W.Frag} {elts : List Expr} {kk : Nat} {tpos : Pos} {b1 b2 : Bool} {a c z TI TO i1 i2 : Addr} (D : ZipApart z TI TO i1 i2 a c) :
    Turn P w K (.Tuple elts kk tpos) (ItZp K b1 b2 a c) [z, TI, TO, i1, i2] z (ZipTn b1 b2 z TI TO i1 i2 a c) where
  mem := by simp
  obj := fun i h st => zipTn_obj st
  keep := fun i h h' st k => zipTn_keep st k
  item := by
    intro X hP hw hK hc i pins s σ H E I hf st hg
    subst hP hw hK
    obtain ⟨xs, ys, x, y, hqx, hqy, hx, hy⟩ := hg
    obtain ⟨its, rv, p, _⟩ := sqa_inv I hqx
    obtain ⟨its2, rv2, p2, _⟩ := sqa_inv I hqy
    obtain ⟨u, hu, ru⟩ := rv.get hx
    obtain ⟨u2, hu2, ru2⟩ := rv2.get hy
    have hlt := zipTn_lt st
    refine zip_pyNext D st p p2 (x := u) (y := u2) (by simpa using hu) (by simpa using hu2) fun h' st' hT hsz hk => ?_
    obtain ⟨f0, f1, hz', hf'⟩ := st'.zip
    refine ⟨_, rfl, zip_go (s := { s with heap := h' }) hz' hf' fun h'' f0' z'' hf'' sb => ?_⟩
    have hT2 : h''.get? s.heap.objs.size = some { cls := .type "tuple", data := .seq #[u, u2] } := (sb.2 _ (Nat.ne_of_gt (hlt z (by simp)))).trans hT
    have new : ObjOk X.prog X.w (upd H s.heap.objs.size (.tup [x, y])) h'' s.heap.objs.size (.tup [x, y]) :=
      ⟨by show 2 ≤ sizeLine; decide, [u, u2], .cons ru (.cons ru2 .nil), ⟨_, hT2, rfl, _, rfl⟩⟩
    have I1 : Inv X pins σ (upd H s.heap.objs.size (.tup [x, y])) { s with heap := h'' } :=
      I.turnedNew (t' := s.toks) (ch := [z, TI, TO, i1, i2]) (fun d o hb q => (sb.2 d (fun q' => hb (by simp [q']))).trans (hk d o (fun q' => hb (by simp [q'])) (fun q' => hb (by simp [q'])) (fun q' => hb (by simp [q'])) (fun q' => hb (by simp [q'])) q)) hf (Nat.le_refl _) new
    refine ⟨.ref s.heap.objs.size, _, I1, rfl, ⟨_, x, y, rfl, I.hok.fresh (Nat.le_refl _), rfl, fun l hl => by rw [sqa_inj I hl hqx]; exact hx, fun l hl => by rw [sqa_inj I hl hqy]; exact hy⟩, ?_, fun d hd => ?_⟩
    · obtain ⟨_, hTI, ⟨ta, tb, hTO⟩, h1, h2⟩ := st'
      exact ⟨⟨f0', f1, z'', hf''⟩, (sb.2 _ D.TIz).trans hTI, ⟨ta, tb, (sb.2 _ D.TOz).trans hTO⟩, h1.at fun o q => (sb.2 _ D.i1z).trans q, h2.at fun o q => (sb.2 _ D.i2z).trans q⟩
    · rw [upd_ne (Nat.ne_of_lt (hlt d hd))]
      exact (hf d hd).1
  done := by
    intro X hP hw hK hc i pins s σ H E I hf st hg
    subst hP hw hK
    obtain ⟨xs, ys, hqx, hqy, hend⟩ := hg
    obtain ⟨its, rv, p, _⟩ := sqa_inv I hqx
    obtain ⟨its2, rv2, p2, _⟩ := sqa_inv I hqy
    have l1 := rv.length
    have l2 := rv2.length
    have he : its.toArray[i]? = none ∨ its2.toArray[i]? = none := by
      rcases hend with q | q
      · exact .inl (by simp; omega)
      · exact .inr (by simp; omega)
    exact zip_pyNext_end (I.ok.hd hc) D st p p2 he fun h' hk => ⟨rfl, I.turnedL (t' := s.toks) (ch := [z, TI, TO, i1, i2]) (fun d o hb q =>
      hk d o (fun q' => hb (by simp [q'])) (fun q' => hb (by simp [q'])) (fun q' => hb (by simp [q'])) (fun q' => hb (by simp [q'])) q) hf⟩
  self := fun A i s Q E st h => by
    obtain ⟨f0, f1, hz, _⟩ := st.zip
    exact zip_self hz h

/-! ### zip(..) made: of lists and tuples -/
abbrev itN (b : Bool) : String := if b = true then "list_iterator" else "tuple_iterator"
section
open Sem (wp)
theorem sub_zip' : isSubtype (.type "zip") (.type "zip") = pure true := by
  rw [isSubtype_type]
  kernel_rfl
abbrev zh1 (b : Bool) (h : Heap) (l1 : Addr) : Heap := h.push { cls := .type (itN b), data := .fields #[.ref l1, .int 0 0] }
abbrev zh2 (b b' : Bool) (h : Heap) (l1 l2 : Addr) : Heap := (zh1 b h l1).push { cls := .type (itN b'), data := .fields #[.ref l2, .int 0 0] }
abbrev zh3 (b b' : Bool) (h : Heap) (l1 l2 : Addr) : Heap := (zh2 b b' h l1 l2).push { cls := .type "tuple", data := .seq #[.ref h.objs.size, .ref (zh1 b h l1).objs.size] }
abbrev zh4 (b b' : Bool) (h : Heap) (l1 l2 : Addr) : Heap := (zh3 b b' h l1 l2).push { cls := .type "tuple", data := .seq #[.none, .none] }
abbrev zh5 (b b' : Bool) (h : Heap) (l1 l2 : Addr) : Heap := (zh4 b b' h l1 l2).push { cls := .type "zip", data := .fields #[.none, .bool false, .bool false, .ref (zh2 b b' h l1 l2).objs.size, .ref (zh3 b b' h l1 l2).objs.size] }
theorem iter_sq {prog : Program} {w : World} {A : Around} {E : Value → Shared → Prop} {s : Shared} {b : Bool} {l : Addr} {xs : Array Value} {Q : Value → Shared → Prop} (c : SqC b l xs s.heap)
    (h : Q (.ref s.heap.objs.size) { s with heap := s.heap.push { cls := .type (itN b), data := .fields #[.ref l, .int 0 0] } }) : wpAny (model prog w) A (pyIter (.ref l)) Q E s := by
  cases b with
  | true => exact wpAny_pyIter_list c h
  | false => exact wpAny_pyIter_tuple c h
theorem meets_zp (b b' : Bool) (l1 l2 : Addr) (xs ys : Array Value) :
    Meets (Builtin.«zip.__new__» ⟨[.type "zip", .ref l1, .ref l2], []⟩) (fun _ R s => SqC b l1 xs s.heap ∧ SqC b' l2 ys s.heap ∧
      R (.ok (.ret (.ref (zh4 b b' s.heap l1 l2).objs.size))) { s with heap := zh5 b b' s.heap l1 l2 }) :=
  .of_wp fun prog w A R s h => by
    obtain ⟨hp, g, d, tk, os⟩ := s
    obtain ⟨hl1, hl2, h⟩ := h
    have hsub := sub_zip'
    have hL1 : SqC b l1 xs (Shared.heap ⟨hp, g, d, tk, os⟩) := hl1
    have hL2 : SqC b' l2 ys (Shared.heap ⟨hp.push { cls := .type (itN b), data := .fields #[.ref l1, .int 0 0] }, g, d, tk, os⟩) := hl2.at fun o q => Heap.get?_push_of_some _ q
    wp_walk using iter_sq hL1, iter_sq hL2
    exact ⟨_, rfl, h⟩
end
section
variable {prog : Program} {w : World} {A : Around} {E : Value → Shared → Prop} {s : Shared}
theorem sqit_new {b : Bool} {it l : Addr} {h : Heap} (e : h.get? it = some { cls := .type (itN b), data := .fields #[.ref l, .int 0 0] }) : SqIt b it l 0 h := by
  cases b with
  | true => exact ⟨_, e, rfl, rfl⟩
  | false => exact ⟨_, e, rfl, rfl⟩
theorem call_zp {b b' : Bool} {l1 l2 : Addr} {xs ys : Array Value} {Q : Value → Shared → Prop} (hl1 : SqC b l1 xs s.heap) (hl2 : SqC b' l2 ys s.heap)
    (h : ∀ h', ZipTn b b' (s.heap.objs.size + 4) (s.heap.objs.size + 2) (s.heap.objs.size + 3) s.heap.objs.size (s.heap.objs.size + 1) l1 l2 0 h' → h'.objs.size = s.heap.objs.size + 5 →
      (∀ c o, s.heap.get? c = some o → h'.get? c = some o) → Q (.ref (s.heap.objs.size + 4)) { s with heap := h' }) :
    wpAny (model prog w) A (call (.type "zip") [.ref l1, .ref l2]) Q E s := by
  refine callType_new F.called_zip (by decide) (F.typeCall_zip_2 _ _) (F.newCall_zip_2 _ _) (fun obj => F.args_object_init_3 obj _ _) F.entry_zip_new
    (meets_zp b b' l1 l2 xs ys) ⟨hl1, hl2, ?_⟩
  have z1 : (zh1 b s.heap l1).objs.size = s.heap.objs.size + 1 := Heap.size_push ..
  have z2 : (zh2 b b' s.heap l1 l2).objs.size = s.heap.objs.size + 2 := by rw [Heap.size_push, z1]
  have z3 : (zh3 b b' s.heap l1 l2).objs.size = s.heap.objs.size + 3 := by rw [Heap.size_push, z2]
  have z4 : (zh4 b b' s.heap l1 l2).objs.size = s.heap.objs.size + 4 := by rw [Heap.size_push, z3]
  have z5 : (zh5 b b' s.heap l1 l2).objs.size = s.heap.objs.size + 5 := by rw [Heap.size_push, z4]
  have g5 : (zh5 b b' s.heap l1 l2).get? (zh4 b b' s.heap l1 l2).objs.size = some _ := Heap.get?_push_size _ rfl
  have g4 : (zh5 b b' s.heap l1 l2).get? (zh3 b b' s.heap l1 l2).objs.size = some _ := Heap.get?_push_of_some _ (Heap.get?_push_size _ rfl)
  have g3 : (zh5 b b' s.heap l1 l2).get? (zh2 b b' s.heap l1 l2).objs.size = some _ := Heap.get?_push_of_some _ (Heap.get?_push_of_some _ (Heap.get?_push_size _ rfl))
  have g2 : (zh5 b b' s.heap l1 l2).get? (zh1 b s.heap l1).objs.size = some _ := Heap.get?_push_of_some _ (Heap.get?_push_of_some _ (Heap.get?_push_of_some _ (Heap.get?_push_size _ rfl)))
  have g1 : (zh5 b b' s.heap l1 l2).get? s.heap.objs.size = some _ := Heap.get?_push_of_some _ (Heap.get?_push_of_some _ (Heap.get?_push_of_some _ (Heap.get?_push_of_some _ (Heap.get?_push_size _ rfl))))
  show _ ∧ _
  rw [z2, z3, z4] at g5
  rw [z1, z2] at g3
  rw [z3] at g4
  rw [z1] at g2
  rw [z4]
  exact ⟨⟨_, g5, rfl⟩, h _ ⟨⟨_, _, g5, .inl rfl⟩, g3, ⟨_, _, g4⟩, sqit_new g1, sqit_new g2⟩ z5 fun c o x =>
    Heap.get?_push_of_some _ (Heap.get?_push_of_some _ (Heap.get?_push_of_some _ (Heap.get?_push_of_some _ (Heap.get?_push_of_some _ x))))⟩
end
end DL
end
section
set_option maxRecDepth 100000
set_option maxHeartbeats 1000000
/-! DIter3: enumerate. -/
namespace DL
open PySem PySem.Spec PyProof.Rows L2
def iZp (K : PySem.W.Frag) (ta : TA) : TI := fun σ H R => ta σ H fun vs H1 => ∃ a c b1 b2 xs ys, vs = [.ref a, .ref c] ∧ SqA K H1 b1 a xs ∧ SqA K H1 b2 c ys ∧ R (ItZp K b1 b2 a c) H1
section
variable {X : Cx} {pins : List (Addr × Obj)} {H : Hp} {s : Shared} {σ : L2.St}
theorem fp5 (I : Inv X pins σ H s) : ∀ c, c ∈ [s.heap.objs.size + 4, s.heap.objs.size + 2, s.heap.objs.size + 3, s.heap.objs.size, s.heap.objs.size + 1] → FpOk X pins H c := fun c hcm => by
  have e' : c = s.heap.objs.size + 4 ∨ c = s.heap.objs.size + 2 ∨ c = s.heap.objs.size + 3 ∨ c = s.heap.objs.size ∨ c = s.heap.objs.size + 1 := by simpa using hcm
  have hle : s.heap.objs.size ≤ c := by
    rcases e' with z | z | z | z | z <;> rw [z] <;> first | exact Nat.le_refl _ | exact Nat.le_add_right _ _
  exact I.fpOk hle (I.hok.fresh hle)
end
theorem pi_zp {X : Cx} {e e2 : Expr} {ta : TA} {p pos tpos : Pos} {elts : List Expr} {kk : Nat} (hg : Gl X "zip") (hm : X.mg "zip" = none) (ha : PA X [e, e2] ta)
    (hs : starEach [e, e2] X.env = (false, eval e X.env) :: starEach [e2] X.env := by rfl) (hpl : (backTo pos (starEach [e2] X.env)).any (·.1) = false := by rfl) :
    PI X (.Tuple elts kk tpos) (.Call (.Name "zip" p) [e, e2] [] pos) (iZp X.K ta) := by
  refine ⟨fun pins s σ H R I h => ?_⟩
  refine Call_ (ld_blt I hg hm PyProof.Rows.boot_zip (PyProof.Rows.callWith_type1 (thn (ha.run pos pins s σ H _ I h) fun us s1 ⟨vs, H1, I1, r1, q1⟩ => ?_) hs hpl))
  obtain ⟨a, c, b1, b2, xs, ys, rfl, hqx, hqy, q⟩ := q1
  obtain ⟨u, v, rfl, ru, rv'⟩ := vals2 r1
  cases ru
  cases rv'
  obtain ⟨its, _, p1, l1⟩ := sqa_inv I1 hqx
  obtain ⟨its2, _, p2, l2⟩ := sqa_inv I1 hqy
  refine call_zp p1 p2 fun h' t hsz hk => ?_
  obtain ⟨f0, f1, hz, _⟩ := t.zip
  refine zip_self hz ?_
  exact ⟨_, _, _, _, H1, rfl, I1.kept (t' := s1.toks) hk, turn_zp (PySem.W.ktu_apart s1.heap.objs.size a c l1 l2), t, fp5 I1, q⟩

/-! ### enumerate over a list or a tuple -/
def ItEn (K : PySem.W.Frag) (b : Bool) (a : Addr) : It :=
  ⟨fun i H => ∃ (xs : List V) (x : V), SqA K H b a xs ∧ xs[i]? = some x, fun i H v H' => ∃ T x, v = .ref T ∧ H T = none ∧ H' = upd H T (.tup [.int (i : Nat), x]) ∧ ∀ xs, SqA K H b a xs → xs[i]? = some x, fun i H => ∃ xs : List V, SqA K H b a xs ∧ xs.length ≤ i⟩
theorem turn_en {P : Program} {w : World} {K : PySem.W.Frag} {elts : List Expr} {kk : Nat} {tpos : Pos} {b : Bool} (a e it : Addr) :
    Turn P w K (.Tuple elts kk tpos) (ItEn K b a) [e, it] e (fun i h => (∃ old, IsEnum h e it ((i : Nat) : Int) old) ∧ SqIt b it a i h ∧ e ≠ it) where
  mem := by simp
  obj := fun i h st c hc => by
    obtain ⟨⟨old, he⟩, hi, _⟩ := st
    have e' : c = e ∨ c = it := by simpa using hc
    rcases e' with z | z <;> subst z
    · exact ⟨_, he, fun v q => nomatch q⟩
    · exact hi.obj
  keep := fun i h h' st k => let ⟨⟨old, he⟩, hi, hne⟩ := st; ⟨⟨old, k e (by simp) _ he⟩, hi.at fun o q => k it (by simp) o q, hne⟩
  item := by
    intro X hP hw hK hc i pins s σ H E I hf st hg
    subst hP hw hK
    obtain ⟨⟨old, he⟩, hit, hne⟩ := st
    obtain ⟨xs, x, hq, hx⟩ := hg
    obtain ⟨its, rv, p, _⟩ := sqa_inv I hq
    obtain ⟨u, hu, ru⟩ := rv.get hx
    have hel : e < s.heap.objs.size := Heap.lt_size he
    have hil : it < s.heap.objs.size := by
      obtain ⟨o, q, _⟩ := hit.obj
      exact Heap.lt_size q
    refine enum_pyNext he (next_sq hit p (x := u) (by simpa using hu) fun h₁ hit₁ hs₁ => ⟨rfl, rfl, rfl, (hs₁.2 e hne).trans he, fun h' ho hT hsz hk => ?_⟩)
    have z1 : h₁.objs.size = s.heap.objs.size := hs₁.1
    rw [z1] at ho hT hsz ⊢
    refine ⟨_, rfl, wpAny_letOwnedTupleGo_enum (s := { s with heap := h', toks := s.toks + 1 }) ho fun h'' he' sb => ?_⟩
    have hT2 : h''.get? s.heap.objs.size = some { cls := .type "tuple", data := .seq #[.int i s.toks, u] } := (sb.2 _ (Nat.ne_of_gt hel)).trans hT
    have new : ObjOk X.prog X.w (upd H s.heap.objs.size (.tup [.int (i : Nat), x])) h'' s.heap.objs.size (.tup [.int (i : Nat), x]) :=
      ⟨by show 2 ≤ sizeLine; decide, [.int i s.toks, u], .cons ⟨_, rfl⟩ (.cons ru .nil), ⟨_, hT2, rfl, _, rfl⟩⟩
    have I1 : Inv X pins σ (upd H s.heap.objs.size (.tup [.int (i : Nat), x])) { s with heap := h'', toks := s.toks + 1 } :=
      I.turnedNew (ch := [e, it]) (fun d ob hb q => (sb.2 d (fun z => hb (by simp [z]))).trans (hk d ob (fun z => hb (by simp [z])) ((hs₁.2 d (fun z => hb (by simp [z]))).trans q))) hf (Nat.le_refl _) new
    refine ⟨.ref s.heap.objs.size, _, I1, rfl, ⟨_, x, rfl, I.hok.fresh (Nat.le_refl _), rfl, fun ys hy => by rw [sqa_inj I hy hq]; exact hx⟩, ⟨⟨u, ?_⟩, hit₁.at fun o q => (sb.2 it (Ne.symm hne)).trans (hk it o (Ne.symm hne) q), hne⟩, fun d hd => ?_⟩
    · have e1 : ((i + 1 : Nat) : Int) = (i : Int) + 1 := by omega
      rw [e1]
      exact he'
    · have hb' : d < s.heap.objs.size := by
        have e' : d = e ∨ d = it := by simpa using hd
        rcases e' with z | z <;> rw [z]
        · exact hel
        · exact hil
      rw [upd_ne (Nat.ne_of_lt hb')]
      exact (hf d hd).1
  done := by
    intro X hP hw hK hc i pins s σ H E I hf st hg
    subst hP hw hK
    obtain ⟨⟨old, he⟩, hit, hne⟩ := st
    obtain ⟨xs, hq, hx⟩ := hg
    obtain ⟨its, rv, p, _⟩ := sqa_inv I hq
    obtain ⟨f0, f1, f2, f3, f4, f5⟩ := hf it (by simp)
    have hl := rv.length
    exact enum_pyNext_end he (next_sq_end (I.ok.hd hc) hit p (by simp; omega) fun h' x eb hx => ⟨x, rfl, hx, rfl, I.turned (t' := s.toks) (fun d o hb q => eb d o hb q) f0 f1 f3 f4 f5⟩)
  self := fun A i s Q E st h => let ⟨⟨_, he⟩, _⟩ := st; wpAny_pyIter_enum he h
abbrev eh1 (b : Bool) (h : Heap) (l : Addr) : Heap := h.push { cls := .type (itN b), data := .fields #[.ref l, .int 0 0] }
abbrev eh2 (b : Bool) (h : Heap) (l : Addr) : Heap := (eh1 b h l).push { cls := .type "enumerate", data := .fields #[.none, .bool false, .ref h.objs.size, rawInt 0, .none, .none] }
theorem meets_en (b : Bool) (l : Addr) (xs : Array Value) :
    Meets (Builtin.«enumerate.__new__» ⟨[.type "enumerate", .ref l], []⟩) (fun _ R s => SqC b l xs s.heap ∧ R (.ok (.ret (.ref (eh1 b s.heap l).objs.size))) { s with heap := eh2 b s.heap l }) :=
  .of_wp fun prog w A R s h => by
    obtain ⟨hp, g, d, tk, os⟩ := s
    obtain ⟨hl, h⟩ := h
    have hsub := sub_enumerate
    have hL : SqC b l xs (Shared.heap ⟨hp, g, d, tk, os⟩) := hl
    wp_walk
    refine wpAny_stack_any fun st => wpAny_pure ?_
    split
    · rename_i c _ _ _ _ _
      cases (c == Value.type "enumerate")
      · wp_walk using iter_sq hL
        exact ⟨_, rfl, h⟩
      · wp_walk using iter_sq hL
        exact ⟨_, rfl, h⟩
    · wp_walk using iter_sq hL
      exact ⟨_, rfl, h⟩
abbrev eh3 (h : Heap) (z : Addr) : Heap := h.push { cls := .type "enumerate", data := .fields #[.none, .bool false, .ref z, rawInt 0, .none, .none] }
theorem meets_enz (z TI TO : Addr) (f0 f1 : Value) :
    Meets (Builtin.«enumerate.__new__» ⟨[.type "enumerate", .ref z], []⟩) (fun _ R s => ZipAt s.heap z TI TO f0 f1 ∧ R (.ok (.ret (.ref s.heap.objs.size))) { s with heap := eh3 s.heap z }) :=
  .of_wp fun prog w A R s h => by
    obtain ⟨hp, g, d, tk, os⟩ := s
    obtain ⟨hl, h⟩ := h
    have hsub := sub_enumerate
    have hL : ZipAt (Shared.heap ⟨hp, g, d, tk, os⟩) z TI TO f0 f1 := hl
    wp_walk
    refine wpAny_stack_any fun st => wpAny_pure ?_
    split
    · rename_i c _ _ _ _ _
      cases (c == Value.type "enumerate")
      · wp_walk using zip_self hL
        exact ⟨_, rfl, h⟩
      · wp_walk using zip_self hL
        exact ⟨_, rfl, h⟩
    · wp_walk using zip_self hL
      exact ⟨_, rfl, h⟩
section
variable {prog : Program} {w : World} {A : Around} {E : Value → Shared → Prop} {s : Shared}
theorem call_en {b : Bool} {l : Addr} {xs : Array Value} {Q : Value → Shared → Prop} (hL : SqC b l xs s.heap)
    (h : ∀ h', IsEnum h' (s.heap.objs.size + 1) s.heap.objs.size 0 .none → SqIt b s.heap.objs.size l 0 h' → h'.objs.size = s.heap.objs.size + 2 →
      (∀ d o, s.heap.get? d = some o → h'.get? d = some o) → Q (.ref (s.heap.objs.size + 1)) { s with heap := h' }) :
    wpAny (model prog w) A (call (.type "enumerate") [.ref l]) Q E s := by
  refine callType_new F.called_enumerate (by decide) (F.typeCall_enumerate_1 _) (F.newCall_enumerate_1 _) (fun obj => F.args_object_init_2 obj _) F.entry_enumerate_new (meets_en b l xs) ⟨hL, ?_⟩
  have hz : (eh1 b s.heap l).objs.size = s.heap.objs.size + 1 := Heap.size_push ..
  have he : (eh2 b s.heap l).get? (eh1 b s.heap l).objs.size = some _ := Heap.get?_push_size _ rfl
  show _ ∧ _
  rw [hz] at he ⊢
  exact ⟨⟨_, he, rfl⟩, h _ he (sqit_new (Heap.get?_push_of_some _ (Heap.get?_push_size _ rfl))) (by rw [Heap.size_push, hz]) fun d o x => Heap.get?_push_of_some _ (Heap.get?_push_of_some _ x)⟩
theorem call_enz {z TI TO : Addr} {f0 f1 : Value} {Q : Value → Shared → Prop} (hL : ZipAt s.heap z TI TO f0 f1)
    (h : ∀ h', IsEnum h' s.heap.objs.size z 0 .none → h'.objs.size = s.heap.objs.size + 1 → (∀ d o, s.heap.get? d = some o → h'.get? d = some o) → Q (.ref s.heap.objs.size) { s with heap := h' }) :
    wpAny (model prog w) A (call (.type "enumerate") [.ref z]) Q E s := by
  refine callType_new F.called_enumerate (by decide) (F.typeCall_enumerate_1 _) (F.newCall_enumerate_1 _) (fun obj => F.args_object_init_2 obj _) F.entry_enumerate_new (meets_enz z TI TO f0 f1) ⟨hL, ?_⟩
  have he : (eh3 s.heap z).get? s.heap.objs.size = some _ := Heap.get?_push_size _ rfl
  exact ⟨⟨_, he, rfl⟩, h _ he (Heap.size_push ..) fun d o x => Heap.get?_push_of_some _ x⟩
end
def iEn (K : PySem.W.Frag) (tl : TE) : TI := fun σ H R => tl σ H fun x H1 => ∃ a b xs, x = .ref a ∧ SqA K H1 b a xs ∧ R (ItEn K b a) H1
theorem pi_en {X : Cx} {e : Expr} {tl : TE} {p pos tpos : Pos} {elts : List Expr} {kk : Nat} (hg : Gl X "enumerate") (hm : X.mg "enumerate" = none) (he : PE X e tl) (hs : starEach [e] X.env = (false, eval e X.env) :: starEach [] X.env := by rfl) :
    PI X (.Tuple elts kk tpos) (.Call (.Name "enumerate" p) [e] [] pos) (iEn X.K tl) := by
  refine ⟨fun pins s σ H R I h => ?_⟩
  refine Call_ (ld_blt I hg hm boot_enumerate (PyProof.Rows.callWith_type1 (one_arg he I h (fun v s1 x H1 I1 r1 q1 => ?_) hs) hs rfl))
  obtain ⟨a, b, xs, rfl, hq, q⟩ := q1
  cases r1
  obtain ⟨its, _, p', _⟩ := sqa_inv I1 hq
  refine call_en p' fun h' he' hit hsz hk => wpAny_pyIter_enum he' ?_
  refine ⟨s1.heap.objs.size + 1, [s1.heap.objs.size + 1, s1.heap.objs.size], _, _, H1, rfl, I1.kept (t' := s1.toks) hk, turn_en a (s1.heap.objs.size + 1) s1.heap.objs.size, ⟨⟨.none, he'⟩, hit, Nat.succ_ne_self _⟩, fun d hd => ?_, q⟩
  have e' : d = s1.heap.objs.size + 1 ∨ d = s1.heap.objs.size := by simpa using hd
  have hle : s1.heap.objs.size ≤ d := by
    rcases e' with z | z <;> rw [z] <;> first | exact Nat.le_refl _ | exact Nat.le_add_right _ _
  exact I1.fpOk hle (I1.hok.fresh hle)

/-! ### enumerate over a zip -/
def ItEz (K : PySem.W.Frag) (b1 b2 : Bool) (a c : Addr) : It :=
  ⟨fun i H => ∃ (xs ys : List V) (x y : V), SqA K H b1 a xs ∧ SqA K H b2 c ys ∧ xs[i]? = some x ∧ ys[i]? = some y,
    fun i H v H' => ∃ T1 T x y, v = .ref T ∧ H T1 = none ∧ H T = none ∧ T ≠ T1 ∧ H' = upd (upd H T1 (.tup [x, y])) T (.tup [.int (i : Nat), .ref T1]) ∧ (∀ xs, SqA K H b1 a xs → xs[i]? = some x) ∧ ∀ ys, SqA K H b2 c ys → ys[i]? = some y,
    fun i H => ∃ xs ys : List V, SqA K H b1 a xs ∧ SqA K H b2 c ys ∧ (xs.length ≤ i ∨ ys.length ≤ i)⟩
theorem turn_ez {P : Program} {w : World} {K : PySem.W.Frag} {elts : List Expr} {kk : Nat} {tpos : Pos} {b1 b2 : Bool} {a c z TI TO i1 i2 : Addr} (e : Addr) (D : ZipApart z TI TO i1 i2 a c) (ne : ∀ d ∈ [z, TI, TO, i1, i2], d ≠ e) :
    Turn P w K (.Tuple elts kk tpos) (ItEz K b1 b2 a c) [e, z, TI, TO, i1, i2] e (fun i h => (∃ old, IsEnum h e z ((i : Nat) : Int) old) ∧ ZipTn b1 b2 z TI TO i1 i2 a c i h) where
  mem := by simp
  obj := fun i h st d hd => by
    obtain ⟨⟨old, he⟩, t⟩ := st
    rcases List.mem_cons.mp hd with q | q
    · subst q
      exact ⟨_, he, fun v q => nomatch q⟩
    · exact zipTn_obj t d q
  keep := fun i h h' st k => let ⟨⟨old, he⟩, t⟩ := st; ⟨⟨old, k e (by simp) _ he⟩, zipTn_keep t fun d hd => k d (List.mem_cons_of_mem _ hd)⟩
  item := by
    intro X hP hw hK hc i pins s σ H E I hf st hg
    subst hP hw hK
    obtain ⟨⟨old, he⟩, t⟩ := st
    obtain ⟨xs, ys, x, y, hqx, hqy, hx, hy⟩ := hg
    obtain ⟨its, rv, p, _⟩ := sqa_inv I hqx
    obtain ⟨its2, rv2, p2, _⟩ := sqa_inv I hqy
    obtain ⟨u, hu, ru⟩ := rv.get hx
    obtain ⟨u2, hu2, ru2⟩ := rv2.get hy
    have hlt := zipTn_lt t
    have hel : e < s.heap.objs.size := Heap.lt_size he
    have n1 := ne z (by simp)
    have n3 := ne TO (by simp)
    have n4 := ne i1 (by simp)
    have n5 := ne i2 (by simp)
    refine enum_pyNext he (zip_next D t p p2 (x := u) (y := u2) (by simpa using hu) (by simpa using hu2) fun h₁ t₁ hT₁ hsz₁ hk₁ => ⟨rfl, rfl, rfl, hk₁ e _ n1.symm n3.symm n4.symm n5.symm he, fun h' ho hT hsz hk => ?_⟩)
    refine ⟨_, rfl, wpAny_letOwnedTupleGo_enum (s := { s with heap := h', toks := s.toks + 1 }) ho fun h'' he' sb => ?_⟩
    have new1 : ObjOk X.prog X.w (upd H s.heap.objs.size (.tup [x, y])) h₁ s.heap.objs.size (.tup [x, y]) :=
      ⟨by show 2 ≤ sizeLine; decide, [u, u2], .cons ru (.cons ru2 .nil), ⟨_, hT₁, rfl, _, rfl⟩⟩
    have I1 : Inv X pins σ (upd H s.heap.objs.size (.tup [x, y])) { s with heap := h₁ } :=
      I.turnedNew (t' := s.toks) (ch := [e, z, TI, TO, i1, i2]) (fun d o hb q => hk₁ d o (fun q' => hb (by simp [q'])) (fun q' => hb (by simp [q'])) (fun q' => hb (by simp [q'])) (fun q' => hb (by simp [q'])) q) hf (Nat.le_refl _) new1
    have hel1 : e < h₁.objs.size := by
      have q : h₁.objs.size = s.heap.objs.size + 1 := hsz₁
      exact Nat.lt_of_lt_of_eq (Nat.lt_succ_of_lt hel) q.symm
    have hT2 : h''.get? h₁.objs.size = some { cls := .type "tuple", data := .seq #[.int i s.toks, .ref s.heap.objs.size] } := (sb.2 _ (Nat.ne_of_gt hel1)).trans hT
    have new2 : ObjOk X.prog X.w (upd (upd H s.heap.objs.size (.tup [x, y])) h₁.objs.size (.tup [.int (i : Nat), .ref s.heap.objs.size])) h'' h₁.objs.size (.tup [.int (i : Nat), .ref s.heap.objs.size]) :=
      ⟨by show 2 ≤ sizeLine; decide, [.int i s.toks, .ref s.heap.objs.size], .cons ⟨_, rfl⟩ (.cons rfl .nil), ⟨_, hT2, rfl, _, rfl⟩⟩
    have hf1 : ∀ d ∈ [e, z, TI, TO, i1, i2], FpOk X pins (upd H s.heap.objs.size (.tup [x, y])) d := fun d hd => by
      obtain ⟨f0, f1, f2, f3, f4, f5⟩ := hf d hd
      refine ⟨?_, f1, f2, f3, f4, f5⟩
      have hd' : d < s.heap.objs.size := by
        rcases List.mem_cons.mp hd with q | q
        · rw [q]
          exact hel
        · exact hlt d q
      rw [upd_ne (Nat.ne_of_lt hd')]
      exact f0
    have I2 := Inv.turnedNew (t' := s.toks + 1) (h' := h'') (ch := [e, z, TI, TO, i1, i2]) I1 (fun d o hb q => (sb.2 d (fun z => hb (by simp [z]))).trans (hk d o (fun z => hb (by simp [z])) q)) hf1 (Nat.le_refl _) new2
    refine ⟨.ref h₁.objs.size, _, I2, rfl, ⟨s.heap.objs.size, _, x, y, rfl, I.hok.fresh (Nat.le_refl _), I.hok.fresh (by rw [hsz₁]; exact Nat.le_succ _), by rw [hsz₁]; exact Nat.succ_ne_self _, rfl, fun l hl => by rw [sqa_inj I hl hqx]; exact hx, fun l hl => by rw [sqa_inj I hl hqy]; exact hy⟩, ⟨⟨.ref s.heap.objs.size, ?_⟩, ?_⟩, fun d hd => ?_⟩
    · have e1 : ((i + 1 : Nat) : Int) = (i : Int) + 1 := by omega
      rw [e1]
      exact he'
    · exact zipTn_keep t₁ fun d hd o q => (sb.2 d (ne d hd)).trans (hk d o (ne d hd) q)
    · have q := (hf1 d hd).1
      have hd' : d < h₁.objs.size := by
        rcases List.mem_cons.mp hd with q | q
        · rw [q]
          exact hel1
        · exact zipTn_lt t₁ d q
      rw [upd_ne (Nat.ne_of_lt hd')]
      exact q
  done := by
    intro X hP hw hK hc i pins s σ H E I hf st hg
    subst hP hw hK
    obtain ⟨⟨old, he⟩, t⟩ := st
    obtain ⟨xs, ys, hqx, hqy, hend⟩ := hg
    obtain ⟨its, rv, p, _⟩ := sqa_inv I hqx
    obtain ⟨its2, rv2, p2, _⟩ := sqa_inv I hqy
    have l1 := rv.length
    have l2 := rv2.length
    have hn : its.toArray[i]? = none ∨ its2.toArray[i]? = none := by
      rcases hend with q | q
      · exact .inl (by simp; omega)
      · exact .inr (by simp; omega)
    exact enum_pyNext_end he (zip_next_end (I.ok.hd hc) D t p p2 hn fun h' x hk hx => ⟨x, rfl, hx, rfl, I.turnedL (t' := s.toks) (ch := [e, z, TI, TO, i1, i2]) (fun d o hb q =>
      hk d o (fun q' => hb (by simp [q'])) (fun q' => hb (by simp [q'])) (fun q' => hb (by simp [q'])) (fun q' => hb (by simp [q'])) q) hf⟩)
  self := fun A i s Q E st h => let ⟨⟨_, he⟩, _⟩ := st; wpAny_pyIter_enum he h
def iEz (K : PySem.W.Frag) (ta : TA) : TI := fun σ H R => ta σ H fun vs H1 => ∃ a c b1 b2 xs ys, vs = [.ref a, .ref c] ∧ SqA K H1 b1 a xs ∧ SqA K H1 b2 c ys ∧ R (ItEz K b1 b2 a c) H1
theorem pi_ez {X : Cx} {e e2 : Expr} {ta : TA} {p pos p2 pos2 tpos : Pos} {elts : List Expr} {kk : Nat} (hg : Gl X "enumerate") (hm : X.mg "enumerate" = none) (hgz : Gl X "zip") (hmz : X.mg "zip" = none) (ha : PA X [e, e2] ta)
    (hs : starEach [e, e2] X.env = (false, eval e X.env) :: starEach [e2] X.env := by rfl) (hpl : (backTo pos2 (starEach [e2] X.env)).any (·.1) = false := by rfl)
    (hsz : starEach [.Call (.Name "zip" p2) [e, e2] [] pos2] X.env = (false, eval (.Call (.Name "zip" p2) [e, e2] [] pos2) X.env) :: starEach [] X.env := by rfl) :
    PI X (.Tuple elts kk tpos) (.Call (.Name "enumerate" p) [.Call (.Name "zip" p2) [e, e2] [] pos2] [] pos) (iEz X.K ta) := by
  refine ⟨fun pins s σ H R I h => ?_⟩
  refine Call_ (ld_blt I hg hm boot_enumerate (PyProof.Rows.callWith_type1 (args_cons ?_ hsz) hsz rfl))
  refine Call_ (ld_blt I hgz hmz PyProof.Rows.boot_zip (PyProof.Rows.callWith_type1 (thn (ha.run pos2 pins s σ H _ I h) fun us s1 ⟨vs, H1, I1, r1, q1⟩ => ?_) hs hpl))
  obtain ⟨a, c, b1, b2, xs, ys, rfl, hqx, hqy, q⟩ := q1
  obtain ⟨u, v, rfl, ru, rv'⟩ := vals2 r1
  cases ru
  cases rv'
  obtain ⟨its, _, p1, l1⟩ := sqa_inv I1 hqx
  obtain ⟨its2, _, p2, l2⟩ := sqa_inv I1 hqy
  refine call_zp p1 p2 fun h' t hsz' hk => args_nil ?_
  obtain ⟨f0, f1, hz, _⟩ := t.zip
  refine call_enz (s := { s1 with heap := h' }) hz fun h'' he hsz'' hk'' => wpAny_pyIter_enum he ?_
  have e0 : h'.objs.size = s1.heap.objs.size + 5 := hsz'
  have I2 : Inv X pins σ H1 { s1 with heap := h'' } := I1.kept (t' := s1.toks) fun d o q => hk'' d o (hk d o q)
  refine ⟨h'.objs.size, _, _, _, H1, rfl, I2, turn_ez h'.objs.size (PySem.W.ktu_apart s1.heap.objs.size a c l1 l2) (fun d hd => Nat.ne_of_lt (zipTn_lt t d hd)), ⟨⟨.none, he⟩, zipTn_keep t fun d _ o q => hk'' d o q⟩, fun d hd => ?_, q⟩
  rcases List.mem_cons.mp hd with z | z
  · rw [z]
    have hle : s1.heap.objs.size ≤ h'.objs.size := by omega
    exact I1.fpOk hle (I1.hok.fresh hle)
  · exact fp5 I1 d z
end DL
end
section
set_option maxRecDepth 100000
set_option maxHeartbeats 1000000
/-! DExp: what is walked as data; comprehensions; operators on data. -/
namespace DL
open PySem PySem.Spec PyProof.Rows L2
section
variable {K : PySem.W.Frag} {XC : Nat → Addr} {Wx : WX}
/-- the items of a tuple or a list that stands still -/
def seqD : D → Option (List D)
  | .tup ds => some ds
  | .lst ds => some ds
  | _ => none
theorem seqD_rep {W : Wd} {μ : Mu} {d : D} {ds : List D} {v : V} (h : StOk K W μ) (e : seqD d = some ds) (r : Rep K W.fp W.Hs d v) : ∃ a vs b, v = .ref a ∧ Reps K W.fp W.Hs ds vs ∧ ∀ W', Step W W' → Ex W'.Hs W'.H → SqA K W'.H b a vs := by
  cases d with
  | tup xs =>
    cases e
    obtain ⟨a, vs, rfl, ht, r⟩ := rep_tup_inv r
    exact ⟨a, vs, false, rfl, r, fun W' s ex => ex.sqT (s.hs.sqT ht)⟩
  | lst xs =>
    cases e
    obtain ⟨a, vs, rfl, ht, r⟩ := rep_lst_inv r
    exact ⟨a, vs, true, rfl, r, fun W' s ex => .inl (.inl (ex a _ (s.hs a _ ht)))⟩
  | _ => cases e
def xSeq1 (T : TEd) : En → Mu → Res (List D) := fun ρ μ => (T ρ μ).bind fun d μ1 => match seqD d with
  | some ds => .ok ds μ1
  | none => .no
theorem simi_seq {tl : TE} {T : TEd} (h : SimE K XC Wx tl T) : SimI K XC Wx (iSeq K tl) (xSeq1 T) := by
  intro W σ ρ μ R hs he q qx hn
  unfold xSeq1 at q qx hn
  refine h W σ ρ μ _ hs he (fun W1 v d μ1 e1 s1 h1 r1 => ?_) (fun W1 dx c d μ1 e1 s1 h1 r1 => ?_) (fun e => by rw [e] at hn; exact hn rfl)
  · rw [e1, Res.bind_ok] at q hn
    cases e : seqD d with
    | none => rw [e] at hn; exact absurd rfl hn
    | some ds =>
      rw [e] at q
      dsimp only at q
      cases d with
      | tup xs =>
        cases e
        obtain ⟨a, vs, rfl, ht, r⟩ := rep_tup_inv r1
        refine ⟨a, rfl, .inr ⟨⟨vs, h1.ex.sqT ht⟩, q W1 (Itt K a) _ μ1 rfl s1 h1 fun W2 μ2 s2 h2 => ⟨fun i d hd => ?_, ⟨vs, h2.ex.sqT (s2.hs.sqT ht), by rw [r.length]; exact Nat.le_refl _⟩⟩⟩⟩
        obtain ⟨v, hv, rv⟩ := r.get hd
        refine ⟨⟨vs, v, h2.ex.sqT (s2.hs.sqT ht), hv⟩, fun x H' y => ?_⟩
        obtain ⟨rfl, y⟩ := y
        have := y vs (h2.ex.sqT (s2.hs.sqT ht))
        rw [hv] at this
        cases this
        exact ⟨W2, rfl, Step.refl _, h2, s2.rep rv⟩
      | lst xs =>
        cases e
        obtain ⟨a, vs, rfl, ht, r⟩ := rep_lst_inv r1
        have sq : ∀ W2, Step W1 W2 → Ex W2.Hs W2.H → SqL K W2.H a vs := fun W2 s2 ex => .inl (.inl (ex a _ (s2.hs a _ ht)))
        refine ⟨a, rfl, .inl ⟨⟨vs, sq W1 (Step.refl _) h1.ex⟩, q W1 (Itl K a) _ μ1 rfl s1 h1 fun W2 μ2 s2 h2 => ⟨fun i d hd => ?_, ⟨vs, sq W2 s2 h2.ex, by rw [r.length]; exact Nat.le_refl _⟩⟩⟩⟩
        obtain ⟨v, hv, rv⟩ := r.get hd
        refine ⟨⟨vs, v, sq W2 s2 h2.ex, hv⟩, fun x H' y => ?_⟩
        obtain ⟨rfl, y⟩ := y
        have := y vs (sq W2 s2 h2.ex)
        rw [hv] at this
        cases this
        exact ⟨W2, rfl, Step.refl _, h2, s2.rep rv⟩
      | _ => cases e
  · rw [e1] at qx
    exact qx W1 dx c d μ1 rfl s1 h1 r1
/-- lo, lo + 1, .. -/
def rgD (lo : Int) (n : Nat) : List D := (List.range n).map fun (i : Nat) => .int (lo + (i : Int))
def rgOk (i : Int) : Bool := decide (-(2 ^ 62) ≤ i) && decide (i < 2 ^ 62)
theorem rgOk_of {i : Int} (h : rgOk i = true) : -(2 ^ 62) ≤ i ∧ i < 2 ^ 62 := by
  unfold rgOk at h
  rw [Bool.and_eq_true] at h
  exact ⟨of_decide_eq_true h.1, of_decide_eq_true h.2⟩
theorem iters_rg {lo : Int} {n : Nat} {W : Wd} : Iters K (Itr lo n) W (rgD lo n) := fun W2 μ2 s2 h2 => by
  refine ⟨fun i d hd => ?_, by show n ≤ (rgD lo n).length; simp [rgD]⟩
  unfold rgD at hd
  rw [List.getElem?_map] at hd
  have hi : i < n := by
    cases q : (List.range n)[i]? with
    | none => rw [q] at hd; cases hd
    | some z => simpa using (List.getElem?_eq_some_iff.mp q).1
  rw [List.getElem?_range hi] at hd
  cases hd
  refine ⟨hi, fun x H' y => ?_⟩
  obtain ⟨rfl, rfl⟩ := y
  exact ⟨W2, rfl, Step.refl _, h2, rep_int⟩
def rg1 (ds : List D) (μ : Mu) : Res (List D) := match ds with
  | [.int j] => if rgOk j = true then .ok (rgD 0 j.toNat) μ else .no
  | _ => .no
def rg2 (ds : List D) (μ : Mu) : Res (List D) := match ds with
  | [.int i, .int j] => if rgOk i = true ∧ rgOk j = true then .ok (rgD i (j - i).toNat) μ else .no
  | _ => .no
def xRg1 (T : TAd) : En → Mu → Res (List D) := fun ρ μ => (T ρ μ).bind rg1
def xRg2 (T : TAd) : En → Mu → Res (List D) := fun ρ μ => (T ρ μ).bind rg2
theorem simi_rg1 {ta : TA} {T : TAd} (h : SimA K XC Wx ta T) : SimI K XC Wx (iRng1 ta) (xRg1 T) := by
  intro W σ ρ μ R hs he q qx hn
  unfold xRg1 at q qx hn
  refine h W σ ρ μ _ hs he (fun W1 vs ds μ1 e1 s1 h1 r1 => ?_) (fun W1 dx c d μ1 e1 s1 h1 r1 => ?_) (fun e => by rw [e] at hn; exact hn rfl)
  · rw [e1, Res.bind_ok] at q hn
    unfold rg1 at q hn
    split at hn
    · rename_i j
      dsimp only at q
      by_cases hj : rgOk j = true
      · rw [if_pos hj] at q
        obtain ⟨v, r, rfl, rv, rr⟩ := r1.cons_inv
        rw [rr.nil_inv, rep_int_inv rv]
        obtain ⟨a1, a2⟩ := rgOk_of hj
        exact ⟨j, rfl, a1, a2, q W1 _ _ μ1 rfl s1 h1 iters_rg⟩
      · rw [if_neg hj] at hn
        exact absurd rfl hn
    · exact absurd rfl hn
  · rw [e1] at qx
    exact qx W1 dx c d μ1 rfl s1 h1 r1
theorem simi_rg2 {ta : TA} {T : TAd} (h : SimA K XC Wx ta T) : SimI K XC Wx (iRng2 ta) (xRg2 T) := by
  intro W σ ρ μ R hs he q qx hn
  unfold xRg2 at q qx hn
  refine h W σ ρ μ _ hs he (fun W1 vs ds μ1 e1 s1 h1 r1 => ?_) (fun W1 dx c d μ1 e1 s1 h1 r1 => ?_) (fun e => by rw [e] at hn; exact hn rfl)
  · rw [e1, Res.bind_ok] at q hn
    unfold rg2 at q hn
    split at hn
    · rename_i i j
      dsimp only at q
      by_cases hj : rgOk i = true ∧ rgOk j = true
      · rw [if_pos hj] at q
        obtain ⟨v, r, rfl, rv, rr⟩ := r1.cons_inv
        obtain ⟨v2, r2, rfl, rv2, rr2⟩ := rr.cons_inv
        rw [rr2.nil_inv, rep_int_inv rv, rep_int_inv rv2]
        obtain ⟨a1, a2⟩ := rgOk_of hj.1
        obtain ⟨a3, a4⟩ := rgOk_of hj.2
        exact ⟨i, j, rfl, ⟨a1, a2, a3, a4⟩, q W1 _ _ μ1 rfl s1 h1 iters_rg⟩
      · rw [if_neg hj] at hn
        exact absurd rfl hn
    · exact absurd rfl hn
  · rw [e1] at qx
    exact qx W1 dx c d μ1 rfl s1 h1 r1
/-- enumerate's items -/
def enD (xs : List D) : List D := xs.zipIdx.map fun p => .tup [.int (p.2 : Int), p.1]
def zpD (xs ys : List D) : List D := List.zipWith (fun x y => .tup [x, y]) xs ys
theorem enD_get {xs : List D} {i : Nat} {d : D} (h : (enD xs)[i]? = some d) : ∃ x, xs[i]? = some x ∧ d = .tup [.int (i : Int), x] := by
  unfold enD at h
  rw [List.getElem?_map, List.getElem?_zipIdx] at h
  cases q : xs[i]? with
  | none => rw [q] at h; cases h
  | some x =>
    rw [q] at h
    simp at h
    exact ⟨x, rfl, h.symm⟩
theorem enD_length (xs : List D) : (enD xs).length = xs.length := by simp [enD]
theorem zpD_get {xs ys : List D} {i : Nat} {d : D} (h : (zpD xs ys)[i]? = some d) : ∃ x y, xs[i]? = some x ∧ ys[i]? = some y ∧ d = .tup [x, y] := by
  unfold zpD at h
  rw [List.getElem?_zipWith] at h
  cases q : xs[i]? with
  | none => rw [q] at h; cases h
  | some x =>
    cases q2 : ys[i]? with
    | none => rw [q, q2] at h; cases h
    | some y =>
      rw [q, q2] at h
      simp at h
      exact ⟨x, y, rfl, rfl, h.symm⟩
theorem zpD_length (xs ys : List D) : (zpD xs ys).length = min xs.length ys.length := by simp [zpD]
def xEn (T : TEd) : En → Mu → Res (List D) := fun ρ μ => (xSeq1 T ρ μ).bind fun ds μ1 => .ok (enD ds) μ1
theorem reps2 {fp : Nat → Option Addr} {Hs : Hp} {x y : D} {v u : V} (h : Rep K fp Hs x v) (g : Rep K fp Hs y u) : Reps K fp Hs [x, y] [v, u] := Reps.cons h (Reps.cons g Reps.nil)
theorem simi_en {tl : TE} {T : TEd} (h : SimE K XC Wx tl T) : SimI K XC Wx (iEn K tl) (xEn T) := by
  intro W σ ρ μ R hs he q qx hn
  unfold xEn xSeq1 at q qx hn
  refine h W σ ρ μ _ hs he (fun W1 v d μ1 e1 s1 h1 r1 => ?_) (fun W1 dx c d μ1 e1 s1 h1 r1 => ?_) (fun e => by rw [e] at hn; exact hn rfl)
  · rw [e1, Res.bind_ok] at q hn
    cases e : seqD d with
    | none => rw [e] at hn; exact absurd rfl hn
    | some ds =>
      rw [e] at q
      dsimp only at q
      rw [Res.bind_ok] at q
      obtain ⟨a, vs, b, rfl, r, sq⟩ := seqD_rep h1 e r1
      refine ⟨a, b, vs, rfl, sq W1 (Step.refl _) h1.ex, q W1 _ _ μ1 rfl s1 h1 fun W2 μ2 s2 h2 => ⟨fun i d hd => ?_, ⟨vs, sq W2 s2 h2.ex, by rw [enD_length, r.length]; exact Nat.le_refl _⟩⟩⟩
      obtain ⟨y, hy, rfl⟩ := enD_get hd
      obtain ⟨v, hv, rv⟩ := r.get hy
      refine ⟨⟨vs, v, sq W2 s2 h2.ex, hv⟩, fun x H' z => ?_⟩
      obtain ⟨p, x', rfl, hp, rfl, z⟩ := z
      have := z vs (sq W2 s2 h2.ex)
      rw [hv] at this
      cases this
      obtain ⟨s3, h3, r3⟩ := rep_tup_new h2 (reps2 (rep_int (i := (i : Int))) (s2.rep rv)) hp
      exact ⟨_, rfl, s3, h3, r3⟩
  · rw [e1] at qx
    exact qx W1 dx c d μ1 rfl s1 h1 r1
def zp2 (ds : List D) (μ : Mu) : Res (List D) := match ds with
  | [x, y] => (match seqD x, seqD y with
    | some xs, some ys => .ok (zpD xs ys) μ
    | _, _ => .no)
  | _ => .no
def xZp (T : TAd) : En → Mu → Res (List D) := fun ρ μ => (T ρ μ).bind zp2
theorem zp2_ok {ds : List D} {μ : Mu} (h : zp2 ds μ ≠ .no) : ∃ x y xs ys, ds = [x, y] ∧ seqD x = some xs ∧ seqD y = some ys ∧ zp2 ds μ = .ok (zpD xs ys) μ := by
  unfold zp2 at h
  split at h
  · rename_i x y
    cases e1 : seqD x with
    | none => rw [e1] at h; exact absurd rfl h
    | some xs =>
      cases e2 : seqD y with
      | none => rw [e1, e2] at h; exact absurd rfl h
      | some ys => exact ⟨x, y, xs, ys, rfl, e1, e2, by unfold zp2; dsimp only; rw [e1, e2]⟩
  · exact absurd rfl h
theorem simi_zp {ta : TA} {T : TAd} (h : SimA K XC Wx ta T) : SimI K XC Wx (iZp K ta) (xZp T) := by
  intro W σ ρ μ R hs he q qx hn
  unfold xZp at q qx hn
  refine h W σ ρ μ _ hs he (fun W1 vs ds μ1 e1 s1 h1 r1 => ?_) (fun W1 dx c d μ1 e1 s1 h1 r1 => ?_) (fun e => by rw [e] at hn; exact hn rfl)
  · rw [e1, Res.bind_ok] at q hn
    obtain ⟨x, y, xs, ys, rfl, ex, ey, ez⟩ := zp2_ok hn
    rw [ez] at q
    obtain ⟨v, r, rfl, rv, rr⟩ := r1.cons_inv
    obtain ⟨u, r', rfl, ru, rr'⟩ := rr.cons_inv
    rw [rr'.nil_inv]
    obtain ⟨a, vs, b, rfl, ra, sa⟩ := seqD_rep h1 ex rv
    obtain ⟨c, us, b', rfl, rc, sc⟩ := seqD_rep h1 ey ru
    refine ⟨a, c, b, b', vs, us, rfl, sa W1 (Step.refl _) h1.ex, sc W1 (Step.refl _) h1.ex, q W1 _ _ μ1 rfl s1 h1 fun W2 μ2 s2 h2 => ⟨fun i d hd => ?_, ⟨vs, us, sa W2 s2 h2.ex, sc W2 s2 h2.ex, by rw [zpD_length, ra.length, rc.length]; omega⟩⟩⟩
    obtain ⟨x1, y1, hx, hy, rfl⟩ := zpD_get hd
    obtain ⟨v1, hv1, rv1⟩ := ra.get hx
    obtain ⟨u1, hu1, ru1⟩ := rc.get hy
    refine ⟨⟨vs, us, v1, u1, sa W2 s2 h2.ex, sc W2 s2 h2.ex, hv1, hu1⟩, fun z H' zz => ?_⟩
    obtain ⟨p, x2, y2, rfl, hp, rfl, z1, z2⟩ := zz
    have t1 := z1 vs (sa W2 s2 h2.ex)
    rw [hv1] at t1
    cases t1
    have t2 := z2 us (sc W2 s2 h2.ex)
    rw [hu1] at t2
    cases t2
    obtain ⟨s3, h3, r3⟩ := rep_tup_new h2 (reps2 (s2.rep rv1) (s2.rep ru1)) hp
    exact ⟨_, rfl, s3, h3, r3⟩
  · rw [e1] at qx
    exact qx W1 dx c d μ1 rfl s1 h1 r1
def xEz (T : TAd) : En → Mu → Res (List D) := fun ρ μ => ((T ρ μ).bind zp2).bind fun ds μ1 => .ok (enD ds) μ1
theorem simi_ez {ta : TA} {T : TAd} (h : SimA K XC Wx ta T) : SimI K XC Wx (iEz K ta) (xEz T) := by
  intro W σ ρ μ R hs he q qx hn
  unfold xEz at q qx hn
  refine h W σ ρ μ _ hs he (fun W1 vs ds μ1 e1 s1 h1 r1 => ?_) (fun W1 dx c d μ1 e1 s1 h1 r1 => ?_) (fun e => by rw [e] at hn; exact hn rfl)
  · rw [e1, Res.bind_ok] at q hn
    obtain ⟨x, y, xs, ys, rfl, ex, ey, ez⟩ := zp2_ok (μ := μ1) (ds := ds) (fun e => by rw [e] at hn; exact hn rfl)
    rw [ez, Res.bind_ok] at q
    obtain ⟨v, r, rfl, rv, rr⟩ := r1.cons_inv
    obtain ⟨u, r', rfl, ru, rr'⟩ := rr.cons_inv
    rw [rr'.nil_inv]
    obtain ⟨a, vs, b, rfl, ra, sa⟩ := seqD_rep h1 ex rv
    obtain ⟨c, us, b', rfl, rc, sc⟩ := seqD_rep h1 ey ru
    refine ⟨a, c, b, b', vs, us, rfl, sa W1 (Step.refl _) h1.ex, sc W1 (Step.refl _) h1.ex, q W1 _ _ μ1 rfl s1 h1 fun W2 μ2 s2 h2 => ⟨fun i d hd => ?_, ⟨vs, us, sa W2 s2 h2.ex, sc W2 s2 h2.ex, by rw [enD_length, zpD_length, ra.length, rc.length]; omega⟩⟩⟩
    obtain ⟨d', hd', rfl⟩ := enD_get hd
    obtain ⟨x1, y1, hx, hy, rfl⟩ := zpD_get hd'
    obtain ⟨v1, hv1, rv1⟩ := ra.get hx
    obtain ⟨u1, hu1, ru1⟩ := rc.get hy
    refine ⟨⟨vs, us, v1, u1, sa W2 s2 h2.ex, sc W2 s2 h2.ex, hv1, hu1⟩, fun z H' zz => ?_⟩
    obtain ⟨p1, p, x2, y2, rfl, hp1, hp, hne, rfl, z1, z2⟩ := zz
    have t1 := z1 vs (sa W2 s2 h2.ex)
    rw [hv1] at t1
    cases t1
    have t2 := z2 us (sc W2 s2 h2.ex)
    rw [hu1] at t2
    cases t2
    obtain ⟨s3, h3, r3⟩ := rep_tup_new h2 (reps2 (s2.rep rv1) (s2.rep ru1)) hp1
    have hp' : upd W2.H p1 (.tup [v1, u1]) p = none := by
      rw [upd_ne hne]
      exact hp
    obtain ⟨s4, h4, r4⟩ := rep_tup_new h3 (reps2 (rep_int (i := (i : Int))) r3) hp'
    exact ⟨_, rfl, s3.trans s4, h4, r4⟩
  · rw [e1] at qx
    exact qx W1 dx c d μ1 rfl s1 h1 r1

/-! ### comprehensions -/
def wipeD (ρ : En) : List Nat → En
  | [] => ρ
  | v :: vs => (wipeD ρ vs).set v none
theorem EnvOk.unset {W : Wd} {ρ : En} {σ : L2.St} (h : EnvOk K W ρ σ) (j : Nat) : EnvOk K W (ρ.set j none) (σ.set j none) := by
  refine ⟨by simp [h.1], fun i x e => ?_⟩
  rw [List.getElem?_set] at e ⊢
  by_cases hij : j = i
  · subst hij
    rw [if_pos rfl] at e
    by_cases hl : j < ρ.length
    · rw [if_pos hl] at e
      cases e
    · rw [if_neg hl] at e
      cases e
  · rw [if_neg hij] at e ⊢
    exact h.2 i x e
theorem EnvOk.wipe {W : Wd} {ρ : En} {σ : L2.St} (h : EnvOk K W ρ σ) : ∀ vs : List Nat, EnvOk K W (wipeD ρ vs) (wipe σ vs)
  | [] => h
  | v :: vs => (EnvOk.wipe h vs).unset v
theorem wipe_get {σ : L2.St} {i : Nat} : ∀ {vs : List Nat}, i ∉ vs → (L2.wipe σ vs)[i]? = σ[i]?
  | [], _ => rfl
  | v :: vs, h => by
    unfold L2.wipe
    rw [List.getElem?_set_ne (fun e => h (by rw [e]; simp)), wipe_get (fun e => h (List.mem_cons_of_mem _ e))]
theorem wipe_in {σ : L2.St} {i : Nat} : ∀ {vs : List Nat}, i ∈ vs → i < σ.length → (L2.wipe σ vs)[i]? = some none
  | [], h, _ => by simp at h
  | v :: vs, h, hl => by
    unfold L2.wipe
    by_cases e : v = i
    · subst e
      rw [List.getElem?_set_self (by rw [L2.wipe_length]; exact hl)]
    · rw [List.getElem?_set_ne e]
      refine wipe_in ?_ hl
      rcases List.mem_cons.mp h with z | z
      · exact absurd z.symm e
      · exact z
theorem wipe_same {σ σ' : L2.St} {js vs : List Nat} (hl : σ'.length = σ.length) (hj : ∀ j, j ∉ js → σ'[j]? = (L2.wipe σ vs)[j]?) (hs : ∀ j ∈ js, j ∈ vs) : L2.wipe σ' vs = L2.wipe σ vs := by
  apply List.ext_getElem?
  intro i
  by_cases hi : i ∈ vs
  · by_cases hb : i < σ.length
    · rw [wipe_in hi hb, wipe_in hi (by rw [hl]; exact hb)]
    · rw [List.getElem?_eq_none (by rw [L2.wipe_length]; omega), List.getElem?_eq_none (by rw [L2.wipe_length]; omega)]
  · rw [wipe_get hi, hj i (fun z => hi (hs i z))]
def compD (G : D → En → Mu → Res En) (C : TTd) (B : TEd) (vs : List Nat) (ρ : En) : List D → List D → Mu → Res (List D)
  | [], acc, μ => .ok acc μ
  | d :: ds, acc, μ => match G d (wipeD ρ vs) μ with
    | .ok ρ1 μ1 => (match C ρ1 μ1 with
      | .ok b μ2 => if b = true then (match B ρ1 μ2 with
        | .ok y μ3 => if acc.length < lim then compD G C B vs ρ ds (acc ++ [y]) μ3 else .no
        | _ => .no) else compD G C B vs ρ ds acc μ2
      | _ => .no)
    | _ => .no
def xLc (T : En → Mu → Res (List D)) (G : D → En → Mu → Res En) (C : TTd) (B : TEd) (vs : List Nat) : TEd := fun ρ μ => (T ρ μ).bind fun items μ1 => (compD G C B vs ρ items [] μ1).bind fun l μ2 => .ok (.lst l) μ2
def xYes : TTd := fun _ μ => .ok true μ
theorem sim_yes : SimT K XC Wx tYes xYes := by
  intro W σ ρ μ Q hs he q qx hn
  exact q W true μ rfl (Step.refl W) hs
theorem step_hidden {W : Wd} {p : Addr} {o : HO} (hp : W.H p = none) (ex : Ex W.Hs W.H) : Step W ⟨W.fps, W.Hs, upd W.H p o⟩ := by
  refine ⟨⟨[], by simp⟩, Ex.refl _, fun a u h _ => Ex.new hp a u h, fun a h => ?_, fun a h => .inl h, fun a h => .inl h⟩
  cases q : W.H a with
  | none => exact absurd q h
  | some u =>
    show upd W.H p o a ≠ none
    rw [Ex.new hp a u q]
    simp
theorem StOk.hidden {W : Wd} {μ : Mu} {p : Addr} {o : HO} (h : StOk K W μ) (hp : W.Hs p = none) (hf : p ∉ W.fps.flatten) : StOk K ⟨W.fps, W.Hs, upd W.H p o⟩ μ := by
  have hk : ∀ a u, a ≠ p → W.H a = some u → upd W.H p o a = some u := fun a u n e => by
    rw [upd_ne n]
    exact e
  refine ⟨fun a u e => hk a u (fun z => by subst z; rw [hp] at e; cases e) (h.ex a u e), h.len, h.nd, fun a ha => ?_, fun k c fp e1 e2 => ?_, h.live⟩
  · show upd W.H p o a ≠ none
    rw [upd_ne (fun z => hf (by rw [← z]; exact ha))]
    exact h.dom a ha
  · refine (h.cell k c fp e1 e2).move (fun _ _ x => x) (Ex.refl _) fun a ha u q => hk a u (fun z => hf ?_) q
    rw [← z]
    exact List.mem_flatten.mpr ⟨fp, List.mem_of_getElem? e2, ha⟩
theorem sim_lc {js vs : List Nat} {wi : TI} {g : TG} {tt : TT} {te : TE} {T : En → Mu → Res (List D)} {G : D → En → Mu → Res En} {C : TTd} {B : TEd} (hi : SimI K XC Wx wi T) (hg : SimG K XC Wx js g G)
    (ht : SimT K XC (fun _ _ _ _ => False) tt C) (hb : SimE K XC (fun _ _ _ _ => False) te B) (hj : ∀ j ∈ js, j ∈ vs) : SimE K XC Wx (tLc wi g tt te vs) (xLc T G C B vs) := by
  intro W σ ρ μ Q hs he q qx hn
  unfold xLc at q qx hn
  refine hi W σ ρ μ _ hs he (fun W1 J items μ1 e1 s1 h1 it => ?_) (fun W1 dx c d μ1 e1 s1 h1 r1 => ?_) (fun e => by rw [e] at hn; exact hn rfl)
  · rw [e1, Res.bind_ok] at q hn
    generalize hO : compD G C B vs ρ items [] μ1 = O at q hn
    intro Dl hD
    have hDs : W1.Hs Dl = none := by
      cases z : W1.Hs Dl with
      | none => rfl
      | some u => rw [h1.ex Dl u z] at hD; cases hD
    have hDf : Dl ∉ W1.fps.flatten := fun z => h1.dom Dl z hD
    have s2 : Step W1 ⟨W1.fps, W1.Hs, upd W1.H Dl (.lst [])⟩ := step_hidden hD h1.ex
    have h2 := h1.hidden (o := .lst []) hDs hDf
    refine ⟨fun i m H' => ∃ W3 μ3 acc us, W3.H = H' ∧ Step W1 W3 ∧ StOk K W3 μ3 ∧ i + m = items.length ∧ H' Dl = some (.lst us) ∧ Reps K W3.fp W3.Hs acc us ∧ W3.Hs Dl = none ∧ Dl ∉ W3.fps.flatten ∧ compD G C B vs ρ (items.drop i) acc μ3 = O,
      ⟨items.length, _, μ1, [], [], rfl, s2, h2, by simp, upd_same, Reps.nil, hDs, hDf, by simpa using hO⟩, fun i m H' hW => ?_⟩
    obtain ⟨W3, μ3, acc, us, rfl, s3, h3, hm, hl, hr, hDs3, hDf3, hf⟩ := hW
    obtain ⟨g1, g2⟩ := it W3 μ3 s3 h3
    by_cases hlt : i < items.length
    · have hd : items[i]? = some items[i] := List.getElem?_eq_getElem hlt
      obtain ⟨go, hy⟩ := g1 i _ hd
      rw [List.drop_eq_getElem_cons hlt] at hf
      unfold compD at hf
      refine .inr ⟨go, fun H4 => ∃ W4 μ4 acc us, W4.H = H4 ∧ Step W1 W4 ∧ StOk K W4 μ4 ∧ H4 Dl = some (.lst us) ∧ Reps K W4.fp W4.Hs acc us ∧ W4.Hs Dl = none ∧ Dl ∉ W4.fps.flatten ∧ compD G C B vs ρ (items.drop (i + 1)) acc μ4 = O, fun H4 hN => ?_, fun x H4 y => ?_⟩
      · obtain ⟨W4, μ4, acc4, us4, a1, a2, a3, a4, a5, a6, a7, a8⟩ := hN
        exact ⟨m - 1, by omega, W4, μ4, acc4, us4, a1, a2, a3, by omega, a4, a5, a6, a7, a8⟩
      · obtain ⟨W4, rfl, s4, h4, r4⟩ := hy x H4 y
        have hgo : ∃ ρ' μ', G items[i] (wipeD ρ vs) μ3 = .ok ρ' μ' := by
          cases z : G items[i] (wipeD ρ vs) μ3 with
          | ok a b => exact ⟨a, b, rfl⟩
          | exc c d m => rw [z] at hf; rw [← hf] at hn; exact absurd rfl hn
          | no => rw [z] at hf; rw [← hf] at hn; exact absurd rfl hn
        have keepD : ∀ {Wa Wb : Wd}, Step Wa Wb → Wa.H Dl ≠ none → Wa.Hs Dl = none → Dl ∉ Wa.fps.flatten → Wb.Hs Dl = none ∧ Dl ∉ Wb.fps.flatten := fun {Wa Wb} s hh hs hf => by
          refine ⟨?_, fun z => ?_⟩
          · cases z : Wb.Hs Dl with
            | none => rfl
            | some u =>
              rcases s.news Dl (by rw [z]; simp) with y | y | y
              · exact absurd hs y
              · exact absurd y hh
              · exact absurd y hf
          · rcases s.newf Dl z with y | y
            · exact hf y
            · exact hh y
        have k4 := keepD s4 (by rw [hl]; simp) hDs3 hDf3
        have l4 : W4.H Dl = some (.lst us) := s4.out Dl _ hl hDf3
        refine hg W4 (L2.wipe σ vs) (wipeD ρ vs) μ3 _ x _ h4 ((he.step (s1.trans (s3.trans s4))).wipe vs) r4 (fun W5 σ5 ρ5 μ5 e5 s5 h5 he5 hlen hjs => ?_) hgo
        simp only [e5] at hf
        have k5 := keepD s5 (by rw [l4]; simp) k4.1 k4.2
        have l5 : W5.H Dl = some (.lst us) := s5.out Dl _ l4 k4.2
        refine ⟨wipe_same (by rw [hlen, L2.wipe_length]) hjs hj, ?_⟩
        have s15 := (s3.trans s4).trans s5
        refine ht W5 σ5 ρ5 μ5 _ h5 he5 (fun W6 b μ6 e6 s6 h6 => ?_) (fun W6 dx c d μ6 e6 s6 h6 r6 => ?_) (fun e => by simp only [e] at hf; rw [← hf] at hn; exact hn rfl)
        · simp only [e6] at hf
          have k6 := keepD s6 (by rw [l5]; simp) k5.1 k5.2
          have l6 : W6.H Dl = some (.lst us) := s6.out Dl _ l5 k5.2
          cases b with
          | false =>
            rw [if_neg (by decide)] at hf ⊢
            exact ⟨W6, μ6, acc, us, rfl, s15.trans s6, h6, l6, (((s4.trans s5).trans s6).reps hr), k6.1, k6.2, hf⟩
          | true =>
            rw [if_pos rfl] at hf ⊢
            refine hb W6 σ5 ρ5 μ6 _ h6 (he5.step s6) (fun W7 v y7 μ7 e7 s7 h7 r7 => ?_) (fun W7 dx c d μ7 e7 s7 h7 r7 => ?_) (fun e => by simp only [e] at hf; rw [← hf] at hn; exact hn rfl)
            · simp only [e7] at hf
              have k7 := keepD s7 (by rw [l6]; simp) k6.1 k6.2
              have l7 : W7.H Dl = some (.lst us) := s7.out Dl _ l6 k6.2
              have hr7 : Reps K W7.fp W7.Hs acc us := (((s4.trans s5).trans s6).trans s7).reps hr
              by_cases hlim : acc.length < lim
              · rw [if_pos hlim] at hf
                refine ⟨us, l7, lim_lt (by rw [← hr7.length]; exact hlim), ⟨W7.fps, W7.Hs, upd W7.H Dl (.lst (us ++ [v]))⟩, μ7, acc ++ [y7], us ++ [v], rfl, ?_, h7.hidden k7.1 k7.2, upd_same, hr7.append (Reps.cons r7 Reps.nil), k7.1, k7.2, hf⟩
                have s17 := (s15.trans s6).trans s7
                refine ⟨s17.fps, s17.hs, fun a u ha hna => ?_, fun a ha => ?_, s17.newf, s17.news⟩
                · show upd W7.H Dl _ a = some u
                  rw [upd_ne (fun z => by rw [z, hD] at ha; cases ha)]
                  exact s17.out a u ha hna
                · show upd W7.H Dl _ a ≠ none
                  rw [upd_ne (fun z => ha (by rw [z]; exact hD))]
                  exact s17.dom a ha
              · rw [if_neg hlim] at hf
                rw [← hf] at hn
                exact absurd rfl hn
            · simp only [e7] at hf
              rw [← hf] at hn
              exact absurd rfl hn
        · simp only [e6] at hf
          rw [← hf] at hn
          exact absurd rfl hn
    · have ei : i = items.length := by omega
      subst ei
      rw [List.drop_length] at hf
      unfold compD at hf
      rw [← hf, Res.bind_ok] at q
      refine .inl ⟨g2, ?_⟩
      have exs : Ex W3.Hs (upd W3.Hs Dl (.lst us)) := Ex.new hDs3
      refine q ⟨W3.fps, upd W3.Hs Dl (.lst us), W3.H⟩ (.ref Dl) (.lst acc) μ3 rfl (s1.trans ⟨s3.fps, s3.hs.trans exs, s3.out, s3.dom, s3.newf, fun a ha => ?_⟩) ⟨fun a u e => ?_, h3.len, h3.nd, h3.dom, fun k c fp e1 e2 => (h3.cell k c fp e1 e2).move (fun _ _ x => x) exs fun _ _ _ x => x, fun k c fp e1 hc e2 a ha => ?_⟩ ?_
      · by_cases z : a = Dl
        · subst z
          exact .inr (.inl hD)
        · have ha' : upd W3.Hs Dl (.lst us) a ≠ none := ha
          rw [upd_ne z] at ha'
          exact s3.news a ha'
      · have e' : upd W3.Hs Dl (.lst us) a = some u := e
        by_cases z : a = Dl
        · subst z
          rw [upd_same] at e'
          cases e'
          exact hl
        · rw [upd_ne z] at e'
          exact h3.ex a u e'
      · show upd W3.Hs Dl (.lst us) a = none
        rw [upd_ne (fun z => hDf3 (by rw [← z]; exact List.mem_flatten.mpr ⟨fp, List.mem_of_getElem? e2, ha⟩))]
        exact h3.live k c fp e1 hc e2 a ha
      · unfold Rep
        exact ⟨Dl, us, rfl, upd_same, Reps.mono (fun _ _ x => x) exs hr⟩
  · rw [e1] at qx
    exact qx W1 dx c d μ1 rfl s1 h1 r1
end
end DL
end
section
set_option maxRecDepth 100000
set_option maxHeartbeats 1000000
/-! DOps: operators, subscripts, calls of built-ins on data. -/
namespace DL
open PySem PySem.Spec PyProof.Rows L2
section
variable {K : PySem.W.Frag} {XC : Nat → Addr} {Wx : WX}
theorem rep_of_c {fp : Nat → Option Addr} {Hs : Hp} {d : D} {v : V} (h : isC d = true) (e : cV d = v) : Rep K fp Hs d v := by
  rw [← e]
  exact rep_c h
/-! ### ints -/
def fI (c : Int → Int → Bool) (g : Int → Int → D) (x y : D) (μ : Mu) : Res D := match x, y with
  | .int i, .int j => if c i j = true then .ok (g i j) μ else .no
  | _, _ => .no
def cT (_ _ : Int) : Bool := true
theorem fI_ok {c : Int → Int → Bool} {g : Int → Int → D} {x y : D} {μ : Mu} (h : ∃ d μ', fI c g x y μ = .ok d μ') : ∃ i j, x = .int i ∧ y = .int j ∧ c i j = true ∧ fI c g x y μ = .ok (g i j) μ := by
  obtain ⟨d, μ', h⟩ := h
  unfold fI at h
  split at h
  · rename_i i j
    by_cases hc : c i j = true
    · exact ⟨i, j, rfl, rfl, hc, by unfold fI; dsimp only; rw [if_pos hc]⟩
    · rw [if_neg hc] at h
      cases h
  · cases h
theorem sim_rI {C : Int → Int → Prop} {g : Int → Int → V} {c : Int → Int → Bool} {g' : Int → Int → D} (hc : ∀ i j, c i j = true → C i j) (hg : ∀ i j, isC (g' i j) = true ∧ cV (g' i j) = g i j) : SimR2 K (rI C g) (fI c g') := by
  intro W μ x y v u Q h rx ry q hx
  obtain ⟨i, j, rfl, rfl, hcc, e⟩ := fI_ok hx
  rw [rep_int_inv rx, rep_int_inv ry]
  exact ⟨i, j, rfl, rfl, hc i j hcc, q W _ _ μ e (Step.refl W) h (rep_of_c (hg i j).1 (hg i j).2)⟩
theorem sim_rI0 {g : Int → Int → V} {g' : Int → Int → D} (hg : ∀ i j, isC (g' i j) = true ∧ cV (g' i j) = g i j) : SimR2 K (rI0 g) (fI cT g') := by
  intro W μ x y v u Q h rx ry q hx
  obtain ⟨i, j, rfl, rfl, hcc, e⟩ := fI_ok hx
  rw [rep_int_inv rx, rep_int_inv ry]
  exact ⟨i, j, rfl, rfl, q W _ _ μ e (Step.refl W) h (rep_of_c (hg i j).1 (hg i j).2)⟩
theorem SimR2.or {r r' : R2} {f g : D → D → Mu → Res D} (h : SimR2 K r f) (h' : SimR2 K r' g) (sel : D → D → Mu → Bool) : SimR2 K (fun x y H Q => r x y H Q ∨ r' x y H Q) (fun x y μ => if sel x y μ = true then f x y μ else g x y μ) := by
  intro W μ x y v u Q hs rx ry q hx
  by_cases hc : sel x y μ = true
  · simp only [if_pos hc] at q hx
    exact .inl (h W μ x y v u Q hs rx ry q hx)
  · simp only [if_neg hc] at q hx
    exact .inr (h' W μ x y v u Q hs rx ry q hx)
abbrev fSub := fI cT fun i j => .int (i - j)
abbrev fAddI := fI cT fun i j => .int (i + j)
def cMul (i j : Int) : Bool := decide (-(2 ^ 64) < i ∧ i < 2 ^ 64) || decide (-(2 ^ 64) < j ∧ j < 2 ^ 64)
def cMulW (i j : Int) : Bool := decide (i.natAbs.log2 + j.natAbs.log2 < 1000000)
def cDivW (_ j : Int) : Bool := decide (0 < j) && decide (j.natAbs.log2 < 9000)
def cPos (_ j : Int) : Bool := decide (0 < j)
def cPow (i j : Int) : Bool := decide (0 ≤ j) && decide (j ≤ 1000000) && decide (i.natAbs < 2 ^ 64)
abbrev fMulI := fI (fun i j => cMul i j || cMulW i j) fun i j => .int (i * j)
abbrev fDiv := fI cDivW fun i j => .int (i / j)
abbrev fMod := fI cPos fun i j => .int (i % j)
abbrev fPow := fI cPow fun i j => .int (i ^ j.toNat)
theorem sim_sub : SimR2 K (rI0 fun i j => .int (i - j)) fSub := sim_rI0 fun _ _ => ⟨rfl, rfl⟩
theorem sim_addI : SimR2 K (rI0 fun i j => .int (i + j)) fAddI := sim_rI0 fun _ _ => ⟨rfl, rfl⟩
theorem sim_div : SimR2 K (rI CDivW fun i j => .int (i / j)) fDiv := sim_rI (fun i j h => by
  unfold cDivW at h
  rw [Bool.and_eq_true] at h
  exact ⟨of_decide_eq_true h.1, of_decide_eq_true h.2⟩) fun _ _ => ⟨rfl, rfl⟩
theorem sim_mod : SimR2 K (rI (fun _ j => 0 < j) fun i j => .int (i % j)) fMod := sim_rI (fun i j h => of_decide_eq_true h) fun _ _ => ⟨rfl, rfl⟩
theorem sim_pow : SimR2 K (rI CPow fun i j => .int (i ^ j.toNat)) fPow := sim_rI (fun i j h => by
  unfold cPow at h
  simp only [Bool.and_eq_true, decide_eq_true_eq] at h
  exact ⟨h.1.1, h.1.2, h.2⟩) fun _ _ => ⟨rfl, rfl⟩
/-- * of ints: one factor small, or both not too great -/
def rMulA : R2 := fun x y H Q => rI CMul (fun i j => .int (i * j)) x y H Q ∨ rI CMulW (fun i j => .int (i * j)) x y H Q
theorem op_mulA {X : Cx} : OpR X (binaryOp .Mult) rMulA := op_mul.or op_mulW
theorem sim_mulI : SimR2 K rMulA fMulI := by
  intro W μ x y v u Q h rx ry q hx
  obtain ⟨i, j, rfl, rfl, hcc, e⟩ := fI_ok hx
  rw [rep_int_inv rx, rep_int_inv ry]
  have fin := q W (.int (i * j)) (.int (i * j)) μ e (Step.refl W) h rep_int
  rw [Bool.or_eq_true] at hcc
  rcases hcc with hcc | hcc
  · refine .inl ⟨i, j, rfl, rfl, ?_, fin⟩
    unfold cMul at hcc
    simpa [CMul] using hcc
  · unfold cMulW at hcc
    exact .inr ⟨i, j, rfl, rfl, show i.natAbs.log2 + j.natAbs.log2 < 1000000 from of_decide_eq_true hcc, fin⟩
abbrev fLt := fI cT fun i j => .bl (decide (i < j))
abbrev fLe := fI cT fun i j => .bl (decide (i ≤ j))
abbrev fGt := fI cT fun i j => .bl (decide (j < i))
abbrev fGe := fI cT fun i j => .bl (decide (j ≤ i))
theorem sim_lt : SimR2 K (rI0 fun i j => .bl (decide (i < j))) fLt := sim_rI0 fun _ _ => ⟨rfl, rfl⟩
theorem sim_le : SimR2 K (rI0 fun i j => .bl (decide (i ≤ j))) fLe := sim_rI0 fun _ _ => ⟨rfl, rfl⟩
theorem sim_gt : SimR2 K (rI0 fun i j => .bl (decide (j < i))) fGt := sim_rI0 fun _ _ => ⟨rfl, rfl⟩
theorem sim_ge : SimR2 K (rI0 fun i j => .bl (decide (j ≤ i))) fGe := sim_rI0 fun _ _ => ⟨rfl, rfl⟩
def fNeg (x : D) (μ : Mu) : Res D := match x with
  | .int i => .ok (.int (-i)) μ
  | _ => .no
theorem sim_neg : SimR1 K (rU fun i => .int (-i)) fNeg := by
  intro W μ x v Q h rx q hx
  unfold fNeg at q hx
  split at hx
  · rename_i i
    rw [rep_int_inv rx]
    exact ⟨i, rfl, q W _ _ μ rfl (Step.refl W) h rep_int⟩
  · obtain ⟨_, _, e⟩ := hx
    cases e

/-! ### lists and tuples, standing still or not -/
def seqM (μ : Mu) : D → Option (List D)
  | .tup ds => some ds
  | .lst ds => some ds
  | .cel k => match μ[k]? with
    | some (.lst ds) => some ds
    | _ => none
  | _ => none
/-- a tuple -/
def isTup : D → Bool
  | .tup _ => true
  | _ => false
theorem fps_of {W : Wd} {μ : Mu} {k : Nat} {c : Cell} (h : StOk K W μ) (e : μ[k]? = some c) : ∃ fp, W.fps[k]? = some fp ∧ CellOk K W fp c := by
  have hk : k < μ.length := (List.getElem?_eq_some_iff.mp e).1
  have hk' : k < W.fps.length := by rw [h.len]; exact hk
  exact ⟨W.fps[k], List.getElem?_eq_getElem hk', h.cell k c _ e (List.getElem?_eq_getElem hk')⟩
theorem seqM_rep {W : Wd} {μ : Mu} {d : D} {ds : List D} {v : V} (h : StOk K W μ) (e : seqM μ d = some ds) (r : Rep K W.fp W.Hs d v) : ∃ a vs, v = .ref a ∧ Reps K W.fp W.Hs ds vs ∧ (if isTup d = true then SqT K W.H a vs else W.H a = some (.lst vs)) := by
  cases d with
  | tup xs =>
    cases e
    obtain ⟨a, vs, rfl, ht, r⟩ := rep_tup_inv r
    exact ⟨a, vs, rfl, r, h.ex.sqT ht⟩
  | lst xs =>
    cases e
    obtain ⟨a, vs, rfl, ht, r⟩ := rep_lst_inv r
    exact ⟨a, vs, rfl, r, h.ex a _ ht⟩
  | cel k =>
    unfold seqM at e
    dsimp only at e
    cases q : μ[k]? with
    | none => rw [q] at e; cases e
    | some c =>
      rw [q] at e
      cases c with
      | lst xs =>
        cases e
        obtain ⟨fp, f1, a, vs, rfl, f2, f3⟩ := fps_of h q
        obtain ⟨b, rfl, hb⟩ := rep_cel_inv r
        have hb' : W.fps[k]?.bind List.head? = some b := hb
        rw [f1] at hb'
        cases hb'
        exact ⟨a, vs, rfl, f3, f2⟩
      | _ => cases e
  | _ => cases e
theorem seqM_list {W : Wd} {μ : Mu} {d : D} {ds : List D} {v : V} (h : StOk K W μ) (e : seqM μ d = some ds) (nt : isTup d = false) (r : Rep K W.fp W.Hs d v) : ∃ a vs, v = .ref a ∧ Reps K W.fp W.Hs ds vs ∧ W.H a = some (.lst vs) := by
  obtain ⟨a, vs, e1, e2, e3⟩ := seqM_rep h e r
  rw [nt, if_neg (by decide)] at e3
  exact ⟨a, vs, e1, e2, e3⟩
theorem seqM_tup {W : Wd} {μ : Mu} {d : D} {ds : List D} {v : V} (h : StOk K W μ) (e : seqM μ d = some ds) (nt : isTup d = true) (r : Rep K W.fp W.Hs d v) : ∃ a vs, v = .ref a ∧ Reps K W.fp W.Hs ds vs ∧ SqT K W.H a vs := by
  obtain ⟨a, vs, e1, e2, e3⟩ := seqM_rep h e r
  rw [nt, if_pos rfl] at e3
  exact ⟨a, vs, e1, e2, e3⟩
theorem seqM_any {W : Wd} {μ : Mu} {d : D} {ds : List D} {v : V} (h : StOk K W μ) (e : seqM μ d = some ds) (r : Rep K W.fp W.Hs d v) : ∃ a vs, v = .ref a ∧ Reps K W.fp W.Hs ds vs ∧ (SqL K W.H a vs ∨ SqT K W.H a vs) := by
  obtain ⟨a, vs, e1, e2, e3⟩ := seqM_rep h e r
  refine ⟨a, vs, e1, e2, ?_⟩
  split at e3
  · exact .inr e3
  · exact .inl (.inl (.inl e3))
/-- + : ints, texts, lists, tuples -/
def rAddA (K : PySem.W.Frag) : R2 := fun x y H Q => rI0 (fun i j => .int (i + j)) x y H Q ∨ ((∃ i j, x = .str i ∧ y = .str j ∧ i.length + j.length ≤ sizeLine ∧ Q (.str (i ++ j)) H) ∨ (rCat x y H Q ∨ rCatA K x y H Q))
theorem op_addA {X : Cx} : OpR X (binaryOp .Add) (rAddA X.K) := op_add.or (op_add_str.or (op_cat.or op_catA))
def fAdd (x y : D) (μ : Mu) : Res D := match x, y with
  | .int i, .int j => .ok (.int (i + j)) μ
  | .str a, .str b => if a.length + b.length ≤ lim then .ok (.str (a ++ b)) μ else .no
  | .tup xs, .tup ys => if xs.length + ys.length ≤ lim then .ok (.tup (xs ++ ys)) μ else .no
  | x, y => match seqM μ x, seqM μ y with
    | some xs, some ys => if isTup x = false ∧ isTup y = false ∧ xs.length + ys.length ≤ lim then .ok (.lst (xs ++ ys)) μ else .no
    | _, _ => .no
theorem rep_same {fp : Nat → Option Addr} {Hs : Hp} {a : Addr} {vs : List V} {ds : List D} (h : SqT K Hs a vs) (r : Reps K fp Hs ds vs) : Rep K fp Hs (.tup ds) (.ref a) := by
  unfold Rep
  exact ⟨a, vs, rfl, h, r⟩
theorem sim_add : SimR2 K (rAddA K) fAdd := by
  intro W μ x y v u Q h rx ry q hx
  unfold fAdd at q hx
  split at hx
  · rename_i i j
    rw [rep_int_inv rx, rep_int_inv ry]
    exact .inl ⟨i, j, rfl, rfl, q W _ _ μ rfl (Step.refl W) h rep_int⟩
  · rename_i a b
    dsimp only at q
    by_cases hl : a.length + b.length ≤ lim
    · rw [if_pos hl] at q
      rw [rep_str_inv rx, rep_str_inv ry]
      exact .inr (.inl ⟨a, b, rfl, rfl, lim_le hl, q W _ _ μ rfl (Step.refl W) h rep_str⟩)
    · rw [if_neg hl] at hx
      obtain ⟨_, _, e⟩ := hx
      cases e
  · rename_i xs ys
    dsimp only at q
    by_cases hl : xs.length + ys.length ≤ lim
    · rw [if_pos hl] at q
      obtain ⟨a, vs, rfl, ta, ra⟩ := rep_tup_inv rx
      obtain ⟨b, us, rfl, tb, rb⟩ := rep_tup_inv ry
      refine .inr (.inr (.inr ⟨a, b, vs, us, rfl, rfl, h.ex.sqT ta, h.ex.sqT tb, lim_le (by rw [← ra.length, ← rb.length]; exact hl), fun e => ?_, fun _ e => ?_, fun _ _ p hp => ?_⟩))
      · subst e
        have z : xs = [] := List.length_eq_zero_iff.mp ra.length
        subst z
        exact q W _ _ μ rfl (Step.refl W) h (rep_same tb rb)
      · subst e
        have z : ys = [] := List.length_eq_zero_iff.mp rb.length
        subst z
        refine q W _ _ μ rfl (Step.refl W) h ?_
        rw [List.append_nil]
        exact rep_same ta ra
      · obtain ⟨s3, h3, r3⟩ := rep_tup_new h (ra.append rb) hp
        exact q _ _ _ μ rfl s3 h3 r3
    · rw [if_neg hl] at hx
      obtain ⟨_, _, e⟩ := hx
      cases e
  · rename_i n1 n2 n3
    split at hx
    · rename_i xs ys e1 e2
      by_cases hl : isTup x = false ∧ isTup y = false ∧ xs.length + ys.length ≤ lim
      · obtain ⟨a, vs, rfl, ra, ha⟩ := seqM_list h e1 hl.1 rx
        obtain ⟨b, us, rfl, rb, hb⟩ := seqM_list h e2 hl.2.1 ry
        refine .inr (.inr (.inl ⟨a, b, vs, us, rfl, rfl, ha, hb, lim_le (by rw [← ra.length, ← rb.length]; exact hl.2.2), fun p hp => ?_⟩))
        obtain ⟨s3, h3, r3⟩ := rep_lst_new h (ra.append rb) hp
        refine q _ _ (.lst (xs ++ ys)) μ ?_ s3 h3 r3
        split
        · exact absurd rfl (n1 _ _ rfl)
        · exact absurd rfl (n2 _ _ rfl)
        · exact absurd rfl (n3 _ _ rfl)
        · rw [e1, e2]
          dsimp only
          rw [if_pos hl]
      · rw [if_neg hl] at hx
        obtain ⟨_, _, e⟩ := hx
        cases e
    · obtain ⟨_, _, e⟩ := hx
      cases e
/-- x[i] -/
def fIx (x y : D) (μ : Mu) : Res D := match y with
  | .int i => (match x with
    | .str z => if z.length ≤ lim then (match atI z.cps.toList i with
      | some c => .ok (.str ⟨#[c]⟩) μ
      | none => .no) else .no
    | x => (match seqM μ x with
      | some ds => (match atI ds i with
        | some d => .ok d μ
        | none => .no)
      | none => .no))
  | _ => .no
theorem atI_reps {fp : Nat → Option Addr} {Hs : Hp} {ds : List D} {vs : List V} {i : Int} {d : D} (r : Reps K fp Hs ds vs) (h : atI ds i = some d) : ∃ v, atI vs i = some v ∧ Rep K fp Hs d v := by
  unfold atI at h ⊢
  rw [← r.length]
  cases e : ixN ds.length i with
  | none => rw [e] at h; cases h
  | some j =>
    rw [e] at h
    exact r.get h
theorem sim_ix : SimR2 K (rIx K) fIx := by
  intro W μ x y v u Q h rx ry q hx
  unfold fIx at q hx
  split at hx
  · rename_i i
    rw [rep_int_inv ry]
    dsimp only at q
    split at hx
    · rename_i z
      dsimp only at q
      rw [rep_str_inv rx]
      by_cases hl : z.length ≤ lim
      · rw [if_pos hl] at hx
        simp only [if_pos hl] at q
        cases e : atI z.cps.toList i with
        | none => rw [e] at hx; obtain ⟨_, _, z⟩ := hx; cases z
        | some c =>
          rw [e] at q
          exact .inr (.inr ⟨z, i, c, rfl, rfl, lim_le hl, e, q W _ _ μ rfl (Step.refl W) h rep_str⟩)
      · rw [if_neg hl] at hx
        obtain ⟨_, _, z⟩ := hx
        cases z
    · rename_i nz
      split at hx
      · rename_i ds e1
        cases e : atI ds i with
        | none => rw [e] at hx; obtain ⟨_, _, z⟩ := hx; cases z
        | some d =>
          obtain ⟨a, vs, rfl, ra, ha⟩ := seqM_any h e1 rx
          obtain ⟨w', hw, rw'⟩ := atI_reps ra e
          have fin := q W w' d μ (by
            split
            · exact absurd rfl (nz _)
            · rw [e1]
              dsimp only
              rw [e]) (Step.refl W) h rw'
          rcases ha with ha | ha
          · exact .inl ⟨a, vs, i, w', rfl, rfl, ha, hw, fin⟩
          · exact .inr (.inl ⟨a, vs, i, w', rfl, rfl, ha, hw, fin⟩)
      · obtain ⟨_, _, z⟩ := hx
        cases z
  · obtain ⟨_, _, z⟩ := hx
    cases z
end
end DL
end
section
set_option maxRecDepth 100000
set_option maxHeartbeats 1000000
/-! DOps2: equality, slices, calls of built-ins, methods of lists, stores. -/
namespace DL
open PySem PySem.Spec PyProof.Rows L2
section
variable {K : PySem.W.Frag} {XC : Nat → Addr} {Wx : WX}
theorem no_ok {α : Type} {P : Prop} {r : Res α} (h : ∃ d μ', (Res.no : Res α) = .ok d μ') : P := by
  obtain ⟨_, _, e⟩ := h
  cases e
/-! ### equality -/
mutual
def toPy : D → Option PyData
  | .non => some .none
  | .bl b => some (.bool b)
  | .int i => some (.int i)
  | .str s => some (.str s)
  | .tup ds => (toPys ds).map .tuple
  | .lst ds => (toPys ds).map .list
  | _ => none
def toPys : List D → Option (List PyData)
  | [] => some []
  | d :: ds => (toPy d).bind fun x => (toPys ds).map (x :: ·)
end
mutual
theorem toPy_rep {W : Wd} (ex : Ex W.Hs W.H) : ∀ {d : D} {p : PyData} {v : V}, toPy d = some p → Rep K W.fp W.Hs d v → Dp K W.H v p
  | .non, p, v, e, r => by
    cases e
    rw [rep_non_inv r]
    exact .non
  | .bl b, p, v, e, r => by
    cases e
    rw [rep_bl_inv r]
    exact .bl b
  | .int i, p, v, e, r => by
    cases e
    rw [rep_int_inv r]
    exact .int i
  | .str s, p, v, e, r => by
    cases e
    rw [rep_str_inv r]
    exact .str s
  | .tup ds, p, v, e, r => by
    unfold toPy at e
    cases q : toPys ds with
    | none => rw [q] at e; cases e
    | some ps =>
      rw [q] at e
      cases e
      obtain ⟨a, vs, rfl, ht, ra⟩ := rep_tup_inv r
      exact .tup (ex.sqT ht) (toPys_rep ex q ra)
  | .lst ds, p, v, e, r => by
    unfold toPy at e
    cases q : toPys ds with
    | none => rw [q] at e; cases e
    | some ps =>
      rw [q] at e
      cases e
      obtain ⟨a, vs, rfl, ht, ra⟩ := rep_lst_inv r
      exact .lst (.inl (.inl (ex a _ ht))) (toPys_rep ex q ra)
  | .frz _, p, v, e, r => by cases e
  | .cel _, p, v, e, r => by cases e
theorem toPys_rep {W : Wd} (ex : Ex W.Hs W.H) : ∀ {ds : List D} {ps : List PyData} {vs : List V}, toPys ds = some ps → Reps K W.fp W.Hs ds vs → DpAll K W.H vs ps
  | [], ps, vs, e, r => by
    cases e
    rw [r.nil_inv]
    exact .nil
  | d :: ds, ps, vs, e, r => by
    unfold toPys at e
    cases q : toPy d with
    | none => rw [q] at e; cases e
    | some p =>
      rw [q] at e
      cases q2 : toPys ds with
      | none => rw [q2] at e; cases e
      | some ps' =>
        rw [q2] at e
        cases e
        obtain ⟨v, r', rfl, r1, r2⟩ := r.cons_inv
        exact .cons (toPy_rep ex q r1) (toPys_rep ex q2 r2)
end
def toPyM (μ : Mu) : D → Option PyData
  | .cel k => match μ[k]? with
    | some (.lst ds) => (toPys ds).map .list
    | _ => none
  | d => toPy d
theorem toPyM_rep {W : Wd} {μ : Mu} {d : D} {p : PyData} {v : V} (h : StOk K W μ) (e : toPyM μ d = some p) (r : Rep K W.fp W.Hs d v) : Dp K W.H v p := by
  unfold toPyM at e
  split at e
  · rename_i k
    split at e
    · rename_i ds q
      cases q2 : toPys ds with
      | none => rw [q2] at e; cases e
      | some ps =>
        rw [q2] at e
        cases e
        obtain ⟨a, vs, rfl, ra, ha⟩ := seqM_list (d := .cel k) (ds := ds) h (by unfold seqM; dsimp only; rw [q]) rfl r
        exact .lst (.inl (.inl ha)) (toPys_rep h.ex q2 ra)
    · cases e
  · exact toPy_rep h.ex e r
/-- == as Python tells it -/
def eqM (μ : Mu) (x y : D) : Option Bool := match toPyM μ x, toPyM μ y with
  | some d, some e => if (SeqAt.shaped d && SeqAt.shaped e) = true then some (PyData.eqv d e) else none
  | _, _ => none
def fEq (x y : D) (μ : Mu) : Res D := match eqM μ x y with
  | some b => .ok (.bl b) μ
  | none => .no
def fNe (x y : D) (μ : Mu) : Res D := match eqM μ x y with
  | some b => .ok (.bl (!b)) μ
  | none => .no
theorem eqM_some {W : Wd} {μ : Mu} {x y : D} {v u : V} {b : Bool} (h : StOk K W μ) (e : eqM μ x y = some b) (rx : Rep K W.fp W.Hs x v) (ry : Rep K W.fp W.Hs y u) :
    ∃ d e, Dp K W.H v d ∧ Dp K W.H u e ∧ SeqAt.shaped d = true ∧ SeqAt.shaped e = true ∧ PyData.eqv d e = b := by
  unfold eqM at e
  split at e
  · rename_i d e' h1 h2
    by_cases hs : (SeqAt.shaped d && SeqAt.shaped e') = true
    · rw [if_pos hs] at e
      cases e
      rw [Bool.and_eq_true] at hs
      exact ⟨d, e', toPyM_rep h h1 rx, toPyM_rep h h2 ry, hs.1, hs.2, rfl⟩
    · rw [if_neg hs] at e
      cases e
  · cases e
theorem sim_eq : SimR2 K (rEqD K) fEq := by
  intro W μ x y v u Q h rx ry q hx
  unfold fEq at q hx
  cases e : eqM μ x y with
  | none => rw [e] at hx; exact no_ok (r := .no) hx
  | some b =>
    rw [e] at q
    obtain ⟨d, e', h1, h2, h3, h4, h5⟩ := eqM_some h e rx ry
    refine ⟨d, e', h1, h2, h3, h4, ?_⟩
    rw [h5]
    exact q W _ _ μ rfl (Step.refl W) h rep_bl
theorem sim_ne : SimR2 K (rNeD K) fNe := by
  intro W μ x y v u Q h rx ry q hx
  unfold fNe at q hx
  cases e : eqM μ x y with
  | none => rw [e] at hx; exact no_ok (r := .no) hx
  | some b =>
    rw [e] at q
    obtain ⟨d, e', h1, h2, h3, h4, h5⟩ := eqM_some h e rx ry
    refine ⟨d, e', h1, h2, h3, h4, ?_⟩
    rw [h5]
    exact q W _ _ μ rfl (Step.refl W) h rep_bl
def isNon : D → Bool
  | .non => true
  | _ => false
theorem isNon_rep {fp : Nat → Option Addr} {Hs : Hp} {d : D} {v : V} (r : Rep K fp Hs d v) : decide (v = .non) = isNon d := by
  cases d with
  | non => rw [rep_non_inv r]; rfl
  | bl b => rw [rep_bl_inv r]; rfl
  | int b => rw [rep_int_inv r]; rfl
  | str b => rw [rep_str_inv r]; rfl
  | tup ds =>
    obtain ⟨a, vs, rfl, _⟩ := rep_tup_inv r
    rfl
  | lst ds =>
    obtain ⟨a, vs, rfl, _⟩ := rep_lst_inv r
    rfl
  | frz ds =>
    obtain ⟨a, vs, rfl, _⟩ := rep_frz_inv r
    rfl
  | cel k =>
    obtain ⟨a, rfl, _⟩ := rep_cel_inv r
    rfl
def fIsN (x y : D) (μ : Mu) : Res D := match y with
  | .non => .ok (.bl (isNon x)) μ
  | _ => .no
def fNotN (x y : D) (μ : Mu) : Res D := match y with
  | .non => .ok (.bl (!isNon x)) μ
  | _ => .no
theorem sim_isN : SimR2 K (fun x y H Q => y = .non ∧ Q (.bl (decide (x = .non))) H) fIsN := by
  intro W μ x y v u Q h rx ry q hx
  unfold fIsN at q hx
  split at hx
  · rw [rep_non_inv ry, isNon_rep rx]
    exact ⟨rfl, q W _ _ μ rfl (Step.refl W) h rep_bl⟩
  · exact no_ok (r := .no) hx
theorem sim_notN : SimR2 K (fun x y H Q => y = .non ∧ Q (.bl (!decide (x = .non))) H) fNotN := by
  intro W μ x y v u Q h rx ry q hx
  unfold fNotN at q hx
  split at hx
  · rw [rep_non_inv ry, isNon_rep rx]
    exact ⟨rfl, q W _ _ μ rfl (Step.refl W) h rep_bl⟩
  · exact no_ok (r := .no) hx
def fIsB (x y : D) (μ : Mu) : Res D := match x, y with
  | .bl a, .bl b => .ok (.bl (decide (a = b))) μ
  | _, _ => .no
def fNotB (x y : D) (μ : Mu) : Res D := match x, y with
  | .bl a, .bl b => .ok (.bl (!decide (a = b))) μ
  | _, _ => .no
theorem sim_isB : SimR2 K rIsB fIsB := by
  intro W μ x y v u Q h rx ry q hx
  unfold fIsB at q hx
  split at hx
  · rename_i a b
    exact ⟨a, b, rep_bl_inv rx, rep_bl_inv ry, q W _ _ μ rfl (Step.refl W) h rep_bl⟩
  · exact no_ok (r := .no) hx
theorem sim_notB : SimR2 K rNotB fNotB := by
  intro W μ x y v u Q h rx ry q hx
  unfold fNotB at q hx
  split at hx
  · rename_i a b
    exact ⟨a, b, rep_bl_inv rx, rep_bl_inv ry, q W _ _ μ rfl (Step.refl W) h rep_bl⟩
  · exact no_ok (r := .no) hx

/-! ### in, over flat things -/
def flatD : D → Bool
  | .non => true
  | .bl _ => true
  | .int _ => true
  | .str _ => true
  | _ => false
def eqF : D → D → Bool
  | .non, .non => true
  | .bl a, .bl b => a == b
  | .bl a, .int b => (if a then 1 else 0) == b
  | .int a, .bl b => a == (if b then 1 else 0)
  | .int a, .int b => a == b
  | .str a, .str b => a == b
  | _, _ => false
theorem flat_rep {fp : Nat → Option Addr} {Hs : Hp} {d : D} {v : V} (h : flatD d = true) (r : Rep K fp Hs d v) : v = cV d ∧ flatV v = true := by
  cases d with
  | non => rw [rep_non_inv r]; exact ⟨rfl, rfl⟩
  | bl b => rw [rep_bl_inv r]; exact ⟨rfl, rfl⟩
  | int b => rw [rep_int_inv r]; exact ⟨rfl, rfl⟩
  | str b => rw [rep_str_inv r]; exact ⟨rfl, rfl⟩
  | _ => cases h
theorem eqF_V {x y : D} (hx : flatD x = true) (hy : flatD y = true) : eqV (cV x) (cV y) = eqF x y := by
  cases x <;> first | (exact Bool.noConfusion hx) | (cases y <;> first | rfl | exact Bool.noConfusion hy)
theorem flats_rep {fp : Nat → Option Addr} {Hs : Hp} : ∀ {ds : List D} {vs : List V}, ds.all flatD = true → Reps K fp Hs ds vs → vs = ds.map cV ∧ vs.all flatV = true
  | [], vs, h, r => by
    rw [r.nil_inv]
    exact ⟨rfl, rfl⟩
  | d :: ds, vs, h, r => by
    rw [List.all_cons, Bool.and_eq_true] at h
    obtain ⟨v, r', rfl, r1, r2⟩ := r.cons_inv
    obtain ⟨e1, f1⟩ := flat_rep h.1 r1
    obtain ⟨e2, f2⟩ := flats_rep h.2 r2
    exact ⟨by rw [e1, e2]; rfl, by rw [List.all_cons, f1, f2]; rfl⟩
def inF (x : D) (ds : List D) : Bool := ds.any fun y => eqF y x
theorem inF_V {x : D} (hx : flatD x = true) : ∀ {ds : List D}, ds.all flatD = true → inV (cV x) (ds.map cV) = inF x ds
  | [], _ => rfl
  | d :: ds, h => by
    rw [List.all_cons, Bool.and_eq_true] at h
    show (eqV (cV d) (cV x) || inV (cV x) (ds.map cV)) = (eqF d x || inF x ds)
    rw [eqF_V h.1 hx, inF_V hx h.2]
def fIn (neg : Bool) (x y : D) (μ : Mu) : Res D := match seqM μ y with
  | some ds => if (flatD x && ds.all flatD) = true then .ok (.bl (if neg then !inF x ds else inF x ds)) μ else .no
  | none => .no
theorem sim_in {neg : Bool} : SimR2 K (rIn K neg) (fIn neg) := by
  intro W μ x y v u Q h rx ry q hx
  unfold fIn at q hx
  cases e : seqM μ y with
  | none => rw [e] at hx; exact no_ok (r := .no) hx
  | some ds =>
    rw [e] at q hx
    dsimp only at q hx
    by_cases hf : (flatD x && ds.all flatD) = true
    · rw [if_pos hf] at q
      rw [Bool.and_eq_true] at hf
      obtain ⟨a, vs, rfl, ra, ha⟩ := seqM_any h e ry
      obtain ⟨e1, f1⟩ := flat_rep hf.1 rx
      obtain ⟨e2, f2⟩ := flats_rep hf.2 ra
      refine ⟨a, vs, rfl, ha, f1, f2, ?_⟩
      rw [e1, e2, inF_V hf.1 hf.2]
      exact q W _ _ μ rfl (Step.refl W) h rep_bl
    · rw [if_neg hf] at hx
      exact no_ok (r := .no) hx

/-! ### slices -/
def SimTO (K : PySem.W.Frag) (XC : Nat → Addr) (Wx : WX) (t : TO) (T : En → Mu → Res (Option Int)) : Prop := ∀ (W : Wd) (σ : L2.St) (ρ : En) (μ : Mu) (Q : Option Int → Hp → Prop), StOk K W μ → EnvOk K W ρ σ →
  (∀ W' o μ', T ρ μ = .ok o μ' → Step W W' → StOk K W' μ' → Q o W'.H) →
  (∀ W' dx c d μ', T ρ μ = .exc c d μ' → Step W W' → StOk K W' μ' → ExcAt K W' c d dx → Wx (.ref (XC c)) (some dx) σ W'.H) →
  T ρ μ ≠ .no → t σ W.H Q
def xNoPart : En → Mu → Res (Option Int) := fun _ μ => .ok none μ
def asPart (d : D) (μ : Mu) : Res (Option Int) := match d with
  | .int i => .ok (some i) μ
  | _ => .no
def xPart (T : TEd) : En → Mu → Res (Option Int) := fun ρ μ => (T ρ μ).bind asPart
theorem simo_none : SimTO K XC Wx tNoPart xNoPart := by
  intro W σ ρ μ Q hs he q qx hn
  exact q W none μ rfl (Step.refl W) hs
theorem simo_some {t : TE} {T : TEd} (h : SimE K XC Wx t T) : SimTO K XC Wx (tPart t) (xPart T) := by
  intro W σ ρ μ Q hs he q qx hn
  unfold xPart at q qx hn
  refine h W σ ρ μ _ hs he (fun W1 v x μ1 e1 s1 h1 r1 => ?_) (fun W1 dx c d μ1 e1 s1 h1 r1 => ?_) (fun e => by rw [e] at hn; exact hn rfl)
  · rw [e1, Res.bind_ok] at q hn
    unfold asPart at q hn
    split at hn
    · rename_i i
      exact ⟨i, rep_int_inv r1, q W1 _ μ1 rfl s1 h1⟩
    · exact absurd rfl hn
  · rw [e1] at qx
    exact qx W1 dx c d μ1 rfl s1 h1 r1
/-- slices of tuples, lists, texts -/
def rSlAny (K : PySem.W.Frag) : V → Option Int → Option Int → Hp → VK → Prop := fun x lo hi H Q => rSlA K x lo hi H Q ∨ (rSlL K x lo hi H Q ∨ ∃ z, x = .str z ∧ z.length ≤ sizeLine ∧ Q (.str (cutS z lo hi)) H)
theorem sl_any {X : Cx} : SlR X (rSlAny X.K) := sl_tupA.or (sl_list.or (by
  intro pins s σ H x v vl vu lo hi sl Q I rx hs pl pu h
  exact sl_str pins s σ H x v vl vu lo hi sl Q I rx hs pl pu h))
def cutD (xs : List D) (lo hi : Option Int) : List D := (xs.drop (HT.sIx xs.length 0 lo)).take (HT.sIx xs.length xs.length hi - HT.sIx xs.length 0 lo)
def fSl (x : D) (lo hi : Option Int) (μ : Mu) : Res D := match x with
  | .str z => if z.length ≤ lim then .ok (.str (cutS z lo hi)) μ else .no
  | .frz ds => .ok (.lst (cutD ds lo hi)) μ
  | x => match seqM μ x with
    | some ds => .ok (if isTup x = true then .tup (cutD ds lo hi) else .lst (cutD ds lo hi)) μ
    | none => .no
def xSl (T : TEd) (L U : En → Mu → Res (Option Int)) : TEd := fun ρ μ => (T ρ μ).bind fun x μ1 => (L ρ μ1).bind fun lo μ2 => (U ρ μ2).bind fun hi μ3 => okR (fSl x lo hi μ3)
theorem cut_reps {fp : Nat → Option Addr} {Hs : Hp} {ds : List D} {vs : List V} {lo hi : Option Int} (r : Reps K fp Hs ds vs) : Reps K fp Hs (cutD ds lo hi) (cutV vs lo hi) := by
  unfold cutD cutV
  rw [r.length]
  exact (r.drop _).take _
theorem sim_sl {te : TE} {tl th : TO} {T : TEd} {L U : En → Mu → Res (Option Int)} (h1 : SimE K XC Wx te T) (h2 : SimTO K XC Wx tl L) (h3 : SimTO K XC Wx th U) : SimE K XC Wx (tSl (rSlAny K) te tl th) (xSl T L U) := by
  intro W σ ρ μ Q h he q qx hn
  unfold xSl at q qx hn
  refine h1 W σ ρ μ _ h he (fun W1 v x μ1 e1 s1 k1 r1 => ?_) (fun W1 dx c d μ1 e1 s1 k1 r1 => ?_) (fun e => by rw [e] at hn; exact hn rfl)
  · rw [e1] at q qx hn
    refine h2 W1 σ ρ μ1 _ k1 (he.step s1) (fun W2 lo μ2 e2 s2 k2 => ?_) (fun W2 dx c d μ2 e2 s2 k2 r2 => ?_) (fun e => by rw [Res.bind_ok, e] at hn; exact hn rfl)
    · rw [Res.bind_ok, e2] at q qx hn
      refine h3 W2 σ ρ μ2 _ k2 (he.step (s1.trans s2)) (fun W3 hi μ3 e3 s3 k3 => ?_) (fun W3 dx c d μ3 e3 s3 k3 r3 => ?_) (fun e => by rw [Res.bind_ok, e] at hn; exact hn rfl)
      · rw [Res.bind_ok, e3, Res.bind_ok] at q hn
        have r3 := (s2.trans s3).rep r1
        have s13 := (s1.trans s2).trans s3
        unfold fSl at q hn
        split at hn
        · rename_i z
          dsimp only at q
          by_cases hl : z.length ≤ lim
          · rw [if_pos hl] at q
            rw [rep_str_inv r3]
            exact .inr (.inr ⟨z, rfl, lim_le hl, q W3 _ _ μ3 rfl s13 k3 rep_str⟩)
          · rw [if_neg hl] at hn
            exact absurd rfl hn
        · rename_i ds
          dsimp only at q
          obtain ⟨a, vs, rfl, ha, ra⟩ := rep_frz_inv r3
          refine .inr (.inl ⟨a, vs, rfl, k3.ex.sqL ha, fun p hp => ?_⟩)
          obtain ⟨s4, k4, r4⟩ := rep_lst_new k3 (cut_reps (lo := lo) (hi := hi) ra) hp
          exact q _ _ _ μ3 rfl (s13.trans s4) k4 r4
        · rename_i nz nf
          have q' : ∀ ds, seqM μ3 x = some ds → ∀ W' v, Step W W' → StOk K W' μ3 → Rep K W'.fp W'.Hs (if isTup x = true then .tup (cutD ds lo hi) else .lst (cutD ds lo hi)) v → Q v W'.H := fun ds e W' v s' k' r' => by
            refine q W' v _ μ3 ?_ s' k' r'
            split
            · exact absurd rfl (nz _)
            · exact absurd rfl (nf _)
            · rw [e]
              rfl
          cases e : seqM μ3 x with
          | none => rw [e] at hn; exact absurd rfl hn
          | some ds =>
            have q2 := q' ds e
            obtain ⟨a, vs, rfl, ra, ha⟩ := seqM_rep k3 e r3
            cases ht : isTup x with
            | true =>
              rw [ht, if_pos rfl] at ha
              simp only [ht, if_true] at q2
              refine .inl ⟨a, vs, rfl, ha, fun hw => ?_, fun hw p hp => ?_⟩
              · refine q2 W3 _ s13 k3 ?_
                cases x with
                | tup xs =>
                  cases e
                  have e0 : cutD ds lo hi = ds := by
                    unfold cutD
                    rw [ra.length, hw.1, hw.2, List.drop_zero, Nat.sub_zero, ← ra.length, List.take_length]
                  rw [e0]
                  exact r3
                | _ => cases ht
              · obtain ⟨s4, k4, r4⟩ := rep_tup_new k3 (cut_reps (lo := lo) (hi := hi) ra) hp
                exact q2 _ _ (s13.trans s4) k4 r4
            | false =>
              rw [ht, if_neg (by decide)] at ha
              simp only [ht] at q2
              refine .inr (.inl ⟨a, vs, rfl, .inl (.inl ha), fun p hp => ?_⟩)
              obtain ⟨s4, k4, r4⟩ := rep_lst_new k3 (cut_reps (lo := lo) (hi := hi) ra) hp
              exact q2 _ _ (s13.trans s4) k4 r4
      · rw [Res.bind_ok, e3] at qx
        exact qx W3 dx c d μ3 rfl ((s1.trans s2).trans s3) k3 r3
    · rw [Res.bind_ok, e2] at qx
      exact qx W2 dx c d μ2 rfl (s1.trans s2) k2 r2
  · rw [e1] at qx
    exact qx W1 dx c d μ1 rfl s1 k1 r1

/-! ### calls of built-ins -/
def fLen (xs : List D) (μ : Mu) : Res D := match xs with
  | [.str z] => if z.length ≤ lim then .ok (.int z.length) μ else .no
  | [d] => match seqM μ d with
    | some ds => .ok (.int ds.length) μ
    | none => .no
  | _ => .no
theorem sim_len : SimRC K (fun xs H Q => ∃ x n, xs = [x] ∧ LenV K x H n ∧ Q (.int n) H) fLen := by
  intro W μ xs vs Q h r q hx
  unfold fLen at q hx
  split at hx
  · rename_i z
    dsimp only at q
    by_cases hl : z.length ≤ lim
    · rw [if_pos hl] at q
      obtain ⟨v, r', rfl, r1, r2⟩ := r.cons_inv
      rw [r2.nil_inv, rep_str_inv r1]
      exact ⟨.str z, z.length, rfl, ⟨lim_le hl, rfl⟩, q W _ _ μ rfl (Step.refl W) h rep_int⟩
    · rw [if_neg hl] at hx
      exact no_ok (r := .no) hx
  · rename_i d nz
    cases e : seqM μ d with
    | none => rw [e] at hx; exact no_ok (r := .no) hx
    | some ds =>
      obtain ⟨v, r', rfl, r1, r2⟩ := r.cons_inv
      rw [r2.nil_inv]
      obtain ⟨a, us, rfl, ra, ha⟩ := seqM_any h e r1
      have fin := q W (.int ds.length) (.int ds.length) μ (by
        split
        · rename_i z e0
          exact absurd (List.cons.inj e0).1 (fun z' => nz _ (by rw [z']))
        · rename_i d' _ e0
          cases e0
          rw [e]
        · rename_i _ n0
          exact absurd rfl (n0 _)) (Step.refl W) h rep_int
      rw [ra.length] at fin
      rcases ha with ha | ha
      · exact ⟨.ref a, us.length, rfl, .inl ⟨us, ha, rfl⟩, fin⟩
      · exact ⟨.ref a, us.length, rfl, .inr ⟨us, ha, rfl⟩, fin⟩
  · exact no_ok (r := .no) hx
def fList (xs : List D) (μ : Mu) : Res D := match xs with
  | [d] => match seqM μ d with
    | some ds => .ok (.lst ds) μ
    | none => .no
  | _ => .no
theorem sim_list : SimRC K (fun xs H Q => ∃ p ys, xs = [.ref p] ∧ (SqL K H p ys ∨ SqT K H p ys) ∧ ∀ l, H l = none → Q (.ref l) (upd H l (.lst ys))) fList := by
  intro W μ xs vs Q h r q hx
  unfold fList at q hx
  split at hx
  · rename_i d
    dsimp only at q
    cases e : seqM μ d with
    | none => rw [e] at hx; exact no_ok (r := .no) hx
    | some ds =>
      rw [e] at q
      obtain ⟨v, r', rfl, r1, r2⟩ := r.cons_inv
      rw [r2.nil_inv]
      obtain ⟨a, us, rfl, ra, ha⟩ := seqM_any h e r1
      refine ⟨a, us, rfl, ha, fun l hl => ?_⟩
      obtain ⟨s4, k4, r4⟩ := rep_lst_new h ra hl
      exact q _ _ _ μ rfl s4 k4 r4
  · exact no_ok (r := .no) hx
def fTuple (xs : List D) (μ : Mu) : Res D := match xs with
  | [d] => match seqM μ d with
    | some ds => .ok (.tup ds) μ
    | none => .no
  | _ => .no
theorem sim_tuple : SimRC K (fun xs H Q => ∃ p ys, xs = [.ref p] ∧ ((SqL K H p ys ∧ ∀ l, H l = none → Q (.ref l) (upd H l (.tup ys))) ∨ (SqT K H p ys ∧ Q (.ref p) H))) fTuple := by
  intro W μ xs vs Q h r q hx
  unfold fTuple at q hx
  split at hx
  · rename_i d
    dsimp only at q
    cases e : seqM μ d with
    | none => rw [e] at hx; exact no_ok (r := .no) hx
    | some ds =>
      rw [e] at q
      obtain ⟨v, r', rfl, r1, r2⟩ := r.cons_inv
      rw [r2.nil_inv]
      cases ht : isTup d with
      | true =>
        obtain ⟨a, us, rfl, ra, ha⟩ := seqM_tup h e ht r1
        refine ⟨a, us, rfl, .inr ⟨ha, q W _ _ μ rfl (Step.refl W) h ?_⟩⟩
        cases d with
        | tup xs =>
          cases e
          exact r1
        | _ => cases ht
      | false =>
        obtain ⟨a, us, rfl, ra, ha⟩ := seqM_list h e ht r1
        refine ⟨a, us, rfl, .inl ⟨.inl (.inl ha), fun l hl => ?_⟩⟩
        obtain ⟨s4, k4, r4⟩ := rep_tup_new h ra hl
        exact q _ _ _ μ rfl s4 k4 r4
  · exact no_ok (r := .no) hx
/-- the nums of a list -/
def intsD : List D → Option (List Int)
  | [] => some []
  | .int i :: r => (intsD r).map (i :: ·)
  | _ => none
abbrev nums (ns : List Int) : List D := ns.map D.int
@[simp] theorem intsD_ints : ∀ ns : List Int, intsD (nums ns) = some ns
  | [] => rfl
  | n :: r => by
    show (intsD (nums r)).map (n :: ·) = _
    rw [intsD_ints r]
    rfl
theorem intsD_inv : ∀ {ds : List D} {ns : List Int}, intsD ds = some ns → ds = nums ns
  | [], ns, h => by
    cases h
    rfl
  | d :: r, ns, h => by
    unfold intsD at h
    split at h
    · rename_i e
      cases e
    · rename_i i r' e
      cases e
      cases q : intsD r with
      | none => rw [q] at h; cases h
      | some m =>
        rw [q] at h
        cases h
        rw [intsD_inv q]
        rfl
    · cases h
theorem ints_reps {fp : Nat → Option Addr} {Hs : Hp} : ∀ {ns : List Int} {vs : List V}, Reps K fp Hs (nums ns) vs → vs = ns.map V.int
  | [], vs, r => r.nil_inv
  | n :: ns, vs, r => by
    obtain ⟨v, r', rfl, r1, r2⟩ := Reps.cons_inv (d := .int n) (ds := nums ns) r
    rw [rep_int_inv r1, ints_reps r2]
    rfl
theorem reps_ints {fp : Nat → Option Addr} {Hs : Hp} : ∀ ns : List Int, Reps K fp Hs (nums ns) (ns.map V.int)
  | [] => Reps.nil
  | n :: ns => Reps.cons rep_int (reps_ints ns)
/-- sorted -/
def isort : List Int → List Int
  | [] => []
  | x :: r => ins x (isort r)
where ins (x : Int) : List Int → List Int
  | [] => [x]
  | y :: r => if x ≤ y then x :: y :: r else y :: ins x r
theorem ins_perm (x : Int) : ∀ l : List Int, (isort.ins x l).Perm (x :: l)
  | [] => List.Perm.refl _
  | y :: r => by
    unfold isort.ins
    split
    · exact List.Perm.refl _
    · exact ((ins_perm x r).cons y).trans (List.Perm.swap x y r)
theorem isort_perm : ∀ l : List Int, (isort l).Perm l
  | [] => List.Perm.refl _
  | x :: r => (ins_perm x _).trans ((isort_perm r).cons x)
theorem ins_sorted (x : Int) : ∀ {l : List Int}, l.Pairwise (· ≤ ·) → (isort.ins x l).Pairwise (· ≤ ·)
  | [], _ => by
    unfold isort.ins
    simp
  | y :: r, h => by
    unfold isort.ins
    rw [List.pairwise_cons] at h
    split
    · rename_i hxy
      refine List.pairwise_cons.mpr ⟨fun z hz => ?_, List.pairwise_cons.mpr h⟩
      rcases List.mem_cons.mp hz with e | hz
      · rw [e]
        exact hxy
      · exact Int.le_trans hxy (h.1 z hz)
    · rename_i hxy
      refine List.pairwise_cons.mpr ⟨fun z hz => ?_, ins_sorted x h.2⟩
      rcases List.mem_cons.mp ((ins_perm x r).mem_iff.mp hz) with e | hz
      · rw [e]
        omega
      · exact h.1 z hz
theorem isort_sorted : ∀ l : List Int, (isort l).Pairwise (· ≤ ·)
  | [] => List.Pairwise.nil
  | x :: r => ins_sorted x (isort_sorted r)
theorem sorted_one : ∀ {a b : List Int}, a.Perm b → a.Pairwise (· ≤ ·) → b.Pairwise (· ≤ ·) → a = b
  | [], b, p, _, _ => (List.nil_perm.mp p).symm
  | x :: a, b, p, ha, hb => by
    cases b with
    | nil => exact absurd p.symm (by simp)
    | cons y b =>
      rw [List.pairwise_cons] at ha hb
      have e : x = y := by
        have h1 : x ∈ y :: b := p.mem_iff.mp (by simp)
        have h2 : y ∈ x :: a := p.mem_iff.mpr (by simp)
        rcases List.mem_cons.mp h1 with z | z
        · exact z
        · rcases List.mem_cons.mp h2 with w | w
          · exact w.symm
          · have q1 := hb.1 x z
            have q2 := ha.1 y w
            omega
      subst e
      rw [sorted_one (List.Perm.cons_inv p) ha.2 hb.2]
def fSorted (xs : List D) (μ : Mu) : Res D := match xs with
  | [d] => if isTup d = true then .no else match seqM μ d with
    | some ds => (match intsD ds with
      | some ns => .ok (.lst (nums (isort ns))) μ
      | none => .no)
    | none => .no
  | _ => .no
theorem sim_sorted : SimRC K (rSortedI K) fSorted := by
  intro W μ xs vs Q h r q hx
  unfold fSorted at q hx
  split at hx
  · rename_i d
    dsimp only at q
    cases ht : isTup d with
    | true => rw [ht, if_pos rfl] at hx; exact no_ok (r := .no) hx
    | false =>
      rw [ht, if_neg (by decide)] at hx
      simp only [ht] at q
      cases e : seqM μ d with
      | none => rw [e] at hx; exact no_ok (r := .no) hx
      | some ds =>
        rw [e] at hx
        simp only [e] at q
        dsimp only at hx
        cases e2 : intsD ds with
        | none => rw [e2] at hx; exact no_ok (r := .no) hx
        | some ns =>
          simp only [e2] at q
          obtain ⟨v, r', rfl, r1, r2⟩ := r.cons_inv
          rw [r2.nil_inv]
          obtain ⟨a, us, rfl, ra, ha⟩ := seqM_list h e ht r1
          have ed := intsD_inv e2
          subst ed
          have eu := ints_reps ra
          subst eu
          refine ⟨a, ns, rfl, .inl (.inl ha), fun ns' p hp hs hn => ?_⟩
          have en : ns' = isort ns := sorted_one (hp.trans (isort_perm ns).symm) hs (isort_sorted ns)
          subst en
          obtain ⟨s4, k4, r4⟩ := rep_lst_new h (reps_ints (isort ns)) hn
          exact q _ _ _ μ rfl s4 k4 r4
  · exact no_ok (r := .no) hx
def fSum (xs : List D) (μ : Mu) : Res D := match xs with
  | [d] => if isTup d = true then .no else match seqM μ d with
    | some ds => (match intsD ds with
      | some ns => .ok (.int ns.sum) μ
      | none => .no)
    | none => .no
  | _ => .no
theorem one_ints {W : Wd} {μ : Mu} {xs : List D} {vs : List V} (h : StOk K W μ) (r : Reps K W.fp W.Hs xs vs) {d : D} {ds : List D} {ns : List Int} (ex : xs = [d]) (ht : isTup d = false) (e : seqM μ d = some ds) (e2 : intsD ds = some ns) :
    ∃ a, vs = [.ref a] ∧ SqL K W.H a (ns.map V.int) := by
  subst ex
  obtain ⟨v, r', rfl, r1, r2⟩ := r.cons_inv
  rw [r2.nil_inv]
  obtain ⟨a, us, rfl, ra, ha⟩ := seqM_list h e ht r1
  have ed := intsD_inv e2
  subst ed
  have eu := ints_reps ra
  subst eu
  exact ⟨a, rfl, .inl (.inl ha)⟩
/-- one list of nums handed to f -/
def fOnInts (f : List Int → Option D) (xs : List D) (μ : Mu) : Res D := match xs with
  | [d] => if isTup d = true then .no else match seqM μ d with
    | some ds => (match intsD ds with
      | some ns => (match f ns with
        | some z => .ok z μ
        | none => .no)
      | none => .no)
    | none => .no
  | _ => .no
theorem onInts_ok {f : List Int → Option D} {xs : List D} {μ : Mu} (hx : ∃ d μ', fOnInts f xs μ = .ok d μ') : ∃ d ds ns z, xs = [d] ∧ isTup d = false ∧ seqM μ d = some ds ∧ intsD ds = some ns ∧ f ns = some z ∧ fOnInts f xs μ = .ok z μ := by
  obtain ⟨z, μ', hx⟩ := hx
  have hx' := hx
  unfold fOnInts at hx
  split at hx
  · rename_i d
    cases ht : isTup d with
    | true => rw [ht, if_pos rfl] at hx; cases hx
    | false =>
      rw [ht, if_neg (by decide)] at hx
      split at hx
      · rename_i ds e
        split at hx
        · rename_i ns e2
          split at hx
          · rename_i z' e3
            cases hx
            exact ⟨d, ds, ns, _, rfl, ht, e, e2, e3, hx'⟩
          · cases hx
        · cases hx
      · cases hx
  · cases hx
theorem sim_sum : SimRC K (rSum K) (fOnInts fun ns => some (.int ns.sum)) := by
  intro W μ xs vs Q h r q hx
  obtain ⟨d, ds, ns, z, ex, ht, e, e2, e3, e4⟩ := onInts_ok hx
  obtain ⟨a, rfl, ha⟩ := one_ints h r ex ht e e2
  cases e3
  exact ⟨a, ns, rfl, ha, q W _ _ μ e4 (Step.refl W) h rep_int⟩
def maxL : List Int → Option Int
  | [] => none
  | x :: r => some (r.foldl max x)
def minL : List Int → Option Int
  | [] => none
  | x :: r => some (r.foldl min x)
theorem foldl_max : ∀ (r : List Int) (x : Int), r.foldl max x ∈ x :: r ∧ ∀ y ∈ x :: r, y ≤ r.foldl max x
  | [], x => ⟨by simp, fun y hy => by simp at hy; rw [hy]; exact Int.le_refl _⟩
  | z :: r, x => by
    obtain ⟨h1, h2⟩ := foldl_max r (max x z)
    refine ⟨?_, fun y hy => ?_⟩
    · show r.foldl max (max x z) ∈ x :: z :: r
      rcases List.mem_cons.mp h1 with e | e
      · rw [e]
        rcases Int.le_total x z with q | q
        · rw [Int.max_eq_right q]
          simp
        · rw [Int.max_eq_left q]
          simp
      · exact List.mem_cons_of_mem _ (List.mem_cons_of_mem _ e)
    · show y ≤ r.foldl max (max x z)
      have q := h2 (max x z) (by simp)
      rcases List.mem_cons.mp hy with e | e
      · rw [e]
        omega
      · rcases List.mem_cons.mp e with e | e
        · rw [e]
          omega
        · exact h2 y (List.mem_cons_of_mem _ e)
theorem foldl_min : ∀ (r : List Int) (x : Int), r.foldl min x ∈ x :: r ∧ ∀ y ∈ x :: r, r.foldl min x ≤ y
  | [], x => ⟨by simp, fun y hy => by simp at hy; rw [hy]; exact Int.le_refl _⟩
  | z :: r, x => by
    obtain ⟨h1, h2⟩ := foldl_min r (min x z)
    refine ⟨?_, fun y hy => ?_⟩
    · show r.foldl min (min x z) ∈ x :: z :: r
      rcases List.mem_cons.mp h1 with e | e
      · rw [e]
        rcases Int.le_total x z with q | q
        · rw [Int.min_eq_left q]
          simp
        · rw [Int.min_eq_right q]
          simp
      · exact List.mem_cons_of_mem _ (List.mem_cons_of_mem _ e)
    · show r.foldl min (min x z) ≤ y
      have q := h2 (min x z) (by simp)
      rcases List.mem_cons.mp hy with e | e
      · rw [e]
        omega
      · rcases List.mem_cons.mp e with e | e
        · rw [e]
          omega
        · exact h2 y (List.mem_cons_of_mem _ e)
abbrev fMaxL := fOnInts fun ns => (maxL ns).map D.int
abbrev fMinL := fOnInts fun ns => (minL ns).map D.int
theorem sim_maxL : SimRC K (rMax K) fMaxL := by
  intro W μ xs vs Q h r q hx
  obtain ⟨d, ds, ns, z, ex, ht, e, e2, e3, e4⟩ := onInts_ok hx
  obtain ⟨a, rfl, ha⟩ := one_ints h r ex ht e e2
  cases ns with
  | nil => cases e3
  | cons x r' =>
    cases e3
    obtain ⟨f1, f2⟩ := foldl_max r' x
    refine ⟨a, x :: r', rfl, ha, Nat.succ_pos _, fun m hm hb => ?_⟩
    have em : m = r'.foldl max x := by
      have a1 := f2 m hm
      have a2 := hb _ f1
      omega
    rw [em]
    exact q W _ _ μ e4 (Step.refl W) h rep_int
theorem sim_minL : SimRC K (rMin K) fMinL := by
  intro W μ xs vs Q h r q hx
  obtain ⟨d, ds, ns, z, ex, ht, e, e2, e3, e4⟩ := onInts_ok hx
  obtain ⟨a, rfl, ha⟩ := one_ints h r ex ht e e2
  cases ns with
  | nil => cases e3
  | cons x r' =>
    cases e3
    obtain ⟨f1, f2⟩ := foldl_min r' x
    refine ⟨a, x :: r', rfl, ha, Nat.succ_pos _, fun m hm hb => ?_⟩
    have em : m = r'.foldl min x := by
      have a1 := f2 m hm
      have a2 := hb _ f1
      omega
    rw [em]
    exact q W _ _ μ e4 (Step.refl W) h rep_int
def fAbs (xs : List D) (μ : Mu) : Res D := match xs with
  | [.int i] => .ok (.int (if i < 0 then -i else i)) μ
  | _ => .no
theorem sim_abs : SimRC K (fun xs H Q => ∃ i, xs = [.int i] ∧ Q (.int (if i < 0 then -i else i)) H) fAbs := by
  intro W μ xs vs Q h r q hx
  unfold fAbs at q hx
  split at hx
  · rename_i i
    obtain ⟨v, r', rfl, r1, r2⟩ := r.cons_inv
    rw [r2.nil_inv, rep_int_inv r1]
    exact ⟨i, rfl, q W _ _ μ rfl (Step.refl W) h rep_int⟩
  · exact no_ok (r := .no) hx
def fMax2 (xs : List D) (μ : Mu) : Res D := match xs with
  | [.int i, .int j] => .ok (.int (if j > i then j else i)) μ
  | _ => .no
def fMin2 (xs : List D) (μ : Mu) : Res D := match xs with
  | [.int i, .int j] => .ok (.int (if j < i then j else i)) μ
  | _ => .no
theorem sim_max2 : SimRC K (fun xs H Q => ∃ i j, xs = [.int i, .int j] ∧ Q (.int (if j > i then j else i)) H) fMax2 := by
  intro W μ xs vs Q h r q hx
  unfold fMax2 at q hx
  split at hx
  · rename_i i j
    obtain ⟨v, r', rfl, r1, r2⟩ := r.cons_inv
    obtain ⟨v2, r3, rfl, r4, r5⟩ := r2.cons_inv
    rw [r5.nil_inv, rep_int_inv r1, rep_int_inv r4]
    exact ⟨i, j, rfl, q W _ _ μ rfl (Step.refl W) h rep_int⟩
  · exact no_ok (r := .no) hx
theorem sim_min2 : SimRC K (fun xs H Q => ∃ i j, xs = [.int i, .int j] ∧ Q (.int (if j < i then j else i)) H) fMin2 := by
  intro W μ xs vs Q h r q hx
  unfold fMin2 at q hx
  split at hx
  · rename_i i j
    obtain ⟨v, r', rfl, r1, r2⟩ := r.cons_inv
    obtain ⟨v2, r3, rfl, r4, r5⟩ := r2.cons_inv
    rw [r5.nil_inv, rep_int_inv r1, rep_int_inv r4]
    exact ⟨i, j, rfl, q W _ _ μ rfl (Step.refl W) h rep_int⟩
  · exact no_ok (r := .no) hx
def fInt1 (xs : List D) (μ : Mu) : Res D := match xs with
  | [.int i] => .ok (.int i) μ
  | [.bl k] => .ok (.int (if k then 1 else 0)) μ
  | _ => .no
theorem sim_int1 : SimRC K (fun xs H Q => (∃ i, xs = [.int i] ∧ Q (.int i) H) ∨ ∃ k, xs = [.bl k] ∧ Q (.int (if k then 1 else 0)) H) fInt1 := by
  intro W μ xs vs Q h r q hx
  unfold fInt1 at q hx
  split at hx
  · rename_i i
    obtain ⟨v, r', rfl, r1, r2⟩ := r.cons_inv
    rw [r2.nil_inv, rep_int_inv r1]
    exact .inl ⟨i, rfl, q W _ _ μ rfl (Step.refl W) h rep_int⟩
  · rename_i k
    obtain ⟨v, r', rfl, r1, r2⟩ := r.cons_inv
    rw [r2.nil_inv, rep_bl_inv r1]
    exact .inr ⟨k, rfl, q W _ _ μ rfl (Step.refl W) h rep_int⟩
  · exact no_ok (r := .no) hx
def blsD : List D → Option (List Bool)
  | [] => some []
  | .bl i :: r => (blsD r).map (i :: ·)
  | _ => none
theorem blsD_inv : ∀ {ds : List D} {ns : List Bool}, blsD ds = some ns → ds = ns.map D.bl
  | [], ns, h => by
    cases h
    rfl
  | d :: r, ns, h => by
    unfold blsD at h
    split at h
    · rename_i e
      cases e
    · rename_i i r' e
      cases e
      cases q : blsD r with
      | none => rw [q] at h; cases h
      | some m =>
        rw [q] at h
        cases h
        rw [blsD_inv q]
        rfl
    · cases h
theorem bls_reps {fp : Nat → Option Addr} {Hs : Hp} : ∀ {ns : List Bool} {vs : List V}, Reps K fp Hs (ns.map D.bl) vs → vs = ns.map V.bl
  | [], vs, r => r.nil_inv
  | n :: ns, vs, r => by
    obtain ⟨v, r', rfl, r1, r2⟩ := Reps.cons_inv (d := .bl n) (ds := ns.map D.bl) r
    rw [rep_bl_inv r1, bls_reps r2]
    rfl
def fAll (xs : List D) (μ : Mu) : Res D := match xs with
  | [d] => if isTup d = true then .no else match seqM μ d with
    | some ds => (match blsD ds with
      | some bs => .ok (.bl (bs.all id)) μ
      | none => .no)
    | none => .no
  | _ => .no
theorem sim_all : SimRC K (rAll K) fAll := by
  intro W μ xs vs Q h r q hx
  unfold fAll at q hx
  split at hx
  · rename_i d
    dsimp only at q
    cases ht : isTup d with
    | true => rw [ht, if_pos rfl] at hx; exact no_ok (r := .no) hx
    | false =>
      rw [ht, if_neg (by decide)] at hx
      simp only [ht] at q
      cases e : seqM μ d with
      | none => rw [e] at hx; exact no_ok (r := .no) hx
      | some ds =>
        rw [e] at hx
        simp only [e] at q
        dsimp only at hx
        cases e2 : blsD ds with
        | none => rw [e2] at hx; exact no_ok (r := .no) hx
        | some bs =>
          simp only [e2] at q
          obtain ⟨v, r', rfl, r1, r2⟩ := r.cons_inv
          rw [r2.nil_inv]
          obtain ⟨a, us, rfl, ra, ha⟩ := seqM_list h e ht r1
          have ed := blsD_inv e2
          subst ed
          have eu := bls_reps ra
          subst eu
          exact ⟨a, bs, rfl, .inl (.inl ha), q W _ _ μ rfl (Step.refl W) h rep_bl⟩
  · exact no_ok (r := .no) hx
end
end DL
end
section
set_option maxRecDepth 100000
set_option maxHeartbeats 1000000
/-! DOps3: cells: made, changed, frozen; truth; isinstance; lists of ranges. -/
namespace DL
open PySem PySem.Spec PyProof.Rows L2
section
variable {K : PySem.W.Frag} {XC : Nat → Addr} {Wx : WX}
theorem cel_at {W : Wd} {μ : Mu} {k : Nat} {v : V} {ds : List D} (h : StOk K W μ) (e : μ[k]? = some (.lst ds)) (r : Rep K W.fp W.Hs (.cel k) v) : ∃ a vs, v = .ref a ∧ W.fps[k]? = some [a] ∧ W.H a = some (.lst vs) ∧ Reps K W.fp W.Hs ds vs := by
  obtain ⟨fp, f1, a, vs, rfl, f2, f3⟩ := fps_of h e
  obtain ⟨b, rfl, hb⟩ := rep_cel_inv r
  have hb' : W.fps[k]?.bind List.head? = some b := hb
  rw [f1] at hb'
  cases hb'
  exact ⟨a, vs, rfl, f1, f2, f3⟩
theorem flat_mem {fps : List (List Addr)} {k : Nat} {fp : List Addr} {a : Addr} (e : fps[k]? = some fp) (h : a ∈ fp) : a ∈ fps.flatten := List.mem_flatten.mpr ⟨fp, List.mem_of_getElem? e, h⟩
theorem nodup_flat {a : Addr} : ∀ {fps : List (List Addr)} {j k : Nat} {f g : List Addr}, fps.flatten.Nodup → fps[j]? = some f → fps[k]? = some g → a ∈ f → a ∈ g → j = k
  | [], j, k, f, g, _, h, _, _, _ => by simp at h
  | x :: r, 0, 0, f, g, _, _, _, _, _ => rfl
  | x :: r, 0, k + 1, f, g, hn, h1, h2, hf, hg => by
    rw [List.flatten_cons, List.nodup_append] at hn
    simp at h1 h2
    subst h1
    exact absurd rfl (hn.2.2 a hf a (flat_mem h2 hg))
  | x :: r, j + 1, 0, f, g, hn, h1, h2, hf, hg => by
    rw [List.flatten_cons, List.nodup_append] at hn
    simp at h1 h2
    subst h2
    exact absurd rfl (hn.2.2 a hg a (flat_mem h1 hf))
  | x :: r, j + 1, k + 1, f, g, hn, h1, h2, hf, hg => by
    rw [List.flatten_cons, List.nodup_append] at hn
    simp at h1 h2
    rw [nodup_flat hn.2.1 h1 h2 hf hg]
/-- a cell's list is written -/
theorem cel_write {W : Wd} {μ : Mu} {k : Nat} {a : Addr} {ds ds' : List D} {vs' : List V} (h : StOk K W μ) (e : μ[k]? = some (.lst ds)) (f : W.fps[k]? = some [a]) (r : Reps K W.fp W.Hs ds' vs') :
    Step W ⟨W.fps, W.Hs, upd W.H a (.lst vs')⟩ ∧ StOk K ⟨W.fps, W.Hs, upd W.H a (.lst vs')⟩ (μ.set k (.lst ds')) := by
  have hs : W.Hs a = none := h.live k _ _ e (by simp) f a (by simp)
  have hk : k < μ.length := (List.getElem?_eq_some_iff.mp e).1
  have nd : W.H a ≠ none := h.dom a (flat_mem f (by simp))
  refine ⟨⟨⟨[], by simp⟩, Ex.refl _, fun b u hb hn => ?_, fun b hb => ?_, fun b hb => .inl hb, fun b hb => .inl hb⟩, ⟨fun b u hb => ?_, by simp [h.len], h.nd, fun b hb => ?_, fun j c fp e1 e2 => ?_, fun j c fp e1 hc e2 b hb => ?_⟩⟩
  · show upd W.H a _ b = some u
    rw [upd_ne (fun z => hn (by rw [z]; exact flat_mem f (by simp)))]
    exact hb
  · show upd W.H a _ b ≠ none
    by_cases z : b = a
    · rw [z, upd_same]
      simp
    · rw [upd_ne z]
      exact hb
  · show upd W.H a _ b = some u
    rw [upd_ne (fun z => by rw [z, hs] at hb; cases hb)]
    exact h.ex b u hb
  · show upd W.H a _ b ≠ none
    by_cases z : b = a
    · rw [z, upd_same]
      simp
    · rw [upd_ne z]
      exact h.dom b hb
  · have e2' : W.fps[j]? = some fp := e2
    by_cases z : j = k
    · subst z
      rw [List.getElem?_set_self hk] at e1
      cases e1
      rw [f] at e2'
      cases e2'
      exact ⟨a, vs', rfl, upd_same, r⟩
    · rw [List.getElem?_set_ne (fun q => z q.symm)] at e1
      refine (h.cell j c fp e1 e2').move (fun _ _ x => x) (Ex.refl _) fun b hb u q => ?_
      show upd W.H a _ b = some u
      rw [upd_ne (fun y => z (nodup_flat h.nd e2' f hb (by rw [y]; simp)))]
      exact q
  · have e2' : W.fps[j]? = some fp := e2
    by_cases z : j = k
    · subst z
      rw [f] at e2'
      cases e2'
      obtain rfl : b = a := by simpa using hb
      exact hs
    · rw [List.getElem?_set_ne (fun q => z q.symm)] at e1
      exact h.live j c fp e1 hc e2' b hb
/-- a new list that may change -/
theorem cel_new {W : Wd} {μ : Mu} {p : Addr} {ds : List D} {vs : List V} (h : StOk K W μ) (hp : W.H p = none) (r : Reps K W.fp W.Hs ds vs) :
    Step W ⟨W.fps ++ [[p]], W.Hs, upd W.H p (.lst vs)⟩ ∧ StOk K ⟨W.fps ++ [[p]], W.Hs, upd W.H p (.lst vs)⟩ (μ ++ [.lst ds]) ∧ Rep K (Wd.fp ⟨W.fps ++ [[p]], W.Hs, upd W.H p (.lst vs)⟩) W.Hs (.cel μ.length) (.ref p) := by
  have hps : W.Hs p = none := by
    cases q : W.Hs p with
    | none => rfl
    | some u => rw [h.ex p u q] at hp; cases hp
  have hpf : p ∉ W.fps.flatten := fun z => h.dom p z hp
  have s : Step W ⟨W.fps ++ [[p]], W.Hs, upd W.H p (.lst vs)⟩ := by
    refine ⟨⟨[[p]], rfl⟩, Ex.refl _, fun b u hb _ => Ex.new hp b u hb, fun b hb => ?_, fun b hb => ?_, fun b hb => .inl hb⟩
    · cases q : W.H b with
      | none => exact absurd q hb
      | some u =>
        show upd W.H p _ b ≠ none
        rw [Ex.new hp b u q]
        simp
    · have hb' : b ∈ (W.fps ++ [[p]]).flatten := hb
      rw [List.flatten_append, List.mem_append] at hb'
      rcases hb' with z | z
      · exact .inl z
      · simp at z
        rw [z]
        exact .inr hp
  refine ⟨s, ⟨fun b u hb => ?_, by simp [h.len], ?_, fun b hb => ?_, fun j c fp e1 e2 => ?_, fun j c fp e1 hc e2 b hb => ?_⟩, ?_⟩
  · exact Ex.new hp b u (h.ex b u hb)
  · show (W.fps ++ [[p]]).flatten.Nodup
    rw [List.flatten_append, List.nodup_append]
    refine ⟨h.nd, by simp, fun x hx y hy e => ?_⟩
    simp at hy
    rw [e, hy] at hx
    exact hpf hx
  · have hb' : b ∈ (W.fps ++ [[p]]).flatten := hb
    rw [List.flatten_append, List.mem_append] at hb'
    show upd W.H p _ b ≠ none
    rcases hb' with z | z
    · rw [upd_ne (fun q => hpf (by rw [← q]; exact z))]
      exact h.dom b z
    · simp at z
      rw [z, upd_same]
      simp
  · have e2' : (W.fps ++ [[p]])[j]? = some fp := e2
    by_cases hj : j < μ.length
    · rw [List.getElem?_append_left hj] at e1
      rw [List.getElem?_append_left (by rw [h.len]; exact hj)] at e2'
      exact (h.cell j c fp e1 e2').move s.fp (Ex.refl _) fun b hb u q => Ex.new hp b u q
    · rw [List.getElem?_append_right (by omega)] at e1
      rw [List.getElem?_append_right (by rw [h.len]; omega), h.len] at e2'
      cases hz : j - μ.length with
      | zero =>
        rw [hz] at e1 e2'
        simp at e1 e2'
        subst e1
        subst e2'
        exact ⟨p, vs, rfl, upd_same, Reps.mono s.fp (Ex.refl _) r⟩
      | succ n =>
        rw [hz] at e1
        simp at e1
  · have e2' : (W.fps ++ [[p]])[j]? = some fp := e2
    by_cases hj : j < μ.length
    · rw [List.getElem?_append_left hj] at e1
      rw [List.getElem?_append_left (by rw [h.len]; exact hj)] at e2'
      exact h.live j c fp e1 hc e2' b hb
    · rw [List.getElem?_append_right (by rw [h.len]; omega), h.len] at e2'
      cases hz : j - μ.length with
      | zero =>
        rw [hz] at e2'
        simp at e2'
        subst e2'
        obtain rfl : b = p := by simpa using hb
        exact hps
      | succ n =>
        rw [hz] at e2'
        simp at e2'
  · unfold Rep
    refine ⟨p, rfl, ?_⟩
    show (W.fps ++ [[p]])[μ.length]?.bind List.head? = some p
    rw [← h.len, List.getElem?_append_right (Nat.le_refl _), Nat.sub_self]
    rfl
/-- a cell's list that will not change any more -/
theorem cel_freeze {W : Wd} {μ : Mu} {k : Nat} {v : V} {ds : List D} (h : StOk K W μ) (e : μ[k]? = some (.lst ds)) (r : Rep K W.fp W.Hs (.cel k) v) :
    ∃ W', W'.H = W.H ∧ Step W W' ∧ StOk K W' (μ.set k .dead) ∧ Rep K W'.fp W'.Hs (.lst ds) v := by
  obtain ⟨a, vs, rfl, f1, f2, f3⟩ := cel_at h e r
  have hs : W.Hs a = none := h.live k _ _ e (by simp) f1 a (by simp)
  have hk : k < μ.length := (List.getElem?_eq_some_iff.mp e).1
  have exs : Ex W.Hs (upd W.Hs a (.lst vs)) := Ex.new hs
  refine ⟨⟨W.fps, upd W.Hs a (.lst vs), W.H⟩, rfl, ⟨⟨[], by simp⟩, exs, fun b u hb _ => hb, fun b hb => hb, fun b hb => .inl hb, fun b hb => ?_⟩, ⟨fun b u hb => ?_, by simp [h.len], h.nd, h.dom, fun j c fp e1 e2 => ?_, fun j c fp e1 hc e2 b hb => ?_⟩, ?_⟩
  · by_cases z : b = a
    · rw [z]
      exact .inr (.inr (flat_mem f1 (by simp)))
    · have hb' : upd W.Hs a (.lst vs) b ≠ none := hb
      rw [upd_ne z] at hb'
      exact .inl hb'
  · have hb' : upd W.Hs a (.lst vs) b = some u := hb
    by_cases z : b = a
    · subst z
      rw [upd_same] at hb'
      cases hb'
      exact f2
    · rw [upd_ne z] at hb'
      exact h.ex b u hb'
  · by_cases z : j = k
    · subst z
      rw [List.getElem?_set_self hk] at e1
      cases e1
      trivial
    · rw [List.getElem?_set_ne (fun q => z q.symm)] at e1
      exact (h.cell j c fp e1 e2).move (fun _ _ x => x) exs fun b hb u q => q
  · by_cases z : j = k
    · subst z
      rw [List.getElem?_set_self hk] at e1
      cases e1
      exact absurd rfl hc
    · rw [List.getElem?_set_ne (fun q => z q.symm)] at e1
      have e2' : W.fps[j]? = some fp := e2
      show upd W.Hs a _ b = none
      rw [upd_ne (fun y => z (nodup_flat h.nd e2' f1 hb (by rw [y]; simp)))]
      exact h.live j c fp e1 hc e2' b hb
  · unfold Rep
    exact ⟨a, vs, rfl, upd_same, Reps.mono (fun _ _ x => x) exs f3⟩

/-! ### displays and calls that make a cell -/
def xLstC (T : TAd) : TEd := fun ρ μ => (T ρ μ).bind fun xs μ1 => if xs.length ≤ lim then .ok (.cel μ1.length) (μ1 ++ [.lst xs]) else .no
theorem sim_lstC {t : TA} {T : TAd} (ha : SimA K XC Wx t T) : SimE K XC Wx (tLst t) (xLstC T) := by
  intro W σ ρ μ Q h he q qx hn
  unfold xLstC at q qx hn
  refine ha W σ ρ μ _ h he (fun W1 vs xs μ1 e1 s1 h1 r1 => ?_) (fun W1 dx c d μ1 e1 s1 h1 r1 => ?_) (fun e => by rw [e] at hn; exact hn rfl)
  · rw [e1, Res.bind_ok] at q hn
    by_cases hl : xs.length ≤ lim
    · rw [if_pos hl] at q
      refine ⟨lim_le (by rw [← r1.length]; exact hl), fun p hp => ?_⟩
      obtain ⟨s2, h2, r2⟩ := cel_new h1 hp r1
      exact q _ _ _ _ rfl (s1.trans s2) h2 r2
    · rw [if_neg hl] at hn
      exact absurd rfl hn
  · rw [e1] at qx
    exact qx W1 dx c d μ1 rfl s1 h1 r1
def fListC (xs : List D) (μ : Mu) : Res D := match xs with
  | [d] => match seqM μ d with
    | some ds => .ok (.cel μ.length) (μ ++ [.lst ds])
    | none => .no
  | _ => .no
theorem sim_listC : SimRC K (fun xs H Q => ∃ p ys, xs = [.ref p] ∧ (SqL K H p ys ∨ SqT K H p ys) ∧ ∀ l, H l = none → Q (.ref l) (upd H l (.lst ys))) fListC := by
  intro W μ xs vs Q h r q hx
  unfold fListC at q hx
  split at hx
  · rename_i d
    dsimp only at q
    cases e : seqM μ d with
    | none => rw [e] at hx; exact no_ok (r := .no) hx
    | some ds =>
      rw [e] at q
      obtain ⟨v, r', rfl, r1, r2⟩ := r.cons_inv
      rw [r2.nil_inv]
      obtain ⟨a, us, rfl, ra, ha⟩ := seqM_any h e r1
      refine ⟨a, us, rfl, ha, fun l hl => ?_⟩
      obtain ⟨s4, k4, r4⟩ := cel_new h hl ra
      exact q _ _ _ _ rfl s4 k4 r4
  · exact no_ok (r := .no) hx

/-! ### methods of a cell's list -/
/-- a method's way: the list at k with the arguments goes over into another one, and a value -/
def onCel (f : List D → List D → Option (D × List D)) (x : D) (xs : List D) (μ : Mu) : Res D := match x with
  | .cel k => match μ[k]? with
    | some (.lst ds) => (match f ds xs with
      | some (d, ds') => .ok d (μ.set k (.lst ds'))
      | none => .no)
    | _ => .no
  | _ => .no
def isCelL (x : D) (μ : Mu) : Bool := match x with
  | .cel k => match μ[k]? with
    | some (.lst _) => true
    | _ => false
  | _ => false
theorem isCelL_at {x : D} {μ : Mu} (h : isCelL x μ = true) : ∃ k ds, x = .cel k ∧ μ[k]? = some (.lst ds) := by
  unfold isCelL at h
  split at h
  · rename_i k
    split at h
    · rename_i ds e
      exact ⟨k, ds, rfl, e⟩
    · cases h
  · cases h
def xMt (f : List D → List D → Option (D × List D)) (To : TEd) (T : TAd) : TEd := fun ρ μ => (To ρ μ).bind fun x μ1 => if isCelL x μ1 = true then (T ρ μ1).bind fun xs μ2 => okR (onCel f x xs μ2) else .no
theorem onCel_ok {f : List D → List D → Option (D × List D)} {x : D} {xs : List D} {μ : Mu} (h : ∃ d μ', onCel f x xs μ = .ok d μ') : ∃ k ds d ds', x = .cel k ∧ μ[k]? = some (.lst ds) ∧ f ds xs = some (d, ds') ∧ onCel f x xs μ = .ok d (μ.set k (.lst ds')) := by
  obtain ⟨d, μ', h⟩ := h
  have h' := h
  unfold onCel at h
  split at h
  · rename_i k
    split at h
    · rename_i ds e
      split at h
      · rename_i d' ds' e2
        cases h
        exact ⟨k, ds, _, _, rfl, e, e2, h'⟩
      · cases h
    · cases h
  · cases h
/-- the rule r of a method does f -/
def MtDoes (K : PySem.W.Frag) (r : V → List V → Hp → VK → Prop) (f : List D → List D → Option (D × List D)) : Prop := ∀ (W : Wd) (a : Addr) (us vs : List V) (ds xs : List D) (d : D) (ds' : List D) (Q : VK), Ex W.Hs W.H → W.H a = some (.lst us) → Reps K W.fp W.Hs ds us → Reps K W.fp W.Hs xs vs → f ds xs = some (d, ds') →
  (∀ v us', Rep K W.fp W.Hs d v → Reps K W.fp W.Hs ds' us' → Q v (upd W.H a (.lst us'))) → r (.ref a) vs W.H Q
theorem sim_mt {r : V → List V → Hp → VK → Prop} {f : List D → List D → Option (D × List D)} {to : TE} {t : TA} {To : TEd} {T : TAd} (hr : MtDoes K r f) (ho : SimE K XC Wx to To) (ha : SimA K XC Wx t T) : SimE K XC Wx (tBM K "list" r to t) (xMt f To T) := by
  intro W σ ρ μ Q h he q qx hn
  unfold xMt at q qx hn
  refine ho W σ ρ μ _ h he (fun W1 v x μ1 e1 s1 h1 r1 => ?_) (fun W1 dx c d μ1 e1 s1 h1 r1 => ?_) (fun e => by rw [e] at hn; exact hn rfl)
  · rw [e1] at q qx hn
    by_cases hc : isCelL x μ1 = true
    · simp only [Res.bind_ok, if_pos hc] at q qx hn
      obtain ⟨k0, ds0, rfl, ek0⟩ := isCelL_at hc
      have ty : tyV K "list" v W1.H := by
        obtain ⟨a, us, rfl, f1, f2, f3⟩ := cel_at h1 ek0 r1
        exact .inl ⟨rfl, us, .inl (.inl f2)⟩
      refine ⟨ty, ha W1 σ ρ μ1 _ h1 (he.step s1) (fun W2 vs xs μ2 e2 s2 h2 r2 => ?_) (fun W2 dx c d μ2 e2 s2 h2 r2 => ?_) (fun e => by rw [e] at hn; exact hn rfl)⟩
      · rw [e2, Res.bind_ok] at q hn
        obtain ⟨k, ds, d, ds', ek, e3, e4, e5⟩ := onCel_ok (okR_no hn)
        cases ek
        obtain ⟨a, us, rfl, f1, f2, f3⟩ := cel_at h2 e3 (s2.rep r1)
        refine hr W2 a us vs ds xs d ds' Q h2.ex f2 f3 r2 e4 fun v' us' rv rus => ?_
        obtain ⟨s3, h3⟩ := cel_write h2 e3 f1 rus
        exact q _ v' d _ (by rw [e5]; rfl) ((s1.trans s2).trans s3) h3 (s3.rep rv)
      · rw [e2] at qx
        exact qx W2 dx c d μ2 rfl (s1.trans s2) h2 r2
    · rw [Res.bind_ok, if_neg hc] at hn
      exact absurd rfl hn
  · rw [e1] at qx
    exact qx W1 dx c d μ1 rfl s1 h1 r1
def xMt0 (f : List D → List D → Option (D × List D)) (To : TEd) : TEd := fun ρ μ => (To ρ μ).bind fun x μ1 => okR (onCel f x [] μ1)
theorem sim_mt0 {r : V → List V → Hp → VK → Prop} {f : List D → List D → Option (D × List D)} {to : TE} {To : TEd} (hr : MtDoes K r f) (ho : SimE K XC Wx to To) : SimE K XC Wx (tBM0 K "list" r to) (xMt0 f To) := by
  intro W σ ρ μ Q h he q qx hn
  unfold xMt0 at q qx hn
  refine ho W σ ρ μ _ h he (fun W1 v x μ1 e1 s1 h1 r1 => ?_) (fun W1 dx c d μ1 e1 s1 h1 r1 => ?_) (fun e => by rw [e] at hn; exact hn rfl)
  · rw [e1, Res.bind_ok] at q hn
    obtain ⟨k, ds, d, ds', rfl, e3, e4, e5⟩ := onCel_ok (okR_no hn)
    obtain ⟨a, us, rfl, f1, f2, f3⟩ := cel_at h1 e3 r1
    refine ⟨.inl ⟨rfl, us, .inl (.inl f2)⟩, hr W1 a us [] ds [] d ds' Q h1.ex f2 f3 Reps.nil e4 fun v' us' rv rus => ?_⟩
    obtain ⟨s3, h3⟩ := cel_write h1 e3 f1 rus
    exact q _ v' d _ (by rw [e5]; rfl) (s1.trans s3) h3 (s3.rep rv)
  · rw [e1] at qx
    exact qx W1 dx c d μ1 rfl s1 h1 r1
def fApp (ds xs : List D) : Option (D × List D) := match xs with
  | [x] => if ds.length < lim then some (.non, ds ++ [x]) else none
  | _ => none
theorem does_app : MtDoes K rAppend fApp := by
  intro W a us vs ds xs d ds' Q ex hH rd rx e k
  unfold fApp at e
  split at e
  · rename_i x
    by_cases hl : ds.length < lim
    · rw [if_pos hl] at e
      cases e
      obtain ⟨v, r', rfl, r1, r2⟩ := rx.cons_inv
      rw [r2.nil_inv]
      exact ⟨a, us, v, rfl, rfl, hH, lim_lt (by rw [← rd.length]; exact hl), k _ _ rep_non (rd.append (Reps.cons r1 Reps.nil))⟩
    · rw [if_neg hl] at e
      cases e
  · cases e
def fExt (ds xs : List D) : Option (D × List D) := match xs with
  | [.lst es] => if ds.length + es.length ≤ lim then some (.non, ds ++ es) else none
  | _ => none
theorem does_ext : MtDoes K rExtend fExt := by
  intro W a us vs ds xs d ds' Q ex hH rd rx e k
  unfold fExt at e
  split at e
  · rename_i es
    by_cases hl : ds.length + es.length ≤ lim
    · rw [if_pos hl] at e
      cases e
      obtain ⟨v, r', rfl, r1, r2⟩ := rx.cons_inv
      rw [r2.nil_inv]
      obtain ⟨b, ws, rfl, hb, rb⟩ := rep_lst_inv r1
      exact ⟨a, b, us, ws, rfl, rfl, hH, ex b _ hb, lim_le (by rw [← rd.length, ← rb.length]; exact hl), k _ _ rep_non (rd.append rb)⟩
    · rw [if_neg hl] at e
      cases e
  · cases e
def fPop (ds xs : List D) : Option (D × List D) := match xs with
  | [] => (ds[ds.length - 1]?).map fun d => (d, ds.dropLast)
  | _ => none
theorem does_pop : MtDoes K rPop fPop := by
  intro W a us vs ds xs d ds' Q ex hH rd rx e k
  unfold fPop at e
  split at e
  · cases q : ds[ds.length - 1]? with
    | none => rw [q] at e; cases e
    | some z =>
      rw [q] at e
      cases e
      obtain ⟨v, hv, rv⟩ := rd.get q
      rw [rx.nil_inv]
      exact ⟨a, us, v, rfl, rfl, hH, by rw [← rd.length]; exact hv, k _ _ rv rd.dropLast⟩
  · cases e
/-- x[i] = v at a cell -/
def xgSub (To Ti : TEd) (d : D) (ρ : En) (μ : Mu) : Res En := match To ρ μ with
  | .ok x μ1 => (match Ti ρ μ1 with
    | .ok (.int i) μ2 => (match x with
      | .cel k => (match μ2[k]? with
        | some (.lst ds) => (match ixN ds.length i with
          | some j => .ok ρ (μ2.set k (.lst (ds.set j d)))
          | none => .no)
        | _ => .no)
      | _ => .no)
    | _ => .no)
  | _ => .no
theorem simg_sub {to ti : TE} {To Ti : TEd} (ho : SimE K XC (fun _ _ _ _ => False) to To) (hi : SimE K XC (fun _ _ _ _ => False) ti Ti) : SimG K XC Wx [] (gSub to ti rSetL) (xgSub To Ti) := by
  intro W σ ρ μ d v Q h he r q hx
  unfold xgSub at q hx
  have nx : ∀ {α : Type} {P : Prop} {c : Nat} {x : D} {m : Mu}, (∃ ρ' μ', (Res.no : Res En) = .ok ρ' μ') → P := fun h => by
    obtain ⟨_, _, e⟩ := h
    cases e
  refine ho W σ ρ μ _ h he (fun W1 vo x μ1 e1 s1 h1 r1 => ?_) (fun W1 dx c d μ1 e1 s1 h1 r1 => ?_) (fun e => by rw [e] at hx; obtain ⟨_, _, z⟩ := hx; cases z)
  · simp only [e1] at q hx
    refine hi W1 σ ρ μ1 _ h1 (he.step s1) (fun W2 vi y μ2 e2 s2 h2 r2 => ?_) (fun W2 dx c d μ2 e2 s2 h2 r2 => ?_) (fun e => by simp only [e] at hx; obtain ⟨_, _, z⟩ := hx; cases z)
    · simp only [e2] at q hx
      split at hx
      · rename_i i μ3 e3
        cases e3
        split at hx
        · rename_i k
          split at hx
          · rename_i ds e4
            split at hx
            · rename_i j e5
              simp only [e4, e5] at q
              obtain ⟨a, us, rfl, f1, f2, f3⟩ := cel_at h2 e4 (s2.rep r1)
              refine ⟨a, us, i, j, rfl, rep_int_inv r2, f2, by rw [← f3.length]; exact e5, ?_⟩
              obtain ⟨s3, h3⟩ := cel_write h2 e4 f1 (f3.set j ((s1.trans s2).rep r))
              exact q _ σ ρ _ rfl ((s1.trans s2).trans s3) h3 (he.step ((s1.trans s2).trans s3)) rfl fun _ _ => rfl
            · obtain ⟨_, _, z⟩ := hx
              cases z
          · obtain ⟨_, _, z⟩ := hx
            cases z
        · obtain ⟨_, _, z⟩ := hx
          cases z
      · obtain ⟨_, _, z⟩ := hx
        cases z
    · simp only [e2] at hx
      obtain ⟨_, _, z⟩ := hx
      cases z
  · simp only [e1] at hx
    obtain ⟨_, _, z⟩ := hx
    cases z
/-! ### a cell at a name that will not change any more -/
def xFrz (i : Nat) (T : TSd) : TSd := fun ρ μ => match ρ[i]? with
  | some (some (.cel k)) => (match μ[k]? with
    | some (.lst ds) => T (ρ.set i (some (.lst ds))) (μ.set k .dead)
    | _ => .no)
  | _ => .no
theorem set_same {σ : L2.St} {i : Nat} {v : V} (h : σ[i]? = some (some v)) : σ.set i (some v) = σ := by
  apply List.ext_getElem?
  intro j
  by_cases e : i = j
  · subst e
    rw [List.getElem?_set_self (List.getElem?_eq_some_iff.mp h).1, h]
  · rw [List.getElem?_set_ne e]
theorem sim_frz (i : Nat) {t : TS} {T : TSd} (ht : SimS K XC Wx t T) : SimS K XC Wx t (xFrz i T) := by
  intro W σ ρ μ Dn hs he qn qr qb qc qx hn
  unfold xFrz at qn qr qb qc qx hn
  cases e : ρ[i]? with
  | none => rw [e] at hn; exact absurd rfl hn
  | some o =>
    cases o with
    | none => rw [e] at hn; exact absurd rfl hn
    | some d =>
      cases d with
      | cel k =>
        simp only [e] at qn qr qb qc qx hn
        cases e2 : μ[k]? with
        | none => simp only [e2] at hn; exact absurd rfl hn
        | some c =>
          cases c with
          | lst ds =>
            simp only [e2] at qn qr qb qc qx hn
            obtain ⟨v, hv, rv⟩ := he.2 i _ e
            obtain ⟨W', eH, s, h', r'⟩ := cel_freeze hs e2 rv
            have he' : EnvOk K W' (ρ.set i (some (.lst ds))) σ := by
              have q := (he.step s).set i r'
              rw [set_same hv] at q
              exact q
            rw [← eH]
            exact ht W' σ _ _ Dn h' he' (fun W2 σ2 ρ2 μ2 e2 s2 => qn W2 σ2 ρ2 μ2 e2 (s.trans s2)) (fun W2 v d μ2 e2 s2 => qr W2 v d μ2 e2 (s.trans s2)) (fun W2 σ2 ρ2 μ2 e2 s2 => qb W2 σ2 ρ2 μ2 e2 (s.trans s2)) (fun W2 σ2 ρ2 μ2 e2 s2 => qc W2 σ2 ρ2 μ2 e2 (s.trans s2)) (fun W2 dx σ2 c d ρ2 μ2 e2 s2 => qx W2 dx σ2 c d ρ2 μ2 e2 (s.trans s2)) hn
          | _ => simp only [e2] at hn; exact absurd rfl hn
      | _ => rw [e] at hn; exact absurd rfl hn
/-! ### truth -/
def truD (μ : Mu) : D → Option Bool
  | .non => some false
  | .bl b => some b
  | .int i => some (i != 0)
  | .str z => if z.length ≤ lim then some ((z.length : Int) != 0) else none
  | d => (seqM μ d).map fun ds => !ds.isEmpty
theorem truD_rep {W : Wd} {μ : Mu} {d : D} {v : V} {b : Bool} (h : StOk K W μ) (e : truD μ d = some b) (r : Rep K W.fp W.Hs d v) : TruV K v W.H b := by
  have sq : ∀ {ds : List D}, seqM μ d = some ds → (!ds.isEmpty) = b → TruV K v W.H b := fun {ds} e1 e2 => by
    obtain ⟨a, us, rfl, ra, ha⟩ := seqM_any h e1 r
    have ee : (!us.isEmpty) = b := by
      rw [← e2]
      have := ra.length
      cases us <;> cases ds <;> simp at this ⊢
    rcases ha with ha | ha
    · exact .inl ⟨us, ha, ee.symm⟩
    · exact .inr (.inl ⟨us, ha, ee.symm⟩)
  cases d with
  | non => cases e; rw [rep_non_inv r]; exact rfl
  | bl c => cases e; rw [rep_bl_inv r]; exact rfl
  | int i => cases e; rw [rep_int_inv r]; exact rfl
  | str z =>
    unfold truD at e
    dsimp only at e
    by_cases hl : z.length ≤ lim
    · rw [if_pos hl] at e
      cases e
      rw [rep_str_inv r]
      exact ⟨lim_le hl, rfl⟩
    · rw [if_neg hl] at e
      cases e
  | tup ds =>
    cases e
    exact sq rfl rfl
  | lst ds =>
    cases e
    exact sq rfl rfl
  | frz _ => cases e
  | cel k =>
    unfold truD at e
    dsimp only at e
    cases q : seqM μ (.cel k) with
    | none => rw [q] at e; cases e
    | some ds =>
      rw [q] at e
      cases e
      exact sq q rfl
def xOrT (A B : TEd) : TEd := fun ρ μ => (A ρ μ).bind fun x μ1 => match truD μ1 x with
  | some b => if b = true then .ok x μ1 else B ρ μ1
  | none => .no
theorem sim_orT {ta tb : TE} {A B : TEd} (ha : SimE K XC Wx ta A) (hb : SimE K XC Wx tb B) : SimE K XC Wx (tOrT K ta tb) (xOrT A B) := by
  intro W σ ρ μ Q h he q qx hn
  unfold xOrT at q qx hn
  refine ha W σ ρ μ _ h he (fun W1 v x μ1 e1 s1 h1 r1 => ?_) (fun W1 dx c d μ1 e1 s1 h1 r1 => ?_) (fun e => by rw [e] at hn; exact hn rfl)
  · rw [e1, Res.bind_ok] at q qx hn
    cases e : truD μ1 x with
    | none => rw [e] at hn; exact absurd rfl hn
    | some b =>
      rw [e] at q qx hn
      dsimp only at q qx hn
      refine ⟨b, truD_rep h1 e r1, ?_⟩
      cases b with
      | true =>
        rw [if_pos rfl] at q ⊢
        exact q W1 v x μ1 rfl s1 h1 r1
      | false =>
        rw [if_neg (by decide)] at q qx hn ⊢
        exact hb W1 σ ρ μ1 Q h1 (he.step s1) (fun W2 v b μ2 e2 s2 h2 r2 => q W2 v b μ2 e2 (s1.trans s2) h2 r2) (fun W2 dx c d μ2 e2 s2 h2 r2 => qx W2 dx c d μ2 e2 (s1.trans s2) h2 r2) hn
  · rw [e1] at qx
    exact qx W1 dx c d μ1 rfl s1 h1 r1
/-! ### list(range(..)), tuple(range(..)) -/
def SimRg (K : PySem.W.Frag) (XC : Nat → Addr) (Wx : WX) (t : L2.St → Hp → (Int → Int → Hp → Prop) → Prop) (T : TAd) : Prop := ∀ (W : Wd) (σ : L2.St) (ρ : En) (μ : Mu) (Q : Int → Int → Hp → Prop), StOk K W μ → EnvOk K W ρ σ →
  (∀ W' i j μ', T ρ μ = .ok [.int i, .int j] μ' → Step W W' → StOk K W' μ' → Q i j W'.H) →
  (∀ W' dx c d μ', T ρ μ = .exc c d μ' → Step W W' → StOk K W' μ' → ExcAt K W' c d dx → Wx (.ref (XC c)) (some dx) σ W'.H) →
  (T ρ μ ≠ .no) → (∀ ds μ', T ρ μ = .ok ds μ' → ∃ i j, ds = [.int i, .int j]) → t σ W.H Q
theorem simr_2 {ta tb : TE} {A B : TEd} (ha : SimE K XC Wx ta A) (hb : SimE K XC Wx tb B) : SimRg K XC Wx (tRg2 ta tb) (xCons A (xCons B xNil)) := by
  intro W σ ρ μ Q h he q qx hn hd
  unfold xCons at q qx hn hd
  refine ha W σ ρ μ _ h he (fun W1 v x μ1 e1 s1 h1 r1 => ?_) (fun W1 dx c d μ1 e1 s1 h1 r1 => ?_) (fun e => by rw [e] at hn; exact hn rfl)
  · rw [e1] at q qx hn hd
    refine hb W1 σ ρ μ1 _ h1 (he.step s1) (fun W2 u y μ2 e2 s2 h2 r2 => ?_) (fun W2 dx c d μ2 e2 s2 h2 r2 => ?_) (fun e => by simp only [Res.bind_ok, e] at hn; exact hn rfl)
    · simp only [Res.bind_ok, e2, xNil] at q qx hn hd
      obtain ⟨i, j, e⟩ := hd _ _ rfl
      cases e
      exact ⟨i, j, rep_int_inv r1, rep_int_inv r2, q W2 i j μ2 rfl (s1.trans s2) h2⟩
    · simp only [Res.bind_ok, e2] at qx
      exact qx W2 dx c d μ2 rfl (s1.trans s2) h2 r2
  · rw [e1] at qx
    exact qx W1 dx c d μ1 rfl s1 h1 r1
theorem simr_1 {ta : TE} {A : TEd} (ha : SimE K XC Wx ta A) : SimRg K XC Wx (tRg1 ta) (xCons (xC (.int 0)) (xCons A xNil)) := by
  intro W σ ρ μ Q h he q qx hn hd
  unfold xCons at q qx hn hd
  simp only [xC, Res.bind_ok] at q qx hn hd
  refine ha W σ ρ μ _ h he (fun W1 v x μ1 e1 s1 h1 r1 => ?_) (fun W1 dx c d μ1 e1 s1 h1 r1 => ?_) (fun e => by rw [e] at hn; exact hn rfl)
  · simp only [Res.bind_ok, e1, xNil] at q qx hn hd
    obtain ⟨i, j, e⟩ := hd _ _ rfl
    cases e
    exact ⟨j, rep_int_inv r1, q W1 0 j μ1 rfl s1 h1⟩
  · rw [e1] at qx
    exact qx W1 dx c d μ1 rfl s1 h1 r1
def rgList (i j : Int) : Option (List D) := if rgOk i = true ∧ rgOk j = true ∧ (j - i).toNat ≤ lim then some (rgD i (j - i).toNat) else none
theorem rg_reps {fp : Nat → Option Addr} {Hs : Hp} (i j : Int) : Reps K fp Hs (rgD i (j - i).toNat) (rgV i j) := by
  unfold rgD rgV
  generalize (List.range (j - i).toNat) = l
  induction l with
  | nil => exact Reps.nil
  | cons x r ih => exact Reps.cons rep_int ih
theorem rgList_ok {i j : Int} {ds : List D} (h : rgList i j = some ds) : RgOk i j ∧ ds = rgD i (j - i).toNat := by
  unfold rgList at h
  split at h
  · rename_i hc
    cases h
    obtain ⟨a1, a2⟩ := rgOk_of hc.1
    obtain ⟨a3, a4⟩ := rgOk_of hc.2.1
    exact ⟨⟨a1, a2, a3, a4, Nat.le_trans hc.2.2 (by decide)⟩, rfl⟩
  · cases h
def xRgL (tup : Bool) (T : TAd) : TEd := fun ρ μ => (T ρ μ).bind fun ds μ1 => match ds with
  | [.int i, .int j] => (match rgList i j with
    | some ds => .ok (if tup = true then .tup ds else .lst ds) μ1
    | none => .no)
  | _ => .no
theorem xRgL_pair {tup : Bool} {T : TAd} {ρ : En} {μ : Mu} (hn : xRgL tup T ρ μ ≠ .no) : ∀ ds μ', T ρ μ = .ok ds μ' → ∃ i j, ds = [.int i, .int j] := fun ds μ' e => by
  unfold xRgL at hn
  rw [e, Res.bind_ok] at hn
  split at hn
  · exact ⟨_, _, rfl⟩
  · exact absurd rfl hn
theorem sim_lstRg {t : L2.St → Hp → (Int → Int → Hp → Prop) → Prop} {T : TAd} (h : SimRg K XC Wx t T) : SimE K XC Wx (tLstRg t) (xRgL false T) := by
  intro W σ ρ μ Q hs he q qx hn
  have hp := xRgL_pair hn
  unfold xRgL at q qx hn
  refine h W σ ρ μ _ hs he (fun W1 i j μ1 e1 s1 h1 => ?_) (fun W1 dx c d μ1 e1 s1 h1 r1 => ?_) (fun e => by rw [e] at hn; exact hn rfl) hp
  · rw [e1, Res.bind_ok] at q hn
    dsimp only at q hn
    cases e : rgList i j with
    | none => rw [e] at hn; exact absurd rfl hn
    | some ds =>
      rw [e] at q
      obtain ⟨ok, rfl⟩ := rgList_ok e
      refine ⟨ok, fun p hp => ?_⟩
      obtain ⟨s2, h2, r2⟩ := rep_lst_new h1 (rg_reps i j) hp
      exact q _ _ _ μ1 rfl (s1.trans s2) h2 r2
  · rw [e1] at qx
    exact qx W1 dx c d μ1 rfl s1 h1 r1
theorem sim_tupRg {t : L2.St → Hp → (Int → Int → Hp → Prop) → Prop} {T : TAd} (h : SimRg K XC Wx t T) : SimE K XC Wx (tTupRg t) (xRgL true T) := by
  intro W σ ρ μ Q hs he q qx hn
  have hp := xRgL_pair hn
  unfold xRgL at q qx hn
  refine h W σ ρ μ _ hs he (fun W1 i j μ1 e1 s1 h1 => ?_) (fun W1 dx c d μ1 e1 s1 h1 r1 => ?_) (fun e => by rw [e] at hn; exact hn rfl) hp
  · rw [e1, Res.bind_ok] at q hn
    dsimp only at q hn
    cases e : rgList i j with
    | none => rw [e] at hn; exact absurd rfl hn
    | some ds =>
      rw [e] at q
      obtain ⟨ok, rfl⟩ := rgList_ok e
      refine ⟨ok, fun p hp => ?_⟩
      obtain ⟨s2, h2, r2⟩ := rep_tup_new h1 (rg_reps i j) hp
      exact q _ _ _ μ1 rfl (s1.trans s2) h2 r2
  · rw [e1] at qx
    exact qx W1 dx c d μ1 rfl s1 h1 r1
end
end DL
end
section
set_option maxRecDepth 100000
set_option maxHeartbeats 1000000
/-! DCall: isinstance; a def's promise as a function of data, and its call. -/
namespace DL
open PySem PySem.Spec PyProof.Rows L2
section
variable {K : PySem.W.Frag} {XC : Nat → Addr} {Wx : WX}
/-! ### isinstance -/
def tyN : D → String
  | .non => "NoneType"
  | .bl _ => "bool"
  | .int _ => "int"
  | .str _ => "str"
  | .tup _ => "tuple"
  | .lst _ => "list"
  | .frz _ => "list"
  | .cel _ => "list"
/-- its type is known here -/
def tyOk (μ : Mu) : D → Bool
  | .frz _ => false
  | .cel k => isCelL (.cel k) μ
  | _ => true
theorem tyN_rep {W : Wd} {μ : Mu} {d : D} {v : V} (h : StOk K W μ) (e : tyOk μ d = true) (r : Rep K W.fp W.Hs d v) : TyX K W.H v (.type (tyN d)) := by
  cases d with
  | non => rw [rep_non_inv r]; exact .base .non
  | bl b => rw [rep_bl_inv r]; exact .base (.bl b)
  | int b => rw [rep_int_inv r]; exact .base (.int b)
  | str b => rw [rep_str_inv r]; exact .base (.str b)
  | tup ds =>
    obtain ⟨a, vs, rfl, ht, _⟩ := rep_tup_inv r
    rcases h.ex.sqT ht with z | ⟨o, its, n, z, c, _⟩
    · rcases z with z | ⟨o, z⟩
      · exact .base (.tup z)
      · exact .fTuple z
    · exact .kTuple z c
  | lst ds =>
    obtain ⟨a, vs, rfl, ht, _⟩ := rep_lst_inv r
    exact .base (.lst (h.ex a _ ht))
  | frz _ => cases e
  | cel k =>
    obtain ⟨k', ds, e1, e2⟩ := isCelL_at (show isCelL (.cel k) μ = true from e)
    cases e1
    obtain ⟨a, vs, rfl, _, f2, _⟩ := cel_at h e2 r
    exact .base (.lst f2)
def isInt : D → Bool
  | .int _ => true
  | .bl _ => true
  | _ => false
def isBool : D → Bool
  | .bl _ => true
  | _ => false
def isStr : D → Bool
  | .str _ => true
  | _ => false
def isLst : D → Bool
  | .lst _ => true
  | .cel _ => true
  | _ => false
def IsiT (T : String) (p : D → Bool) : Prop := ∀ μ d, tyOk μ d = true → kitB (tyN d) T = some (p d)
theorem isi_int : IsiT "int" isInt := fun μ d h => match d, h with
  | .non, _ => (by decide +kernel : kitB "NoneType" "int" = some false)
  | .bl _, _ => (by decide +kernel : kitB "bool" "int" = some true)
  | .int _, _ => (by decide +kernel : kitB "int" "int" = some true)
  | .str _, _ => (by decide +kernel : kitB "str" "int" = some false)
  | .tup _, _ => (by decide +kernel : kitB "tuple" "int" = some false)
  | .lst _, _ => (by decide +kernel : kitB "list" "int" = some false)
  | .cel _, _ => (by decide +kernel : kitB "list" "int" = some false)
theorem isi_bool : IsiT "bool" isBool := fun μ d h => match d, h with
  | .non, _ => (by decide +kernel : kitB "NoneType" "bool" = some false)
  | .bl _, _ => (by decide +kernel : kitB "bool" "bool" = some true)
  | .int _, _ => (by decide +kernel : kitB "int" "bool" = some false)
  | .str _, _ => (by decide +kernel : kitB "str" "bool" = some false)
  | .tup _, _ => (by decide +kernel : kitB "tuple" "bool" = some false)
  | .lst _, _ => (by decide +kernel : kitB "list" "bool" = some false)
  | .cel _, _ => (by decide +kernel : kitB "list" "bool" = some false)
theorem isi_str : IsiT "str" isStr := fun μ d h => match d, h with
  | .non, _ => (by decide +kernel : kitB "NoneType" "str" = some false)
  | .bl _, _ => (by decide +kernel : kitB "bool" "str" = some false)
  | .int _, _ => (by decide +kernel : kitB "int" "str" = some false)
  | .str _, _ => (by decide +kernel : kitB "str" "str" = some true)
  | .tup _, _ => (by decide +kernel : kitB "tuple" "str" = some false)
  | .lst _, _ => (by decide +kernel : kitB "list" "str" = some false)
  | .cel _, _ => (by decide +kernel : kitB "list" "str" = some false)
theorem isi_tup : IsiT "tuple" isTup := fun μ d h => match d, h with
  | .non, _ => (by decide +kernel : kitB "NoneType" "tuple" = some false)
  | .bl _, _ => (by decide +kernel : kitB "bool" "tuple" = some false)
  | .int _, _ => (by decide +kernel : kitB "int" "tuple" = some false)
  | .str _, _ => (by decide +kernel : kitB "str" "tuple" = some false)
  | .tup _, _ => (by decide +kernel : kitB "tuple" "tuple" = some true)
  | .lst _, _ => (by decide +kernel : kitB "list" "tuple" = some false)
  | .cel _, _ => (by decide +kernel : kitB "list" "tuple" = some false)
theorem isi_lst : IsiT "list" isLst := fun μ d h => match d, h with
  | .non, _ => (by decide +kernel : kitB "NoneType" "list" = some false)
  | .bl _, _ => (by decide +kernel : kitB "bool" "list" = some false)
  | .int _, _ => (by decide +kernel : kitB "int" "list" = some false)
  | .str _, _ => (by decide +kernel : kitB "str" "list" = some false)
  | .tup _, _ => (by decide +kernel : kitB "tuple" "list" = some false)
  | .lst _, _ => (by decide +kernel : kitB "list" "list" = some true)
  | .cel _, _ => (by decide +kernel : kitB "list" "list" = some true)
def xIsi (p : D → Bool) (T : TEd) : TEd := fun ρ μ => (T ρ μ).bind fun d μ1 => if tyOk μ1 d = true then .ok (.bl (p d)) μ1 else .no
theorem sim_isi {T : String} {p : D → Bool} {ta : TE} {A : TEd} (hp : IsiT T p) (ha : SimE K XC Wx ta A) : SimE K XC Wx (tCB (rIsi K) (tCons ta (tCons (tC (.ty T)) tNil))) (xIsi p A) := by
  intro W σ ρ μ Q h he q qx hn
  unfold xIsi at q qx hn
  refine ha W σ ρ μ _ h he (fun W1 v x μ1 e1 s1 h1 r1 => ?_) (fun W1 dx c d μ1 e1 s1 h1 r1 => ?_) (fun e => by rw [e] at hn; exact hn rfl)
  · rw [e1, Res.bind_ok] at q hn
    by_cases hk : tyOk μ1 x = true
    · rw [if_pos hk] at q
      exact ⟨v, .ty T, .type (tyN x), .type T, p x, rfl, .ty T, tyN_rep h1 hk r1, kit_ty (hp μ1 x hk), q W1 _ _ μ1 rfl s1 h1 rep_bl⟩
    · rw [if_neg hk] at hn
      exact absurd rfl hn
  · rw [e1] at qx
    exact qx W1 dx c d μ1 rfl s1 h1 r1
theorem sim_isi2 {T U : String} {p q' : D → Bool} {ta : TE} {A : TEd} (hp : IsiT T p) (hq : IsiT U q') (ha : SimE K XC Wx ta A) :
    SimE K XC Wx (tCB (rIsiT K) (tCons ta (tCons (tTup (tCons (tC (.ty T)) (tCons (tC (.ty U)) tNil))) tNil))) (xIsi (fun d => p d || q' d) A) := by
  intro W σ ρ μ Q h he q qx hn
  unfold xIsi at q qx hn
  refine ha W σ ρ μ _ h he (fun W1 v x μ1 e1 s1 h1 r1 => ?_) (fun W1 dx c d μ1 e1 s1 h1 r1 => ?_) (fun e => by rw [e] at hn; exact hn rfl)
  · rw [e1, Res.bind_ok] at q hn
    by_cases hk : tyOk μ1 x = true
    · rw [if_pos hk] at q
      refine ⟨by show 2 ≤ sizeLine; decide, fun t ht => ?_⟩
      have s2 := step_new (o := .tup [V.ty T, V.ty U]) h1.ex ht
      have h2 := h1.new (o := .tup [V.ty T, V.ty U]) ht
      refine ⟨v, t, [.ty T, .ty U], .type (tyN x), [.type T, .type U], p x || q' x, rfl, upd_same, .cons (.ty T) (.cons (.ty U) .nil), tyN_rep h2 hk (s2.rep r1), ?_, q _ _ _ μ1 rfl (s1.trans s2) h2 rep_bl⟩
      refine kitAny_cons (kit_ty (hp μ1 x hk)) (fun e => ?_) (fun e => by rw [e]; rfl)
      refine kitAny_cons (kit_ty (hq μ1 x hk)) (fun e' => ?_) (fun e' => by rw [e']; simp)
      rw [e, e']
      exact kitAny_nil
    · rw [if_neg hk] at hn
      exact absurd rfl hn
  · rw [e1] at qx
    exact qx W1 dx c d μ1 rfl s1 h1 r1

/-! ### a def as a function of data -/
abbrev FD := List D → Mu → Res D
def spD (K : PySem.W.Frag) (XC : Nat → Addr) (n : Nat) (F : FD) : Sp := fun vs H Q E => ∃ (W : Wd) (ds : List D) (μ : Mu), W.H = H ∧ StOk K W μ ∧ Reps K W.fp W.Hs ds vs ∧ ds.length = n ∧
  (∀ W' v d μ', F ds μ = .ok d μ' → Step W W' → StOk K W' μ' → Rep K W'.fp W'.Hs d v → Q v W'.H) ∧
  (∀ W' dx c d μ', F ds μ = .exc c d μ' → Step W W' → StOk K W' μ' → ExcAt K W' c d dx → E (.ref (XC c)) (some dx) W'.H) ∧ F ds μ ≠ .no
def xCall (n : Nat) (F : FD) (T : TAd) : TEd := fun ρ μ => (T ρ μ).bind fun ds μ1 => if ds.length = n then F ds μ1 else .no
theorem sim_call {n : Nat} {F : FD} {t : TA} {T : TAd} (ha : SimA K XC Wx t T) : SimE K XC Wx (tCallS (spD K XC n F) (WE Wx) t) (xCall n F T) := by
  intro W σ ρ μ Q h he q qx hn
  unfold xCall at q qx hn
  refine ha W σ ρ μ _ h he (fun W1 vs ds μ1 e1 s1 h1 r1 => ?_) (fun W1 dx c d μ1 e1 s1 h1 r1 => ?_) (fun e => by rw [e] at hn; exact hn rfl)
  · rw [e1, Res.bind_ok] at q qx hn
    by_cases hl : ds.length = n
    · rw [if_pos hl] at q qx hn
      exact ⟨W1, ds, μ1, rfl, h1, r1, hl, fun W2 v d μ2 e2 s2 h2 r2 => q W2 v d μ2 e2 (s1.trans s2) h2 r2, fun W2 dx c d μ2 e2 s2 h2 r2 => qx W2 dx c d μ2 e2 (s1.trans s2) h2 r2, hn⟩
    · rw [if_neg hl] at hn
      exact absurd rfl hn
  · rw [e1] at qx
    exact qx W1 dx c d μ1 rfl s1 h1 r1
end
section
variable {P : Program} {w : World} {K : PySem.W.Frag} {mg : Str → Option Value} {base : Heap} {XC : Nat → Addr}
/-- the def at f does F -/
abbrev OkD (P : Program) (w : World) (K : PySem.W.Frag) (mg : Str → Option Value) (base : Heap) (XC : Nat → Addr) (k : Nat) (f : Addr) (fd : FuncData) (ps : List Str) (F : FD) : Prop := FnOk P w K mg base (L2.CX P w) k f fd ps (spD K XC ps.length F)
def startD (N : List Str) (ds : List D) : En := ds.map some ++ List.replicate (N.length - ds.length) none
theorem envOk_start {W : Wd} {N : List Str} {ds : List D} {vs : List V} (r : Reps K W.fp W.Hs ds vs) : EnvOk K W (startD N ds) (L2.start N vs) := by
  have hl := r.length
  refine ⟨by unfold startD L2.start; simp [hl], fun i d e => ?_⟩
  unfold startD at e
  unfold L2.start
  by_cases hi : i < ds.length
  · rw [List.getElem?_append_left (by simpa using hi), List.getElem?_map] at e
    rw [List.getElem?_append_left (by simpa [← hl] using hi), List.getElem?_map]
    cases q : ds[i]? with
    | none => rw [q] at e; cases e
    | some z =>
      rw [q] at e
      cases e
      obtain ⟨v, hv, rv⟩ := r.get q
      rw [hv]
      exact ⟨v, rfl, rv⟩
  · rw [List.getElem?_append_right (by simpa using hi), List.getElem?_replicate] at e
    split at e <;> cases e
/-- what the body comes to is what F says; g: cells that nobody holds any more -/
def Ref1 (o : Out) (r : Res D) (μ : Mu) : Prop := match r with
  | .ok d μ' => μ.length ≤ μ'.length ∧ ((∃ g, o = .rt d (μ' ++ g)) ∨ (d = .non ∧ ∃ ρ g, o = .nx ρ (μ' ++ g)))
  | .exc c d μ' => μ.length ≤ μ'.length ∧ ∃ ρ g, o = .exc c d ρ (μ' ++ g)
  | .no => True
mutual
/-- all cells within are below n -/
def below (n : Nat) : D → Bool
  | .tup ds => belows n ds
  | .lst ds => belows n ds
  | .frz ds => belows n ds
  | .cel k => decide (k < n)
  | _ => true
def belows (n : Nat) : List D → Bool
  | [] => true
  | d :: ds => below n d && belows n ds
end
mutual
theorem Rep.below {fp fp' : Nat → Option Addr} {Hs : Hp} {n : Nat} (hf : ∀ k, k < n → fp' k = fp k) : ∀ {d : D} {v : V}, below n d = true → Rep K fp Hs d v → Rep K fp' Hs d v
  | .non, v, b, h => by
    unfold Rep at h ⊢
    exact h
  | .bl _, v, b, h => by
    unfold Rep at h ⊢
    exact h
  | .int i, v, b, h => by
    unfold Rep at h ⊢
    exact h
  | .str s, v, b, h => by
    unfold Rep at h ⊢
    exact h
  | .tup ds, v, b, h => by
    unfold DL.below at b
    unfold Rep at h ⊢
    obtain ⟨a, vs, h1, h2, h3⟩ := h
    exact ⟨a, vs, h1, h2, Reps.below hf b h3⟩
  | .lst ds, v, b, h => by
    unfold DL.below at b
    unfold Rep at h ⊢
    obtain ⟨a, vs, h1, h2, h3⟩ := h
    exact ⟨a, vs, h1, h2, Reps.below hf b h3⟩
  | .frz ds, v, b, h => by
    unfold DL.below at b
    unfold Rep at h ⊢
    obtain ⟨a, vs, h1, h2, h3⟩ := h
    exact ⟨a, vs, h1, h2, Reps.below hf b h3⟩
  | .cel k, v, b, h => by
    unfold DL.below at b
    unfold Rep at h ⊢
    obtain ⟨a, h1, h2⟩ := h
    exact ⟨a, h1, by rw [hf k (of_decide_eq_true b)]; exact h2⟩
theorem Reps.below {fp fp' : Nat → Option Addr} {Hs : Hp} {n : Nat} (hf : ∀ k, k < n → fp' k = fp k) : ∀ {ds : List D} {vs : List V}, belows n ds = true → Reps K fp Hs ds vs → Reps K fp' Hs ds vs
  | [], vs, b, h => by
    unfold Reps at h ⊢
    exact h
  | d :: ds, vs, b, h => by
    unfold belows at b
    rw [Bool.and_eq_true] at b
    unfold Reps at h ⊢
    obtain ⟨v, r, h1, h2, h3⟩ := h
    exact ⟨v, r, h1, Rep.below hf b.1 h2, Reps.below hf b.2 h3⟩
end
def cellBelow (n : Nat) : Cell → Bool
  | .dead => true
  | .lst xs => belows n xs
  | .ins _ _ xs => belows n xs
/-- the cells behind n given up -/
theorem trim {W W' : Wd} {μ' g : Mu} (n : Nat) (s : Step W W') (h : StOk K W' (μ' ++ g)) (hl : W.fps.length ≤ μ'.length) (hb : μ'.all (cellBelow μ'.length) = true) :
    Step W ⟨W'.fps.take μ'.length, W'.Hs, W'.H⟩ ∧ StOk K ⟨W'.fps.take μ'.length, W'.Hs, W'.H⟩ μ' ∧ ∀ k, k < μ'.length → Wd.fp ⟨W'.fps.take μ'.length, W'.Hs, W'.H⟩ k = W'.fp k := by
  have hfp : ∀ k, k < μ'.length → (W'.fps.take μ'.length)[k]? = W'.fps[k]? := fun k hk => by
    rw [List.getElem?_take, if_pos hk]
  have sub : ∀ a ∈ (W'.fps.take μ'.length).flatten, a ∈ W'.fps.flatten := fun a ha => by
    obtain ⟨f, hf, haf⟩ := List.mem_flatten.mp ha
    exact List.mem_flatten.mpr ⟨f, List.mem_of_mem_take hf, haf⟩
  have fpk : ∀ k, k < μ'.length → Wd.fp ⟨W'.fps.take μ'.length, W'.Hs, W'.H⟩ k = W'.fp k := fun k hk => by
    show (W'.fps.take μ'.length)[k]?.bind List.head? = W'.fps[k]?.bind List.head?
    rw [hfp k hk]
  have hlen : W'.fps.length = μ'.length + g.length := by
    rw [h.len, List.length_append]
  refine ⟨⟨?_, s.hs, s.out, s.dom, fun a ha => s.newf a (sub a ha), s.news⟩, ⟨h.ex, ?_, ?_, fun a ha => h.dom a (sub a ha), fun k c fp e1 e2 => ?_, fun k c fp e1 hc e2 a ha => ?_⟩, fpk⟩
  · obtain ⟨ex, e⟩ := s.fps
    refine ⟨ex.take (μ'.length - W.fps.length), ?_⟩
    show W'.fps.take μ'.length = _
    rw [e, List.take_append, List.take_of_length_le hl]
  · show (W'.fps.take μ'.length).length = μ'.length
    rw [List.length_take]
    omega
  · show (W'.fps.take μ'.length).flatten.Nodup
    have q := h.nd
    rw [← List.take_append_drop μ'.length W'.fps, List.flatten_append, List.nodup_append] at q
    exact q.1
  · have hk : k < μ'.length := (List.getElem?_eq_some_iff.mp e1).1
    have e2' : W'.fps[k]? = some fp := by
      rw [← hfp k hk]
      exact e2
    have q := h.cell k c fp (by rw [List.getElem?_append_left hk]; exact e1) e2'
    have hb' := List.all_eq_true.mp hb c (List.mem_of_getElem? e1)
    cases c with
    | dead => trivial
    | lst ds =>
      obtain ⟨a, vs, e3, e4, e5⟩ := q
      exact ⟨a, vs, e3, e4, Reps.below fpk hb' e5⟩
    | ins C ns ds =>
      obtain ⟨a, dx, vs, e3, e4, e5, e6, e7⟩ := q
      exact ⟨a, dx, vs, e3, e4, e5, e6, Reps.below fpk hb' e7⟩
  · have hk : k < μ'.length := (List.getElem?_eq_some_iff.mp e1).1
    have e2' : W'.fps[k]? = some fp := by
      rw [← hfp k hk]
      exact e2
    exact h.live k c fp (by rw [List.getElem?_append_left hk]; exact e1) hc e2' a ha
/-- the rule for a def whose function works on cells -/
theorem okD_of {x qual : Str} {st : Stmt} {f : Addr} {fd : FuncData} {N ps : List Str} {k : Nat} {F : FD} {T : TSd} (Fn : Fun K x qual st f fd) (S : FnScope N ps (defScope st))
    (hbody : ∀ (cdv : Value) (A : Around) (outer : List Env) (s : Shared) (H : Hp) (E : XK), Room k (A.deeper (envOfC qual (defScope st) s.heap.objs.size f cdv)) →
      ∃ t, PSs (cxOf (L2.CX P w) P w K mg base N qual (defScope st) f cdv A outer s H E) (defBody st) t ∧ SimS K XC (fun c d _ H => E c d H) t T)
    (hT : ∀ ds μ, ds.length = ps.length → F ds μ ≠ .no → Ref1 (T (startD N ds) μ) (F ds μ) μ ∧ ∀ d μ', (F ds μ = .ok d μ' ∨ ∃ c, F ds μ = .exc c d μ') → below μ'.length d = true ∧ μ'.all (cellBelow μ'.length) = true) :
    OkD P w K mg base XC (k + 1) f fd ps F := by
  refine Fn.okX S (fun vs H Q E h => ?_) (fun cdv A outer s H vs Q E hr h => ?_)
  · obtain ⟨W, ds, μ, _, _, r, hl, _⟩ := h
    rw [← r.length, hl]
  · obtain ⟨W, ds, μ, rfl, hs, r, hl, q, qx, hn⟩ := h
    obtain ⟨t, hp, sim⟩ := hbody cdv A outer s W.H E hr
    refine ⟨t, hp, ?_⟩
    obtain ⟨rf, hb⟩ := hT ds μ hl hn
    have fin : ∀ W' v d μ', F ds μ = .ok d μ' → ∀ g, Step W W' → StOk K W' (μ' ++ g) → Rep K W'.fp W'.Hs d v → μ.length ≤ μ'.length → Q v W'.H := fun W' v d μ' e g s' h' r' hle => by
      obtain ⟨b1, b2⟩ := hb d μ' (.inl e)
      obtain ⟨s2, h2, fk⟩ := trim (W := W) μ'.length s' h' (by rw [hs.len]; exact hle) b2
      exact q ⟨W'.fps.take μ'.length, W'.Hs, W'.H⟩ v d μ' e s2 h2 (Rep.below fk b1 r')
    unfold Ref1 at rf
    cases e : F ds μ with
    | no => exact absurd e hn
    | ok d μ' =>
      rw [e] at rf
      dsimp only at rf
      obtain ⟨hle, rf⟩ := rf
      refine sim W (L2.start N vs) (startD N ds) μ _ hs (envOk_start r) (fun W' σ' ρ' μ2 e2 s' h' he' => ?_) (fun W' v d' μ2 e2 s' h' r' => ?_) (fun W' σ' ρ' μ2 e2 => ?_) (fun W' σ' ρ' μ2 e2 => ?_) (fun W' dx σ' c d' ρ' μ2 e2 => ?_) ?_
      · rcases rf with ⟨g, rf⟩ | ⟨rfl, ρ2, g, rf⟩
        · rw [rf] at e2
          cases e2
        · rw [rf] at e2
          cases e2
          exact fin W' .non .non μ' e g s' h' rep_non hle
      · rcases rf with ⟨g, rf⟩ | ⟨rfl, ρ2, g, rf⟩
        · rw [rf] at e2
          cases e2
          exact fin W' v d μ' e g s' h' r' hle
        · rw [rf] at e2
          cases e2
      · rcases rf with ⟨g, rf⟩ | ⟨rfl, ρ2, g, rf⟩ <;> (rw [rf] at e2; cases e2)
      · rcases rf with ⟨g, rf⟩ | ⟨rfl, ρ2, g, rf⟩ <;> (rw [rf] at e2; cases e2)
      · rcases rf with ⟨g, rf⟩ | ⟨rfl, ρ2, g, rf⟩ <;> (rw [rf] at e2; cases e2)
      · rcases rf with ⟨g, rf⟩ | ⟨rfl, ρ2, g, rf⟩ <;> (rw [rf]; intro z; cases z)
    | exc c d μ' =>
      rw [e] at rf
      dsimp only at rf
      obtain ⟨hle, ρ2, g, rf⟩ := rf
      refine sim W (L2.start N vs) (startD N ds) μ _ hs (envOk_start r) (fun W' σ' ρ' μ2 e2 s' h' he' => ?_) (fun W' v d' μ2 e2 s' h' r' => ?_) (fun W' σ' ρ' μ2 e2 => ?_) (fun W' σ' ρ' μ2 e2 => ?_) (fun W' dx σ' c' d' ρ' μ2 e2 s' h' he' r' => ?_) (by rw [rf]; intro z; cases z)
      · rw [rf] at e2
        cases e2
      · rw [rf] at e2
        cases e2
      · rw [rf] at e2
        cases e2
      · rw [rf] at e2
        cases e2
      · rw [rf] at e2
        cases e2
        obtain ⟨b1, b2⟩ := hb d μ' (.inr ⟨c, e⟩)
        obtain ⟨s2, h2, fk⟩ := trim (W := W) μ'.length s' h' (by rw [hs.len]; exact hle) b2
        obtain ⟨v, hx, rv⟩ := r'
        exact qx ⟨W'.fps.take μ'.length, W'.Hs, W'.H⟩ dx c d μ' e s2 h2 ⟨v, hx, Rep.below fk b1 rv⟩
/-- what a def that works on no cell comes to -/
inductive PR where
  | ok (d : D) | exc (c : Nat) (d : D) | no
def liftP (f : List D → PR) : FD := fun ds μ => match f ds with
  | .ok d => .ok d μ
  | .exc c d => .exc c d μ
  | .no => .no
def Ref0 (o : Out) (r : PR) : Prop := match r with
  | .ok d => noCel d = true ∧ ((∃ g, o = .rt d g) ∨ (d = .non ∧ ∃ ρ g, o = .nx ρ g))
  | .exc c d => noCel d = true ∧ ∃ ρ g, o = .exc c d ρ g
  | .no => True
theorem okP_of {x qual : Str} {st : Stmt} {f : Addr} {fd : FuncData} {N ps : List Str} {k : Nat} {F : List D → PR} {T : TSd} (Fn : Fun K x qual st f fd) (S : FnScope N ps (defScope st))
    (hbody : ∀ (cdv : Value) (A : Around) (outer : List Env) (s : Shared) (H : Hp) (E : XK), Room k (A.deeper (envOfC qual (defScope st) s.heap.objs.size f cdv)) →
      ∃ t, PSs (cxOf (L2.CX P w) P w K mg base N qual (defScope st) f cdv A outer s H E) (defBody st) t ∧ SimS K XC (fun c d _ H => E c d H) t T)
    (hT : ∀ ds, ds.length = ps.length → F ds ≠ .no → noCels ds = true ∧ Ref0 (T (startD N ds) []) (F ds)) :
    OkD P w K mg base XC (k + 1) f fd ps (liftP F) := by
  refine Fn.okX S (fun vs H Q E h => ?_) (fun cdv A outer s H vs Q E hr h => ?_)
  · obtain ⟨W, ds, μ, _, _, r, hl, _⟩ := h
    rw [← r.length, hl]
  · obtain ⟨W, ds, μ, rfl, hs, r, hl, q, qx, hn⟩ := h
    obtain ⟨t, hp, sim⟩ := hbody cdv A outer s W.H E hr
    refine ⟨t, hp, ?_⟩
    have hn' : F ds ≠ .no := fun e => hn (by unfold liftP; rw [e])
    obtain ⟨nc, rf⟩ := hT ds hl hn'
    have hc : StOk K ⟨[], W.Hs, W.H⟩ [] := ⟨hs.ex, rfl, by simp, fun a ha => by simp at ha, fun k c fp e => by simp at e, fun k c fp e => by simp at e⟩
    have rc : Reps K (Wd.fp ⟨[], W.Hs, W.H⟩) W.Hs ds vs := Reps.anyfp nc r
    have back : ∀ W' g, Step ⟨[], W.Hs, W.H⟩ W' → StOk K W' g → Step W ⟨W.fps, W'.Hs, W'.H⟩ ∧ StOk K ⟨W.fps, W'.Hs, W'.H⟩ μ := fun W' g s' h' => by
      have kp : ∀ a o, W.H a = some o → W'.H a = some o := fun a o e => s'.out a o e (by simp)
      refine ⟨⟨⟨[], by simp⟩, s'.hs, fun a o e _ => kp a o e, s'.dom, fun a ha => .inl ha, fun a ha => ?_⟩, ⟨h'.ex, hs.len, hs.nd, fun a ha => s'.dom a (hs.dom a ha), fun k c fp e1 e2 => ?_, fun k c fp e1 hc e2 a ha => ?_⟩⟩
      · rcases s'.news a ha with z | z | z
        · exact .inl z
        · exact .inr (.inl z)
        · simp at z
      · exact (hs.cell k c fp e1 e2).move (fun _ _ x => x) s'.hs fun a _ o e => kp a o e
      · have e2' : W.fps[k]? = some fp := e2
        have q1 := hs.live k c fp e1 hc e2' a ha
        have q2 := hs.dom a (flat_mem e2' ha)
        show W'.Hs a = none
        cases z : W'.Hs a with
        | none => rfl
        | some u =>
          rcases s'.news a (by rw [z]; simp) with y | y | y
          · exact absurd q1 y
          · exact absurd y q2
          · simp at y
    unfold Ref0 at rf
    cases e : F ds with
    | no => exact absurd e hn'
    | ok d =>
      rw [e] at rf
      dsimp only at rf
      obtain ⟨nd, rf⟩ := rf
      have eF : liftP F ds μ = .ok d μ := by
        unfold liftP
        rw [e]
      have fin : ∀ W' v g, Step ⟨[], W.Hs, W.H⟩ W' → StOk K W' g → Rep K W'.fp W'.Hs d v → Q v W'.H := fun W' v g s' h' r' => by
        obtain ⟨s2, h2⟩ := back W' g s' h'
        exact q ⟨W.fps, W'.Hs, W'.H⟩ v d μ eF s2 h2 (Rep.anyfp nd r')
      refine sim ⟨[], W.Hs, W.H⟩ (L2.start N vs) (startD N ds) [] _ hc (envOk_start rc) (fun W' σ' ρ' μ2 e2 s' h' he' => ?_) (fun W' v d' μ2 e2 s' h' r' => ?_) (fun W' σ' ρ' μ2 e2 => ?_) (fun W' σ' ρ' μ2 e2 => ?_) (fun W' dx σ' c d' ρ' μ2 e2 => ?_) ?_
      · rcases rf with ⟨g, rf⟩ | ⟨rfl, ρ2, g, rf⟩
        · rw [rf] at e2
          cases e2
        · exact fin W' .non _ s' h' rep_non
      · rcases rf with ⟨g, rf⟩ | ⟨rfl, ρ2, g, rf⟩
        · rw [rf] at e2
          cases e2
          exact fin W' v _ s' h' r'
        · rw [rf] at e2
          cases e2
      · rcases rf with ⟨g, rf⟩ | ⟨rfl, ρ2, g, rf⟩ <;> (rw [rf] at e2; cases e2)
      · rcases rf with ⟨g, rf⟩ | ⟨rfl, ρ2, g, rf⟩ <;> (rw [rf] at e2; cases e2)
      · rcases rf with ⟨g, rf⟩ | ⟨rfl, ρ2, g, rf⟩ <;> (rw [rf] at e2; cases e2)
      · rcases rf with ⟨g, rf⟩ | ⟨rfl, ρ2, g, rf⟩ <;> (rw [rf]; intro z; cases z)
    | exc c d =>
      rw [e] at rf
      dsimp only at rf
      obtain ⟨nd, ρ2, g, rf⟩ := rf
      have eF : liftP F ds μ = .exc c d μ := by
        unfold liftP
        rw [e]
      refine sim ⟨[], W.Hs, W.H⟩ (L2.start N vs) (startD N ds) [] _ hc (envOk_start rc) (fun W' σ' ρ' μ2 e2 s' h' he' => ?_) (fun W' v d' μ2 e2 s' h' r' => ?_) (fun W' σ' ρ' μ2 e2 => ?_) (fun W' σ' ρ' μ2 e2 => ?_) (fun W' dx σ' c' d' ρ' μ2 e2 s' h' he' r' => ?_) (by rw [rf]; intro z; cases z)
      · rw [rf] at e2
        cases e2
      · rw [rf] at e2
        cases e2
      · rw [rf] at e2
        cases e2
      · rw [rf] at e2
        cases e2
      · rw [rf] at e2
        cases e2
        obtain ⟨s2, h2⟩ := back W' _ s' h'
        obtain ⟨v, hx, rv⟩ := r'
        exact qx ⟨W.fps, W'.Hs, W'.H⟩ dx c d μ eF s2 h2 ⟨v, hx, Rep.anyfp nd rv⟩
end
end DL
end
section
set_option maxRecDepth 100000
set_option maxHeartbeats 1000000
/-! DRules: one rule a construct: a piece of syntax, its reading, what it computes. -/
namespace DL
open PySem PySem.Spec PyProof.Rows L2
def EX (X : Cx) (XC : Nat → Addr) (Wx : WX) (e : Expr) (t : TE) (T : TEd) : Prop := PE X e t ∧ SimE X.K XC Wx t T
def TX (X : Cx) (XC : Nat → Addr) (Wx : WX) (e : Expr) (t : TT) (T : TTd) : Prop := PT X e t ∧ SimT X.K XC Wx t T
def WWX (X : Cx) (XC : Nat → Addr) (Wx : WX) (e : Expr) (t : TT) (T : TTd) : Prop := PW X e t ∧ SimT X.K XC Wx t T
def AX (X : Cx) (XC : Nat → Addr) (Wx : WX) (es : List Expr) (t : TA) (T : TAd) : Prop := PA X es t ∧ SimA X.K XC Wx t T
def SX' (X : Cx) (XC : Nat → Addr) (Wx : WX) (s : Stmt) (t : TS) (T : TSd) : Prop := PS X s t ∧ SimS X.K XC Wx t T
def BX (X : Cx) (XC : Nat → Addr) (Wx : WX) (ss : List Stmt) (t : TS) (T : TSd) : Prop := PSs X ss t ∧ SimS X.K XC Wx t T
def IX (X : Cx) (XC : Nat → Addr) (Wx : WX) (tg e : Expr) (t : TI) (T : En → Mu → Res (List D)) : Prop := PI X tg e t ∧ SimI X.K XC Wx t T
def GX (X : Cx) (XC : Nat → Addr) (Wx : WX) (js : List Nat) (e : Expr) (g : TG) (G : D → En → Mu → Res En) : Prop := PG X e g ∧ SimG X.K XC Wx js g G
def GsX (X : Cx) (XC : Nat → Addr) (Wx : WX) (js : List Nat) (e : List Expr) (g : TGs) (G : List D → En → Mu → Res En) : Prop := PGs X e g ∧ SimGs X.K XC Wx js g G
def OX (X : Cx) (XC : Nat → Addr) (Wx : WX) (e : Option Expr) (t : TO) (T : En → Mu → Res (Option Int)) : Prop := PO X e t ∧ SimTO X.K XC Wx t T
abbrev W0 : WX := fun _ _ _ _ => False
section
variable {X : Cx} {XC : Nat → Addr} {Wx : WX} {a b c e : Expr} {es rest : List Expr} {pos pos' p : Pos} {ta tb tc te : TE} {A B C : TEd} {tt uu : TT} {TA' TB' : TTd} {t t' : L2.TA} {TT' : TAd} {x : Str}
/-! ### expressions -/
theorem d_var (i : Nat) (hN : X.N[i]? = some x := by rfl) (hv : Vis X.env.scope x := by first | exact Or.inl rfl | exact Or.inr (Or.inl rfl) | exact Or.inr (Or.inr rfl)) (hd : (x == ("__debug__" : Str)) = false := by decide) (hcd : (x == ("__classdict__" : Str)) = false := by decide) :
    EX X XC Wx (.Name x p) (tVar i) (xVar i) := ⟨pe_var hN hv hd hcd, sim_var⟩
theorem d_int {i : Int} {j : Nat} : EX X XC Wx (.Constant (.int i) j p) (tC (.int i)) (xC (.int i)) := ⟨pe_int, sim_c (d := .int i)⟩
theorem d_bl {i : Bool} {j : Nat} : EX X XC Wx (.Constant (.bool i) j p) (tC (.bl i)) (xC (.bl i)) := ⟨pe_bl, sim_c (d := .bl i)⟩
theorem d_non {j : Nat} : EX X XC Wx (.Constant .none j p) (tC .non) (xC .non) := ⟨pe_non, sim_c (d := .non)⟩
theorem d_str {i : Str} {j : Nat} : EX X XC Wx (.Constant (.str i) j p) (tC (.str i)) (xC (.str i)) := ⟨pe_str, sim_c (d := .str i)⟩
theorem d_gstr {i : Str} {u : Value} (hg : Gl X x) (hm : X.mg x = some u) (hu : ∃ tk, u = Value.str i tk) (hd : (x == ("__debug__" : Str)) = false := by decide) : EX X XC Wx (.Name x p) (tC (.str i)) (xC (.str i)) := ⟨pe_glob hg hm hu hd, sim_c (d := .str i)⟩
theorem d_gint {i : Int} {u : Value} (hg : Gl X x) (hm : X.mg x = some u) (hu : ∃ tk, u = Value.int i tk) (hd : (x == ("__debug__" : Str)) = false := by decide) : EX X XC Wx (.Name x p) (tC (.int i)) (xC (.int i)) := ⟨pe_glob hg hm hu hd, sim_c (d := .int i)⟩
theorem d_op {op : Operator} {r : R2} {f : D → D → Mu → Res D} (ho : OpR X (binaryOp op) r) (hs : SimR2 X.K r f) (ha : EX X XC Wx a ta A) (hb : EX X XC Wx b tb B) : EX X XC Wx (.BinOp a op b pos) (tOp r ta tb) (xOp f A B) := ⟨pe_op ho ha.1 hb.1, sim_op hs ha.2 hb.2⟩
theorem d_neg (ha : EX X XC Wx a ta A) : EX X XC Wx (.UnaryOp .USub a pos) (tUn (rU fun i => .int (-i)) ta) (xUn fNeg A) := ⟨pe_un un_neg ha.1, sim_un sim_neg ha.2⟩
theorem d_cmp {op : CmpOp} {r : R2} {f : D → D → Mu → Res D} (ho : OpR X (compareOp op) r) (hs : SimR2 X.K r f) (ha : EX X XC Wx a ta A) (hb : EX X XC Wx b tb B) (hm : behindInMarks op b = false := by first | exact nomark _ | rfl) : EX X XC Wx (.Compare a [op] [b] pos) (tOp r ta tb) (xOp f A B) :=
  ⟨pe_cmpR ho ha.1 hb.1 hm, sim_op hs ha.2 hb.2⟩
theorem t_cmp {op : CmpOp} {r : R2} {f : D → D → Mu → Res D} (ho : OpR X (compareOp op) r) (hs : SimR2 X.K r f) (ha : EX X XC Wx a ta A) (hb : EX X XC Wx b tb B) (hm : behindInMarks op b = false := by first | exact nomark _ | rfl) : TX X XC Wx (.Compare a [op] [b] pos) (tTest (tOp r ta tb)) (xTest (xOp f A B)) :=
  ⟨pt_cmpR ho ha.1 hb.1 hm, sim_test (sim_op hs ha.2 hb.2)⟩
theorem d_chain {op op' : CmpOp} {r r' : R2} {f g : D → D → Mu → Res D} (ho : OpR X (compareOp op) r) (hs : SimR2 X.K r f) (ho' : OpR X (compareOp op') r') (hs' : SimR2 X.K r' g) (ha : EX X XC Wx a ta A) (hb : EX X XC Wx b tb B) (hc : EX X XC Wx c tc C) (hm : lastMarks [op, op'] [b, c] = false := by with_unfolding_all rfl) :
    EX X XC Wx (.Compare a [op, op'] [b, c] pos) (tChain r r' ta tb tc) (xChain f g A B C) := ⟨pe_chain ho ho' ha.1 hb.1 hc.1 hm, sim_chain hs hs' ha.2 hb.2 hc.2⟩
theorem t_chain {op op' : CmpOp} {r r' : R2} {f g : D → D → Mu → Res D} (ho : OpR X (compareOp op) r) (hs : SimR2 X.K r f) (ho' : OpR X (compareOp op') r') (hs' : SimR2 X.K r' g) (ha : EX X XC Wx a ta A) (hb : EX X XC Wx b tb B) (hc : EX X XC Wx c tc C) (hm : lastMarks [op, op'] [b, c] = false := by with_unfolding_all rfl) :
    TX X XC Wx (.Compare a [op, op'] [b, c] pos) (tTest (tChain r r' ta tb tc)) (xTest (xChain f g A B C)) := ⟨pt_chain ho ho' ha.1 hb.1 hc.1 hm, sim_test (sim_chain hs hs' ha.2 hb.2 hc.2)⟩
theorem t_val (h : EX X XC Wx a ta A) (he : ∀ whole, isTrue a X.env whole = (do let v ← whole; standAt a.pos; holding [v] (truthy v)) := by intro _; rfl) : TX X XC Wx a (tB ta) (xTest A) := ⟨pt_val h.1 he, sim_tB h.2⟩
theorem w_and1 (ha : TX X XC Wx a tt TA') : WWX X XC Wx (.BoolOp .And [a] pos) tt TA' := ⟨pw_and1 ha.1, ha.2⟩
theorem w_or1 (ha : TX X XC Wx a tt TA') : WWX X XC Wx (.BoolOp .Or [a] pos) tt TA' := ⟨pw_or1 ha.1, ha.2⟩
theorem w_and (ha : TX X XC Wx a tt TA') (hb : WWX X XC Wx (.BoolOp .And (b :: rest) pos) uu TB') : WWX X XC Wx (.BoolOp .And (a :: b :: rest) pos) (tAnd tt uu) (xAnd TA' TB') := ⟨pw_and ha.1 hb.1, sim_and ha.2 hb.2⟩
theorem w_or (ha : TX X XC Wx a tt TA') (hb : WWX X XC Wx (.BoolOp .Or (b :: rest) pos) uu TB') : WWX X XC Wx (.BoolOp .Or (a :: b :: rest) pos) (tOr tt uu) (xOr TA' TB') := ⟨pw_or ha.1 hb.1, sim_or ha.2 hb.2⟩
theorem t_w (ha : WWX X XC Wx a tt TA') : TX X XC Wx a tt TA' := ⟨ha.1.pt, ha.2⟩
theorem t_not (ha : TX X XC Wx a tt TA') : TX X XC Wx (.UnaryOp .Not a pos) (tNot tt) (xNot TA') := ⟨pt_not ha.1, sim_not ha.2⟩
theorem d_one {op : PySem.BoolOp} (ha : EX X XC Wx a ta A) : EX X XC Wx (.BoolOp op [a] pos) ta A := ⟨pe_one ha.1, ha.2⟩
theorem d_and (ha : EX X XC Wx a ta A) (hb : EX X XC Wx (.BoolOp .And (b :: rest) pos) tb B) : EX X XC Wx (.BoolOp .And (a :: b :: rest) pos) (tAndV ta tb) (xAndV A B) := ⟨pe_and ha.1 hb.1, sim_andV ha.2 hb.2⟩
theorem d_or (ha : EX X XC Wx a ta A) (hb : EX X XC Wx (.BoolOp .Or (b :: rest) pos) tb B) : EX X XC Wx (.BoolOp .Or (a :: b :: rest) pos) (tOrV ta tb) (xOrV A B) := ⟨pe_or ha.1 hb.1, sim_orV ha.2 hb.2⟩
theorem d_not (ha : EX X XC Wx a ta A) : EX X XC Wx (.UnaryOp .Not a pos) (tNotV ta) (xNotV A) := ⟨pe_not ha.1, sim_notV ha.2⟩
theorem d_orT (ha : EX X XC Wx a ta A) (hb : EX X XC Wx (.BoolOp .Or (b :: rest) pos) tb B) : EX X XC Wx (.BoolOp .Or (a :: b :: rest) pos) (tOrT X.K ta tb) (xOrT A B) := ⟨pe_orT ha.1 hb.1, sim_orT ha.2 hb.2⟩
theorem d_ifExp (hc : TX X XC Wx c tt TA') (ha : EX X XC Wx a ta A) (hb : EX X XC Wx b tb B) : EX X XC Wx (.IfExp c a b pos) (tIf tt ta tb) (xIf TA' A B) := ⟨pe_ifExp hc.1 ha.1 hb.1, sim_if hc.2 ha.2 hb.2⟩
theorem a_nil : AX X XC Wx [] tNil xNil := ⟨pa_nil, sim_nil⟩
theorem a_cons (ha : EX X XC Wx e te A) (hr : AX X XC Wx es t TT') (hs : starEach (e :: es) X.env = (false, eval e X.env) :: starEach es X.env := by rfl) : AX X XC Wx (e :: es) (tCons te t) (xCons A TT') := ⟨pa_cons ha.1 hr.1 hs, sim_cons ha.2 hr.2⟩
theorem d_tup {k : Nat} (h : AX X XC Wx es t TT') : EX X XC Wx (.Tuple es k pos) (tTup t) (xTup TT') := ⟨pe_tup h.1, sim_tup h.2⟩
theorem d_lst (h : AX X XC Wx es t TT') : EX X XC Wx (.List es pos) (tLst t) (xLst TT') := ⟨pe_lst h.1, sim_lst h.2⟩
theorem d_lstC (h : AX X XC Wx es t TT') : EX X XC Wx (.List es pos) (tLst t) (xLstC TT') := ⟨pe_lst h.1, sim_lstC h.2⟩
theorem d_ix (ha : EX X XC Wx a ta A) (hb : EX X XC Wx b tb B) (hs : PlainIx b := by exact fun _ _ => rfl) : EX X XC Wx (.Subscript a b pos) (tOp (rIx X.K) ta tb) (xOp fIx A B) := ⟨pe_ix ix_seq ha.1 hb.1 hs, sim_op sim_ix ha.2 hb.2⟩
theorem o_none : OX X XC Wx none tNoPart xNoPart := ⟨po_none, simo_none⟩
theorem o_some (h : EX X XC Wx e te A) : OX X XC Wx (some e) (tPart te) (xPart A) := ⟨po_some h.1, simo_some h.2⟩
theorem d_sl {lo hi : Option Expr} {tl th : TO} {L U : En → Mu → Res (Option Int)} (he : EX X XC Wx e te A) (hl : OX X XC Wx lo tl L) (hu : OX X XC Wx hi th U) : EX X XC Wx (.Subscript e (.Slice lo hi none p) pos) (tSl (rSlAny X.K) te tl th) (xSl A L U) :=
  ⟨pe_slice sl_any he.1 hl.1 hu.1, sim_sl he.2 hl.2 hu.2⟩
/-- a built-in function by its name -/
theorem d_cb {id : String} {r : List V → Hp → VK → Prop} {f : List D → Mu → Res D} (hc : CallR X (.builtin id) r) (hs : SimRC X.K r f) (hm : X.mg x = none) (hv : bootBuiltins x = some (.builtin id)) (ha : AX X XC Wx (e :: es) t TT') (hg : Gl X x := by rfl) (hn : x ≠ "__name__" := by decide) (hdb : (x == ("__debug__" : Str)) = false := by decide)
    (he : starEach (e :: es) X.env = (false, eval e X.env) :: starEach es X.env := by rfl) (hpl : (backTo pos (starEach es X.env)).any (·.1) = false := by rfl) : EX X XC Wx (.Call (.Name x p) (e :: es) [] pos) (tCB r t) (xCB f TT') :=
  ⟨pe_callB hc hg hm hv ha.1 hn hdb he hpl, sim_cb hs ha.2⟩
/-- a built-in class by its name -/
theorem d_ct {T : String} {r : List V → Hp → VK → Prop} {f : List D → Mu → Res D} (hc : CallR X (.type T) r) (hs : SimRC X.K r f) (hm : X.mg x = none) (hv : bootBuiltins x = some (.type T)) (ha : AX X XC Wx (e :: es) t TT') (hg : Gl X x := by rfl) (hn : x ≠ "__name__" := by decide) (hdb : (x == ("__debug__" : Str)) = false := by decide)
    (he : starEach (e :: es) X.env = (false, eval e X.env) :: starEach es X.env := by rfl) (hpl : (backTo pos (starEach es X.env)).any (·.1) = false := by rfl) : EX X XC Wx (.Call (.Name x p) (e :: es) [] pos) (tCB r t) (xCB f TT') :=
  ⟨pe_callTy hc hg hm hv ha.1 hn hdb he hpl, sim_cb hs ha.2⟩
theorem d_isi {T : String} {y : Str} {pr : D → Bool} {p2 : Pos} (hp : IsiT T pr) (hm : X.mg "isinstance" = none) (hmT : X.mg y = none) (hv : bootBuiltins y = some (.type T)) (ha : EX X XC Wx a ta A) (hg : Gl X "isinstance" := by rfl) (hgT : Gl X y := by rfl) (hn : y ≠ "__name__" := by decide) (hdb : (y == ("__debug__" : Str)) = false := by decide)
    (h1 : starEach [a, .Name y p2] X.env = (false, eval a X.env) :: starEach [.Name y p2] X.env := by rfl) (h2 : starEach [.Name y p2] X.env = (false, eval (.Name y p2) X.env) :: starEach [] X.env := by rfl) (hpl : (backTo pos (starEach [.Name y p2] X.env)).any (·.1) = false := by rfl) :
    EX X XC Wx (.Call (.Name "isinstance" p) [a, .Name y p2] [] pos) (tCB (rIsi X.K) (tCons ta (tCons (tC (.ty T)) tNil))) (xIsi pr A) :=
  ⟨pe_callB call_isi hg hm (by decide +kernel) (pa_cons ha.1 (pa_cons (pe_bltn hgT hmT hv rfl hn hdb) pa_nil h2) h1) (by decide) (by decide) h1 hpl, sim_isi hp ha.2⟩
theorem d_isi2 {T U : String} {y z : Str} {pr qr : D → Bool} {p2 p3 p4 : Pos} {k : Nat} (hp : IsiT T pr) (hq : IsiT U qr) (hm : X.mg "isinstance" = none) (hmT : X.mg y = none) (hmU : X.mg z = none) (hv : bootBuiltins y = some (.type T)) (hv2 : bootBuiltins z = some (.type U)) (ha : EX X XC Wx a ta A)
    (hg : Gl X "isinstance" := by rfl) (hgT : Gl X y := by rfl) (hgU : Gl X z := by rfl) (hn : y ≠ "__name__" := by decide) (hdb : (y == ("__debug__" : Str)) = false := by decide) (hn2 : z ≠ "__name__" := by decide) (hdb2 : (z == ("__debug__" : Str)) = false := by decide)
    (h1 : starEach [a, .Tuple [.Name y p2, .Name z p3] k p4] X.env = (false, eval a X.env) :: starEach [.Tuple [.Name y p2, .Name z p3] k p4] X.env := by rfl)
    (h2 : starEach [.Tuple [.Name y p2, .Name z p3] k p4] X.env = (false, eval (.Tuple [.Name y p2, .Name z p3] k p4) X.env) :: starEach [] X.env := by rfl)
    (h3 : starEach [.Name y p2, .Name z p3] X.env = (false, eval (.Name y p2) X.env) :: starEach [.Name z p3] X.env := by rfl) (h4 : starEach [.Name z p3] X.env = (false, eval (.Name z p3) X.env) :: starEach [] X.env := by rfl)
    (hpl : (backTo pos (starEach [.Tuple [.Name y p2, .Name z p3] k p4] X.env)).any (·.1) = false := by rfl) :
    EX X XC Wx (.Call (.Name "isinstance" p) [a, .Tuple [.Name y p2, .Name z p3] k p4] [] pos) (tCB (rIsiT X.K) (tCons ta (tCons (tTup (tCons (tC (.ty T)) (tCons (tC (.ty U)) tNil))) tNil))) (xIsi (fun d => pr d || qr d) A) :=
  ⟨pe_callB call_isiT hg hm (by decide +kernel) (pa_cons ha.1 (pa_cons (pe_tup (pa_cons (pe_bltn hgT hmT hv rfl hn hdb) (pa_cons (pe_bltn hgU hmU hv2 rfl hn2 hdb2) pa_nil h4) h3)) pa_nil h2) h1) (by decide) (by decide) h1 hpl, sim_isi2 hp hq ha.2⟩
/-- a def of the text -/
theorem d_call {k n : Nat} {f : Addr} {fd : FuncData} {ps : List Str} {F : FD} (Fn : FnOk X.prog X.w X.K X.mg X.base (L2.CX X.prog X.w) k f fd ps (spD X.K XC ps.length F)) (hr : Room k X.A) (hm : X.mg x = some (.ref f)) (hk : PySem.W.keepIn X.K (.ref f) = true) (hb : Binds X.K fd ps [])
    (tk : Takes X Wx) (ha : AX X XC Wx (e :: es) t TT') (hn : ps.length = n := by rfl) (hg : Gl X x := by rfl) (hdb : (x == ("__debug__" : Str)) = false := by decide) (he : starEach (e :: es) X.env = (false, eval e X.env) :: starEach es X.env := by rfl) (hpl : (backTo pos (starEach es X.env)).any (·.1) = false := by rfl) :
    EX X XC Wx (.Call (.Name x p) (e :: es) [] pos) (tCallS (spD X.K XC n F) (WE Wx) t) (xCall n F TT') := by
  subst hn
  exact ⟨pe_callS Fn hr hg hm hk hb (fun σ => passAt tk σ) ha.1 hdb he hpl, sim_call ha.2⟩
theorem d_app {q : Pos} (ho : EX X XC Wx a ta A) (ha : EX X XC Wx b tb B) (hbase : attributeBase a "append" X.env (eval a X.env) = eval a X.env := by rfl)
    (hfew : ((backTo pos (starEach [b] X.env)).all (fun x => !x.1) && (backToKw pos (keywordEach [] X.env)).all (fun x => x.1.isSome) && decide (([b] : List Expr).length + ([] : List Keyword).length + (if ([] : List Keyword).isEmpty then 0 else 1) < 30)) = true := by rfl)
    (hline : (q.endLine == pos.line) = true := by rfl) (hs : starEach [b] X.env = (false, eval b X.env) :: starEach [] X.env := by rfl) (hpl : (backTo pos (starEach [] X.env)).any (·.1) = false := by rfl) :
    EX X XC Wx (.Call (.Attribute a "append" q) [b] [] pos) (tBM X.K "list" rAppend ta (tCons tb tNil)) (xMt fApp A (xCons B xNil)) :=
  ⟨pe_bm PySem.F.plainAttrs_list PySem.F.slot_list_append PySem.F.type_list_append mt_append ho.1 (pa_cons ha.1 pa_nil hs) hbase hfew hline hs hpl, sim_mt does_app ho.2 (sim_cons ha.2 sim_nil)⟩
theorem d_ext {q : Pos} (ho : EX X XC Wx a ta A) (ha : EX X XC Wx b tb B) (hbase : attributeBase a "extend" X.env (eval a X.env) = eval a X.env := by rfl)
    (hfew : ((backTo pos (starEach [b] X.env)).all (fun x => !x.1) && (backToKw pos (keywordEach [] X.env)).all (fun x => x.1.isSome) && decide (([b] : List Expr).length + ([] : List Keyword).length + (if ([] : List Keyword).isEmpty then 0 else 1) < 30)) = true := by rfl)
    (hline : (q.endLine == pos.line) = true := by rfl) (hs : starEach [b] X.env = (false, eval b X.env) :: starEach [] X.env := by rfl) (hpl : (backTo pos (starEach [] X.env)).any (·.1) = false := by rfl) :
    EX X XC Wx (.Call (.Attribute a "extend" q) [b] [] pos) (tBM X.K "list" rExtend ta (tCons tb tNil)) (xMt fExt A (xCons B xNil)) :=
  ⟨pe_bm PySem.F.plainAttrs_list PySem.F.slot_list_extend PySem.F.type_list_extend mt_extend ho.1 (pa_cons ha.1 pa_nil hs) hbase hfew hline hs hpl, sim_mt does_ext ho.2 (sim_cons ha.2 sim_nil)⟩
/-! ### targets -/
theorem g_name (i : Nat) (hN : X.N.Nodup) (hi : X.N[i]? = some x := by rfl) (hx : Loc X.env.scope x := by first | exact Or.inl rfl | exact Or.inr rfl) (hf : X.fn x = true ∨ X.env.scope.names.lookup x = some .local := by first | exact .inl rfl | exact .inr rfl) : GX X XC Wx [i] (.Name x p) (gName i) (xgName i) :=
  ⟨pg_name hN hi hx hf, simg_name⟩
theorem gs_nil : GsX X XC Wx [] [] gNil xgNil := ⟨pgs_nil, simg_nil⟩
theorem gs_cons {js ks : List Nat} {g : TG} {gr : TGs} {G : D → En → Mu → Res En} {Gr : List D → En → Mu → Res En} (h1 : GX X XC Wx js e g G) (h2 : GsX X XC Wx ks es gr Gr) (hs : (assignEach (e :: es) X.env).map (·.2) = assign e X.env :: (assignEach es X.env).map (·.2) := by rfl) : GsX X XC Wx (js ++ ks) (e :: es) (gCons g gr) (xgCons G Gr) :=
  ⟨pgs_cons h1.1 h2.1 hs, simg_cons h1.2 h2.2⟩
theorem g_tup {js : List Nat} {g : TGs} {G : List D → En → Mu → Res En} {k n : Nat} (hc : X.calm = true) (h : GsX X XC Wx js es g G) (hn : (assignEach es X.env).length = n := by rfl) (hst : (assignEach es X.env).findIdx? (·.1) = none := by rfl) : GX X XC Wx js (.Tuple es k pos) (gTup X.K n g) (xgTup n G) :=
  ⟨pg_tup hc h.1 hn hst, simg_tup h.2⟩
theorem g_sub {o i : Expr} {to ti : TE} {To Ti : TEd} (ho : EX X XC W0 o to To) (hi : EX X XC W0 i ti Ti) (ha : ∀ v, assign (.Subscript o i pos) X.env v = (do
      let ov ← holding [v] (eval o X.env)
      let iv ← holding [v, ov] (eval i X.env)
      standAt pos
      holding [v, ov, iv] (setItem ov iv v)
      release [v, ov, iv] []) := by intro _; rfl) : GX X XC Wx [] (.Subscript o i pos) (gSub to ti rSetL) (xgSub To Ti) := ⟨pg_sub ho.1 hi.1 set_list ha, simg_sub ho.2 hi.2⟩
/-! ### what is walked -/
theorem i_seq {tg : Expr} (h : EX X XC Wx e te A) : IX X XC Wx tg e (iSeq X.K te) (xSeq1 A) := ⟨pi_seq h.1, simi_seq h.2⟩
theorem i_rg1 {tg : Expr} (hm : X.mg "range" = none) (ha : AX X XC Wx [a] t TT') (hg : Gl X "range" := by rfl) (hs : starEach [a] X.env = [(false, eval a X.env)] := by rfl) : IX X XC Wx tg (.Call (.Name "range" p) [a] [] pos) (iRng1 t) (xRg1 TT') := ⟨pi_range1 hg hm ha.1 hs, simi_rg1 ha.2⟩
theorem i_rg2 {tg : Expr} (hm : X.mg "range" = none) (ha : AX X XC Wx [a, b] t TT') (hg : Gl X "range" := by rfl) (hs : starEach [a, b] X.env = [(false, eval a X.env), (false, eval b X.env)] := by rfl) (hs2 : starEach [b] X.env = [(false, eval b X.env)] := by rfl) :
    IX X XC Wx tg (.Call (.Name "range" p) [a, b] [] pos) (iRng2 t) (xRg2 TT') := ⟨pi_range2 hg hm ha.1 hs hs2, simi_rg2 ha.2⟩
theorem i_en {elts : List Expr} {kk : Nat} {tpos : Pos} (hm : X.mg "enumerate" = none) (h : EX X XC Wx e te A) (hg : Gl X "enumerate" := by rfl) (hs : starEach [e] X.env = (false, eval e X.env) :: starEach [] X.env := by rfl) : IX X XC Wx (.Tuple elts kk tpos) (.Call (.Name "enumerate" p) [e] [] pos) (iEn X.K te) (xEn A) :=
  ⟨pi_en hg hm h.1 hs, simi_en h.2⟩
theorem i_zp {elts : List Expr} {kk : Nat} {tpos : Pos} (hm : X.mg "zip" = none) (ha : AX X XC Wx [a, b] t TT') (hg : Gl X "zip" := by rfl) (hs : starEach [a, b] X.env = (false, eval a X.env) :: starEach [b] X.env := by rfl) (hpl : (backTo pos (starEach [b] X.env)).any (·.1) = false := by rfl) :
    IX X XC Wx (.Tuple elts kk tpos) (.Call (.Name "zip" p) [a, b] [] pos) (iZp X.K t) (xZp TT') := ⟨pi_zp hg hm ha.1 hs hpl, simi_zp ha.2⟩
theorem i_ez {elts : List Expr} {kk : Nat} {tpos p2 pos2 : Pos} (hm : X.mg "enumerate" = none) (hmz : X.mg "zip" = none) (ha : AX X XC Wx [a, b] t TT') (hg : Gl X "enumerate" := by rfl) (hgz : Gl X "zip" := by rfl) (hs : starEach [a, b] X.env = (false, eval a X.env) :: starEach [b] X.env := by rfl) (hpl : (backTo pos2 (starEach [b] X.env)).any (·.1) = false := by rfl)
    (hsz : starEach [.Call (.Name "zip" p2) [a, b] [] pos2] X.env = (false, eval (.Call (.Name "zip" p2) [a, b] [] pos2) X.env) :: starEach [] X.env := by rfl) :
    IX X XC Wx (.Tuple elts kk tpos) (.Call (.Name "enumerate" p) [.Call (.Name "zip" p2) [a, b] [] pos2] [] pos) (iEz X.K t) (xEz TT') := ⟨pi_ez hg hm hgz hmz ha.1 hs hpl hsz, simi_ez ha.2⟩
/-! ### comprehensions -/
theorem xs_in {js vs : List Nat} (h : js.all (fun j => vs.contains j) = true) : ∀ j ∈ js, j ∈ vs := fun j hj => by
  have := List.all_eq_true.mp h j hj
  simpa using this
def PsX (X : Cx) (XC : Nat → Addr) (ifs : List Expr) (t : TT) (T : TTd) : Prop := PTs X ifs t ∧ SimT X.K XC W0 t T
theorem ts_nil : PsX X XC [] tYes xYes := ⟨pts_nil, sim_yes⟩
theorem ts_one (h : TX X XC W0 c tt TA') : PsX X XC [c] tt TA' := ⟨pts_one h.1, h.2⟩
theorem d_lc {elt tg iter : Expr} {ifs : List Expr} {scope : Scope} {own : List (Str × Nat)} {vs : List Nat} {wi : TI} {g : Shared → Hp → Addr → List (Str × Addr) → List Addr → TG} {tt : Shared → Hp → Addr → List (Str × Addr) → List Addr → TT} {te : Shared → Hp → Addr → List (Str × Addr) → List Addr → TE} {Ti : En → Mu → Res (List D)} {js : List Nat} {G : D → En → Mu → Res En} {Tt : TTd} {Te : TEd} (hc : X.calm = true) (hN : X.N.Nodup) (hi : IX X XC Wx tg iter wi Ti) (ok : BlkOk X.N X.env.scope scope own)
    (hg : ∀ (s : Shared) (H : Hp) (C : Addr) (cl : List (Str × Addr)) (fp : List Addr), GX (X.blk s H scope (compEnvC scope cl C X.env) fp) XC Wx js tg (g s H C cl fp) G) (ht : ∀ (s : Shared) (H : Hp) (C : Addr) (cl : List (Str × Addr)) (fp : List Addr), PsX (X.blk s H scope (compEnvC scope cl C X.env) fp) XC ifs (tt s H C cl fp) Tt)
    (he : ∀ (s : Shared) (H : Hp) (C : Addr) (cl : List (Str × Addr)) (fp : List Addr), EX (X.blk s H scope (compEnvC scope cl C X.env) fp) XC W0 elt (te s H C cl fp) Te) (hk : (∀ s H C cl fp, g s H C cl fp = g X.s_0 X.H_0 0 [] []) ∧ (∀ s H C cl fp, tt s H C cl fp = tt X.s_0 X.H_0 0 [] []) ∧ ∀ s H C cl fp, te s H C cl fp = te X.s_0 X.H_0 0 [] [] := by exact ⟨fun _ _ _ _ _ => rfl, fun _ _ _ _ _ => rfl, fun _ _ _ _ _ => rfl⟩) (hv : own.map (·.2) = vs := by rfl) (hj : js.all (fun j => vs.contains j) = true := by decide) (hs : ∀ x, foldedSetIterable iter X.env x = pure x := by intro _; rfl) :
    EX X XC Wx (.ListComp elt [⟨tg, iter, ifs, 0⟩] scope pos) (tLc wi (g X.s_0 X.H_0 0 [] []) (tt X.s_0 X.H_0 0 [] []) (te X.s_0 X.H_0 0 [] []) vs) (xLc Ti G Tt Te vs) := by
  subst hv
  have hg' := fun s H C cl fp => hk.1 s H C cl fp ▸ hg s H C cl fp
  have ht' := fun s H C cl fp => hk.2.1 s H C cl fp ▸ ht s H C cl fp
  have he' := fun s H C cl fp => hk.2.2 s H C cl fp ▸ he s H C cl fp
  exact ⟨pe_lc hc hN hi.1 ok (fun s H C cl fp => (hg' s H C cl fp).1) (fun s H C cl fp => (ht' s H C cl fp).1) (fun s H C cl fp => (he' s H C cl fp).1) hs, sim_lc hi.2 (hg X.s_0 X.H_0 0 [] []).2 (ht X.s_0 X.H_0 0 [] []).2 (he X.s_0 X.H_0 0 [] []).2 (xs_in hj)⟩
/-- name = [..] -/
theorem s_setLc {i : Nat} {y : Str} {py spos : Pos} {elt tg iter : Expr} {ifs : List Expr} {scope : Scope} {own : List (Str × Nat)} {vs : List Nat} {wi : TI} {g : Shared → Hp → Addr → List (Str × Addr) → List Addr → TG} {tt : Shared → Hp → Addr → List (Str × Addr) → List Addr → TT} {te : Shared → Hp → Addr → List (Str × Addr) → List Addr → TE} {Ti : En → Mu → Res (List D)} {js : List Nat} {G : D → En → Mu → Res En} {Tt : TTd} {Te : TEd} (hc : X.calm = true) (hN : X.N.Nodup) (hy : X.N[i]? = some y) (hyl : X.env.scope.names.lookup y = some .local)
    (hsw : swapsWith (.ListComp elt [⟨tg, iter, ifs, 0⟩] scope pos) (some (.Name y py)) spos.line X.env = pure true) (hi : IX X XC Wx tg iter wi Ti) (ok : BlkOk X.N X.env.scope scope own)
    (hg : ∀ (s : Shared) (H : Hp) (C : Addr) (cl : List (Str × Addr)) (fp : List Addr), GX (X.blk s H scope (compEnvC scope cl C X.env) fp) XC Wx js tg (g s H C cl fp) G) (ht : ∀ (s : Shared) (H : Hp) (C : Addr) (cl : List (Str × Addr)) (fp : List Addr), PsX (X.blk s H scope (compEnvC scope cl C X.env) fp) XC ifs (tt s H C cl fp) Tt)
    (he : ∀ (s : Shared) (H : Hp) (C : Addr) (cl : List (Str × Addr)) (fp : List Addr), EX (X.blk s H scope (compEnvC scope cl C X.env) fp) XC W0 elt (te s H C cl fp) Te) (hk : (∀ s H C cl fp, g s H C cl fp = g X.s_0 X.H_0 0 [] []) ∧ (∀ s H C cl fp, tt s H C cl fp = tt X.s_0 X.H_0 0 [] []) ∧ ∀ s H C cl fp, te s H C cl fp = te X.s_0 X.H_0 0 [] [] := by exact ⟨fun _ _ _ _ _ => rfl, fun _ _ _ _ _ => rfl, fun _ _ _ _ _ => rfl⟩) (hv : own.map (·.2) = vs := by rfl) (hj : js.all (fun j => vs.contains j) = true := by decide) (hs : ∀ x, foldedSetIterable iter X.env x = pure x := by intro _; rfl) :
    SX' X XC Wx (.Assign [.Name y py] (.ListComp elt [⟨tg, iter, ifs, 0⟩] scope pos) spos) (tAsg (tLc wi (g X.s_0 X.H_0 0 [] []) (tt X.s_0 X.H_0 0 [] []) (te X.s_0 X.H_0 0 [] []) vs) (gName i)) (xAsg (xLc Ti G Tt Te vs) (xgName i)) := by
  subst hv
  have hg' := fun s H C cl fp => hk.1 s H C cl fp ▸ hg s H C cl fp
  have ht' := fun s H C cl fp => hk.2.1 s H C cl fp ▸ ht s H C cl fp
  have he' := fun s H C cl fp => hk.2.2 s H C cl fp ▸ he s H C cl fp
  exact ⟨ps_setLc hc hN hy hyl hsw hi.1 ok (fun s H C cl fp => (hg' s H C cl fp).1) (fun s H C cl fp => (ht' s H C cl fp).1) (fun s H C cl fp => (he' s H C cl fp).1) hs, sim_asg (sim_lc hi.2 (hg X.s_0 X.H_0 0 [] []).2 (ht X.s_0 X.H_0 0 [] []).2 (he X.s_0 X.H_0 0 [] []).2 (xs_in hj)) simg_name⟩
/-! ### statements -/
variable {st : Stmt} {sts : List Stmt} {ts us : TS} {TS1 TS2 : TSd}
theorem b_nil : BX X XC Wx [] tNext xNext := ⟨pss_nil, sim_next⟩
theorem b_one (h : SX' X XC Wx st ts TS1) : BX X XC Wx [st] ts TS1 := ⟨pss_one h.1, h.2⟩
theorem b_cons (h : SX' X XC Wx st ts TS1) (hr : BX X XC Wx sts us TS2) : BX X XC Wx (st :: sts) (tSeq ts us) (xSeq TS1 TS2) := ⟨pss_cons h.1 hr.1, sim_seq h.2 hr.2⟩
theorem b_frz (i : Nat) (h : BX X XC Wx sts ts TS1) : BX X XC Wx sts ts (xFrz i TS1) := ⟨h.1, sim_frz i h.2⟩
theorem s_expr (he : EX X XC Wx e te A) (hs : swapsWith e none pos.line X.env = pure false := by rfl) : SX' X XC Wx (.Expr e pos) (tDrop te) (xDrop A) := ⟨ps_expr he.1 hs, sim_drop he.2⟩
theorem s_ret (he : EX X XC Wx e te A) : SX' X XC Wx (.Return (some e) pos) (tRet te) (xRet A) := ⟨ps_ret he.1, sim_ret he.2⟩
theorem s_pass : SX' X XC Wx (.Pass pos) tNext xNext := ⟨ps_pass, sim_next⟩
theorem s_break : SX' X XC Wx (.Break pos) tBreak xBreak := ⟨ps_break, sim_break⟩
theorem s_cont : SX' X XC Wx (.Continue pos) tCont xCont := ⟨ps_continue, sim_cont⟩
theorem s_never : SX' X XC Wx st tNever xNever := ⟨ps_never, sim_never⟩
theorem s_set (i : Nat) (hN : X.N.Nodup) (he : EX X XC Wx e te A) (hi : X.N[i]? = some x := by rfl) (hx : Loc X.env.scope x := by first | exact Or.inl rfl | exact Or.inr rfl) (hs : swapsWith e (some (.Name x p)) pos.line X.env = pure false := by rfl)
    (hf : X.fn x = true ∨ X.env.scope.names.lookup x = some .local := by first | exact .inl rfl | exact .inr rfl) : SX' X XC Wx (.Assign [.Name x p] e pos) (tAsg te (gName i)) (xAsg A (xgName i)) := ⟨ps_set hN hi hx he.1 hs hf, sim_asg he.2 simg_name⟩
theorem s_asg {tg : Expr} {js : List Nat} {g : TG} {G : D → En → Mu → Res En} (he : EX X XC Wx e te A) (hg : GX X XC Wx js tg g G) (hs : swapsWithSole [tg] e pos.line X.env = pure false := by rfl) (hw : swappedStores [tg] e X.env = pure none := by rfl)
    (h1 : (assignEach [tg] X.env).map (·.2) = [assign tg X.env] := by rfl) : SX' X XC Wx (.Assign [tg] e pos) (tAsg te g) (xAsg A G) := ⟨ps_asg he.1 hg.1 hs hw h1, sim_asg he.2 hg.2⟩
theorem s_if (hc : TX X XC Wx c tt TA') (ha : BX X XC Wx sts ts TS1) {sts2 : List Stmt} (hb : BX X XC Wx sts2 us TS2) : SX' X XC Wx (.If c sts sts2 pos) (tIfS tt ts us) (xIfS TA' TS1 TS2) := ⟨ps_if hc.1 ha.1 hb.1, sim_ifS hc.2 ha.2 hb.2⟩
theorem s_for {tg iter : Expr} {wi : TI} {g : TG} {Ti : En → Mu → Res (List D)} {js : List Nat} {G : D → En → Mu → Res En} (hp : PassesOwn (model X.prog X.w) X.A X.env X.xe) (hc : X.calm = true) (hi : IX X XC Wx tg iter wi Ti) (hg : GX X XC Wx js tg g G) (hb : BX X XC Wx sts ts TS1) (hs : ∀ x, foldedSetIterable iter X.env x = pure x := by intro _; rfl) :
    SX' X XC Wx (.For tg iter sts [] pos) (tFor wi g ts) (xFor Ti G TS1) := ⟨ps_for hp hc hi.1 hg.1 hb.1 hs, sim_for hi.2 hg.2 hb.2⟩
theorem s_while (fu : En → Mu → Nat) (hp : PassesOwn (model X.prog X.w) X.A X.env X.xe) (hc : TX X XC Wx c tt TA') (hb : BX X XC Wx sts ts TS1) : SX' X XC Wx (.While c sts [] pos) (tWhile tt ts) (xWhile fu TA' TS1) := ⟨ps_while hp hc.1 hb.1, sim_while fu hc.2 hb.2⟩
theorem s_aug {op : Operator} (i : Nat) {r : TIp} {f : D → D → Mu → Res D} (hN : X.N.Nodup) (he : EX X XC Wx e te A) (ho : PIp X op r) (hs : SimR2 X.K r f) (hi : X.N[i]? = some x := by rfl) (hx : Loc X.env.scope x := by first | exact Or.inl rfl | exact Or.inr rfl) (hf : X.fn x = true ∨ X.env.scope.names.lookup x = some .local := by first | exact .inl rfl | exact .inr rfl) : SX' X XC Wx (.AugAssign (.Name x p) op e pos) (tAug i te r) (xAug i f A) :=
  ⟨ps_aug hN hi hx he.1 ho hf, sim_aug he.2 hs⟩
end
end DL
end
section
set_option maxRecDepth 100000
set_option maxHeartbeats 4000000
/-! DSet: set(ints) of a list or tuple, sorted of a tuple, sorted(set(..)), len(set(..)). -/
namespace L2
open PySem PySem.Spec PyProof.Rows
section
variable {P : Program} {w : World} {A : Around} {E : Value → Shared → Prop} {s : Shared}
set_option maxRecDepth 100000 in
set_option maxHeartbeats 3200000 in
theorem set_of_list {l : Addr} {items : Array Value} (ns : List Int) {Q : Value → Shared → Prop} (hh : A.handled = none) (hl : s.heap.IsList l items) (hit : IntsAre items.toList ns) (hb : ns.length + 1 < scanBound)
    (h : ∀ (h' : Heap) (tk c : Nat), SetR w h' s.heap.objs.size (fun j => decide (j ∈ ns)) c → c ≤ ns.length → (∀ b o, s.heap.get? b = some o → h'.get? b = some o) → Q (.ref s.heap.objs.size) { s with heap := h', toks := tk }) :
    wpAny (model P w) A (call (.type "set") [.ref l]) Q E s := by
  have hisz : items.size = ns.length := by
    have q := IntsAre.length hit
    rw [Array.length_toList] at q
    exact q
  obtain ⟨c, tl, hmro⟩ := F.called_set.mro
  have hmade := F.called_set.made
  have hsub := F.called_set.sub
  refine wpAny_call (codeAny_of_tree ?_)
  show wpAny _ _ (callAny (.type "set") _) _ _ _
  refine wpAny_pure ⟨Code.quiet_builtin _ (by decide +kernel), codeAny_builtin F.entry_type_call ?_⟩
  rw [Around.under_plain (weight_type_call_type "set" [.ref l] []) rfl]
  have h1 := F.called_set.notType
  have h2 := F.called_set.canCreate
  have hct := F.typeCall_set_1 (.ref l)
  repeat (any_goals (first | assumption | wp_step))

  refine codeAny_mono (code_set_led1 (.ref l) (E := E) (Q₁ := fun obj s₁ => obj = .ref s.heap.objs.size ∧ s₁ = { s with heap := s.heap.push { cls := .type "set", dict := none, data := .set #[] 0 (.fresh 0 0 (!w.params.followText "set-order")) } }) ⟨rfl, rfl⟩) fun r s₁ hr => ?_
  cases r with
  | error e => exact hr
  | ok fl =>
    cases fl with
    | ret obj =>
      obtain ⟨rfl, rfl⟩ := hr
      have hS : (s.heap.push { cls := .type "set", dict := none, data := .set #[] 0 (.fresh 0 0 (!w.params.followText "set-order")) }).get? s.heap.objs.size = some { cls := .type "set", dict := none, data := .set #[] 0 (.fresh 0 0 (!w.params.followText "set-order")) } := Heap.get?_push_size _ rfl
      have hT : Shared.TypeIs { s with heap := s.heap.push { cls := .type "set", dict := none, data := .set #[] 0 (.fresh 0 0 (!w.params.followText "set-order")) } } (.ref s.heap.objs.size) "set" := ⟨_, hS, rfl⟩
      have hli := F.called_set.init.lookup
      have hbi := F.called_set.init.bind (.ref s.heap.objs.size)
      repeat (any_goals (first | assumption | wp_step))

      refine codeAny_mono (codeAny_call_builtin (R := wants (fun r s₂ => r = .none ∧ ∃ h' tk c, s₂ = { s with heap := h', toks := tk } ∧ SetR w h' s.heap.objs.size (fun j => decide (j ∈ ns)) c ∧ c ≤ ns.length ∧
          (∀ b o, s.heap.get? b = some o → h'.get? b = some o)) E) F.called_set.init.plain F.entry_set_init (check_set_init_1 hT ?_)) fun r₂ s₂ hr₂ => ?_
      · obtain ⟨ol, hol, hcl, nl, hdl⟩ := hl
        obtain ⟨ocls, odict, odata, oslots⟩ := ol
        simp only at hcl hdl
        subst hcl; subst hdl
        have hol' : (s.heap.push { cls := .type "set", dict := none, data := .set #[] 0 (.fresh 0 0 (!w.params.followText "set-order")) }).get? l = some { cls := .type "list", dict := odict, data := .seq items nl, slots := oslots } := Heap.get?_push_of_some _ hol
        have hsls := F.sub_list_set
        have hslf := F.sub_list_frozenset
        have hne : (Value.type "list" == Value.type "dict") = false := by decide
        have hl1 : (s.heap.push { cls := .type "set", dict := none, data := .set #[] 0 (.fresh 0 0 (!w.params.followText "set-order")) }).IsList l items := ⟨_, hol', rfl, nl, rfl⟩
        unfold Builtin.«set.__init__» noKeywords Builtin.Frozenset.updateFrom
        generalize hPI : pyIter = PI
        wp_walk
        subst hPI

        refine wpAny_pyIter_list hl1 ?_
        refine wpAny_bind (wpAny_runValue ?_)
        have hlS : l < s.heap.objs.size := Heap.lt_size hol
        have hh3 : A.in1.in1.in1.handled = none := by simp [hh]
        have hz1 : (s.heap.push { cls := .type "set", dict := none, data := .set #[] 0 (.fresh 0 0 (!w.params.followText "set-order")) }).objs.size = s.heap.objs.size + 1 := Heap.size_push ..
        have hneI : l ≠ (s.heap.push { cls := .type "set", dict := none, data := .set #[] 0 (.fresh 0 0 (!w.params.followText "set-order")) }).objs.size := by
          rw [Heap.size_push]; exact Nat.ne_of_lt (Nat.lt_succ_of_lt hlS)
        have hSf : s.heap.objs.size ∉ [(s.heap.push { cls := .type "set", dict := none, data := .set #[] 0 (.fresh 0 0 (!w.params.followText "set-order")) }).objs.size, l] := by
          rw [Heap.size_push]; simp only [List.mem_cons, List.mem_singleton, List.not_mem_nil, or_false, not_or]
          exact ⟨Nat.ne_of_lt (Nat.lt_succ_self _), Nat.ne_of_gt hlS⟩
        have hval : ∀ (i : Nat) (v : Value), items[i]? = some v → ∃ k t, ns[i]? = some k ∧ v = .int k t := fun i v hv => by
          have hi : i < ns.length := by rw [← hisz]; exact (Array.getElem?_eq_some_iff.mp hv).1
          obtain ⟨t, e⟩ := PyProof.Rows.IntsAre.int_at hit i v (by rw [Array.getElem?_toList]; exact hv)
          refine ⟨ns[i], t, List.getElem?_eq_getElem hi, ?_⟩
          rw [e, List.getD_eq_getElem?_getD, List.getElem?_eq_getElem hi] <;> rfl
        refine set_update_ints ((Walks.list hh3 _ l hneI items).toS) s.heap.objs.size
          hSf ns hisz hb hval (items.size - 0) 0 _ (by omega) (Nat.zero_le _)
          ⟨⟨_, Heap.get?_push_size _ rfl, rfl, rfl⟩, (hl1.push _)⟩ ?hS0 ?hR
        case hS0 =>
          have hget : ((s.heap.push { cls := .type "set", dict := none, data := .set #[] 0 (.fresh 0 0 (!w.params.followText "set-order")) }).push { cls := .type "list_iterator", data := .fields #[.ref l, .int 0 0] }).get? s.heap.objs.size
              = some { cls := .type "set", dict := none, data := .set #[] 0 (.fresh 0 0 (!w.params.followText "set-order")) } := Heap.get?_push_of_some _ hS
          exact ⟨0, Nat.le_refl 0, setR_new_at hget⟩
        case hR =>
          intro s' c' hm hc' hS'
          obtain ⟨h', g2, d', tk', os'⟩ := s'
          have eg : g2 = s.gens := hm.gens
          have ed : d' = s.drawn := hm.drawn
          have eo : os' = s.os := hm.os
          subst eg; subst ed; subst eo
          show wpAny _ _ _ _ _ _
          refine wpAny_pure ?_
          show wpAny _ _ (ret Value.none) _ _ _
          rw [hisz] at hc'
          refine wpAny_pure ⟨rfl, h', tk', c', rfl, hS', hc', fun b o e => ?_⟩
          have hb0 : b < s.heap.objs.size := Heap.lt_size e
          have hb1 : b ≠ s.heap.objs.size := Nat.ne_of_lt hb0
          have hb2 : b ≠ (s.heap.push { cls := .type "set", dict := none, data := .set #[] 0 (.fresh 0 0 (!w.params.followText "set-order")) }).objs.size := by
            rw [Heap.size_push]; exact Nat.ne_of_lt (Nat.lt_succ_of_lt hb0)
          exact hm.heap b o (by simp only [List.mem_cons, List.mem_singleton, List.not_mem_nil, or_false, not_or]; exact ⟨hb1, hb2⟩) (Heap.get?_push_of_some _ (Heap.get?_push_of_some _ e))

      · cases r₂ with
        | error e => exact hr₂
        | ok fl₂ =>
          cases fl₂ with
          | ret r =>
            obtain ⟨rfl, h', tk, c', rfl, hS', hc', hk'⟩ := hr₂
            repeat (any_goals (first | assumption | wp_step))
            exact h _ _ _ hS' hc' hk'
          | _ => exact hr₂.elim
    | _ => exact hr.elim

end
section
variable {prog : Program} {w : World} {A : Around} {E : Value → Shared → Prop} {s : Shared}
theorem collect_tup {l : Addr} {vs : List Value} {Q : List Value → Shared → Prop} (hl : s.heap.IsTuple l vs.toArray)
    (h : Q vs { s with heap := (s.heap.push (seqObj "list" #[] 0)).update s.heap.objs.size (Obj.mapSeq (· ++ vs.toArray)) }) (hsz : vs.length ≤ sizeLine) :
    wpAny (model prog w) A (collect (.ref l)) Q E s := by
  obtain ⟨o, ho, hc, n, hd⟩ := id hl
  unfold collect
  refine wpAny_bind (wpAny_runValue (codeAny_builtin entry_proto_collect' ?_))
  show wpAny _ _ (do again (.builtin "list.__iadd__" ⟨[← newList [], .ref l], []⟩)) _ _ s
  refine wpAny_bind (wpAny_newList (wpAny_pure ⟨Code.quiet_builtin _ (by decide +kernel), codeAny_builtin entry_list_iadd' ?_⟩))
  show wpAny _ _ (Builtin.List.listExtendWith (.ref s.heap.objs.size) (.ref l) (.ref s.heap.objs.size)) _ _ { s with heap := s.heap.push (seqObj "list" #[] 0) }
  unfold Builtin.List.listExtendWith
  have ho' : (s.heap.push (seqObj "list" #[] 0)).get? l = some o := Heap.get?_push_of_some _ ho
  refine wpAny_bind (wpAny_typeOf (T := "tuple") ⟨o, ho', hc⟩ ?_)
  have ht : (Value.type "tuple" == Value.type "tuple") = true := by rfl
  rw [if_pos (by rw [ht]; simp)]
  refine wpAny_bind (listItems_at ho' hd ?_)
  refine wpAny_bind (listItems_at (xs := #[]) (n := 0) (Heap.get?_push_size _ rfl) rfl ?_)
  rw [if_neg (by simp)]
  refine wpAny_bind (listUpdate_at (xs := #[]) (n := 0) (Heap.get?_push_size _ rfl) rfl ?_ (Nat.zero_le _) (by show (#[] ++ vs.toArray).size ≤ sizeLine + 1; simp only [Array.size_append, List.size_toArray, List.length_nil]; omega))
  refine wpAny_pure ?_
  show wpAny (model prog w) A (do
      let o ← load s.heap.objs.size
      match o.data with
      | .seq xs _ => pure xs.toList
      | _ => unsupported "internal:collect") Q E { s with heap := (s.heap.push (seqObj "list" #[] 0)).update s.heap.objs.size (Obj.mapSeq (· ++ vs.toArray)) }
  refine wpAny_bind (wpAny_load (get?_update_seq (Heap.get?_push_size _ rfl) _) ?_)
  show wpAny _ _ (pure ((#[] : Array Value) ++ vs.toArray).toList) Q E _
  rw [show ((#[] : Array Value) ++ vs.toArray).toList = vs by simp]
  exact wpAny_pure h
theorem sorted_ordT {l : Addr} {vs : List Value} {ltv : Value → Value → Bool} {Q : Value → Shared → Prop} (O : SrtO.Swo ltv) (hl : s.heap.IsTuple l vs.toArray) (hz : vs.length ≤ sizeLine)
    (hS : 2 ≤ vs.length → ∀ (h₁ : Heap) (a : Addr), h₁.get? a = some (seqObj "list" vs.toArray 0) → (∀ b o, s.heap.get? b = some o → b ≠ a ∧ h₁.get? b = some o) → SrtO.SortableO prog w A.in1.in1 { s with heap := h₁ } a vs ltv)
    (h : ∀ out : List Value, SrtO.Srtd ltv out → SrtO.Stb ltv out vs → Q (.ref (s.heap.objs.size + 1)) { s with heap := sortedAll s.heap vs out.toArray }) :
    wpAny (model prog w) A (call (.builtin "sorted") [.ref l]) Q E s := by
  refine Calls.call_function_entry kind_sorted plain_sorted entry_sorted (args_sorted1 _) ?_
  unfold Builtin.«sorted»
  refine wpAny_bind (m := checkCount "sorted" 1 1 _) (wpAny_pure ?_)
  refine wpAny_bind (collect_tup hl ?_ hz)
  refine wpAny_bind (wpAny_newList ?_ hz)
  have hsz : ((s.heap.push (seqObj "list" #[] 0)).update s.heap.objs.size (Obj.mapSeq (· ++ vs.toArray))).objs.size = s.heap.objs.size + 1 := by
    rw [Heap.size_update, size_push']
  have hoL : (((s.heap.push (seqObj "list" #[] 0)).update s.heap.objs.size (Obj.mapSeq (· ++ vs.toArray))).push (seqObj "list" vs.toArray 0)).get? (s.heap.objs.size + 1) = some (seqObj "list" vs.toArray 0) := by
    rw [← hsz]; exact Heap.get?_push_size _ rfl
  have keep : ∀ b o, s.heap.get? b = some o → b ≠ s.heap.objs.size + 1 ∧ (((s.heap.push (seqObj "list" #[] 0)).update s.heap.objs.size (Obj.mapSeq (· ++ vs.toArray))).push (seqObj "list" vs.toArray 0)).get? b = some o := fun b o q => by
    have hlt : b < s.heap.objs.size := Heap.lt_size q
    refine ⟨Nat.ne_of_lt (Nat.lt_succ_of_lt hlt), Heap.get?_push_of_some _ ?_⟩
    rw [Heap.get?_update_ne _ _ _ _ (Nat.ne_of_lt hlt)]
    exact Heap.get?_push_of_some _ q
  show wpAny _ _ _ _ _ { s with heap := ((s.heap.push (seqObj "list" #[] 0)).update s.heap.objs.size (Obj.mapSeq (· ++ vs.toArray))).push (seqObj "list" vs.toArray 0) }
  rw [hsz]
  refine wpAny_bind (wpAny_holding (wpAny_call_entry slot_list_sort ⟨_, hoL, rfl⟩ entry_list_sort (SrtO.list_sort_ord O hoL hz (fun h2 => hS h2 _ _ hoL keep) fun out hs hb => ⟨_, rfl, ?_⟩) (args_list_sort _)))
  exact wpAny_pure ⟨_, rfl, h out hs hb⟩
end
/-- sorted(xs), ints, a list or a tuple -/
def rSortedA (K : PySem.W.Frag) : List V → Hp → VK → Prop := fun vs H Q => ∃ (a : Addr) (ns : List Int), vs = [V.ref a] ∧ (SqL K H a (ns.map V.int) ∨ SqT K H a (ns.map V.int)) ∧
  ∀ (ns' : List Int) (p : Addr), ns'.Perm ns → ns'.Pairwise (· ≤ ·) → H p = none → Q (.ref p) (upd H p (.lst (ns'.map V.int)))
/-- set(xs), ints -/
def rSetI (K : PySem.W.Frag) (w : World) : List V → Hp → VK → Prop := fun vs H Q => ∃ (a : Addr) (ns : List Int), vs = [V.ref a] ∧ (SqL K H a (ns.map V.int) ∨ SqT K H a (ns.map V.int)) ∧ ns.length ≤ 4000 ∧
  ∀ (c : Nat) (p : Addr), c ≤ ns.length → H p = none → Q (.ref p) (upd H p (SetO w p (fun j => decide (j ∈ ns)) c))
/-- len(s) of a set of ints -/
def rLenS (w : World) : List V → Hp → VK → Prop := fun vs H Q => ∃ (a : Addr) (ns : List Int) (c : Nat), vs = [V.ref a] ∧ H a = some (SetO w a (fun j => decide (j ∈ ns)) c) ∧ c ≤ 4000 ∧
  ((∀ ms : List Int, ms.Nodup → (∀ k, k ∈ ms ↔ k ∈ ns) → ms.length = c) → Q (.int c) H)
section
variable {X : Cx}
theorem cr_sortedA : CallR X (.builtin "sorted") (rSortedA X.K) := by
  intro pins s σ H vs us Q I r h
  obtain ⟨a, ns, rfl, hs | hs, q⟩ := h
  · exact cr_sortedI pins s σ H _ us Q I r ⟨a, ns, rfl, hs, q⟩
  obtain ⟨its, rv, hl, hz⟩ := I.tuple hs
  rw [Vals.ref1 r]
  have hi := rv.ints
  refine sorted_ordT SrtO.swo_int (show s.heap.IsTuple a its.toArray from hl) (by rw [← rv.length]; exact hz) (fun h2 h₁ a' _ _ => SrtO.ints_sortable hi h2) fun out h1 h2 => ?_
  obtain ⟨k1, k2, k3⟩ := SrtO.ints_out hi h1 h2
  obtain ⟨ep, he'⟩ := PyProof.Rows.sortedAll_at s.heap its out.toArray
  have hlen : ((out.map SrtO.iv).map V.int).length ≤ sizeLine := by
    rw [List.length_map, k2.length_eq]
    rw [List.length_map] at hz
    exact hz
  exact ⟨.ref _, upd H (s.heap.objs.size + 1) (.lst ((out.map SrtO.iv).map V.int)), I.laid (t' := s.toks) (fun _ _ => PyProof.Rows.sortedAll_old) (Nat.le_succ _) ⟨hlen, out, ep, vals_of_ints k1, he'⟩, rfl, q _ _ k2 k3 (I.hok.fresh (Nat.le_succ _))⟩
theorem cr_setI (hc : X.calm = true) : CallR X (.type "set") (rSetI X.K X.w) := by
  intro pins s σ H vs us Q I r h
  obtain ⟨a, ns, rfl, hs, hn, q⟩ := h
  rw [Vals.ref1 r]
  have hd := I.ok.hd hc
  have fin : ∀ (h' : Heap) (tk c : Nat), SetR X.w h' s.heap.objs.size (fun j => decide (j ∈ ns)) c → c ≤ ns.length → (∀ b o, s.heap.get? b = some o → h'.get? b = some o) → ∃ y H', Inv X pins σ H' { s with heap := h', toks := tk } ∧ RelV y (.ref s.heap.objs.size) ∧ Q y H' := fun h' tk c R hc k =>
    ⟨.ref s.heap.objs.size, upd H s.heap.objs.size (SetO X.w s.heap.objs.size (fun j => decide (j ∈ ns)) c), I.laid (t' := tk) k (Nat.le_refl _) (setO_new R), rfl, q c _ hc (I.hok.fresh (Nat.le_refl _))⟩
  rcases hs with hs | hs
  · obtain ⟨its, rv, hl, hz⟩ := I.list hs
    exact set_of_list ns hd hl.isList rv.ints (by unfold scanBound; omega) fun h' tk c R hc k => fin h' tk c R hc k
  · obtain ⟨its, rv, hl, hz⟩ := I.tuple hs
    exact call_set_tupI ns hd (show s.heap.IsTuple a its.toArray from hl) rv.ints (by unfold scanBound; omega) fun h' tk c R hc k => fin h' tk c R hc k
theorem cr_lenS : CallR X (.builtin "len") (rLenS X.w) := by
  intro pins s σ H vs us Q I r h
  obtain ⟨a, ns, c, rfl, ha, hn, q⟩ := h
  have R := setO_get I ha
  rw [Vals.ref1 r]
  obtain ⟨o, es, ep, t, ho, hex, hd, g, nd, hm, hb, hf, hc, hr, hl⟩ := R
  refine call_len_set ho hex hd hf (by rw [hc] <;> omega) ⟨.int c, H, I.tok _, ⟨_, by rw [hc]⟩, q fun ms hms hk => ?_⟩
  have pm : ms.Perm (es.toList.map keyOf) := (List.perm_ext_iff_of_nodup hms nd).mpr fun k => by
    rw [hk k, ← hm k, decide_eq_true_eq]
  rw [pm.length_eq, List.length_map, Array.length_toList, hc]
end
end L2
namespace DL
open PySem PySem.Spec PyProof.Rows L2
/-- ascending, each once -/
def sset : List Int → List Int
  | [] => []
  | x :: r => ins x (sset r)
where ins (x : Int) : List Int → List Int
  | [] => [x]
  | y :: r => if x < y then x :: y :: r else if x = y then y :: r else y :: ins x r
theorem sins_mem (x k : Int) : ∀ l : List Int, k ∈ sset.ins x l ↔ k = x ∨ k ∈ l
  | [] => by
    unfold sset.ins
    simp
  | y :: r => by
    unfold sset.ins
    split
    · simp
    · split
      · rename_i e
        simp [e]
      · rw [List.mem_cons, sins_mem x k r, List.mem_cons]
        constructor
        · rintro (z | z | z)
          · exact .inr (.inl z)
          · exact .inl z
          · exact .inr (.inr z)
        · rintro (z | z | z)
          · exact .inr (.inl z)
          · exact .inl z
          · exact .inr (.inr z)
theorem sset_mem (k : Int) : ∀ l : List Int, k ∈ sset l ↔ k ∈ l
  | [] => by
    unfold sset
    exact Iff.rfl
  | x :: r => by
    unfold sset
    rw [sins_mem, sset_mem k r, List.mem_cons]
theorem sins_sorted (x : Int) : ∀ {l : List Int}, l.Pairwise (· < ·) → (sset.ins x l).Pairwise (· < ·)
  | [], _ => by
    unfold sset.ins
    simp
  | y :: r, h => by
    unfold sset.ins
    rw [List.pairwise_cons] at h
    split
    · rename_i hxy
      refine List.pairwise_cons.mpr ⟨fun z hz => ?_, List.pairwise_cons.mpr h⟩
      rcases List.mem_cons.mp hz with e | hz
      · rw [e]
        exact hxy
      · have := h.1 z hz
        omega
    · split
      · exact List.pairwise_cons.mpr h
      · rename_i h1 h2
        refine List.pairwise_cons.mpr ⟨fun z hz => ?_, sins_sorted x h.2⟩
        rcases (sins_mem x z r).mp hz with e | hz
        · rw [e]
          omega
        · exact h.1 z hz
theorem sset_sorted : ∀ l : List Int, (sset l).Pairwise (· < ·)
  | [] => List.Pairwise.nil
  | x :: r => sins_sorted x (sset_sorted r)
theorem lt_le {l : List Int} (h : l.Pairwise (· < ·)) : l.Pairwise (· ≤ ·) := h.imp fun {a b} h => by omega
theorem lt_nodup {l : List Int} (h : l.Pairwise (· < ·)) : l.Nodup := h.imp fun {a b} h => by omega
theorem strict_one {a b : List Int} (ha : a.Pairwise (· < ·)) (hb : b.Pairwise (· < ·)) (h : ∀ k, k ∈ a ↔ k ∈ b) : a = b :=
  sorted_one ((List.perm_ext_iff_of_nodup (lt_nodup ha) (lt_nodup hb)).mpr h) (lt_le ha) (lt_le hb)
theorem sset_length : ∀ l : List Int, (sset l).length ≤ l.length
  | [] => Nat.le_refl _
  | x :: r => by
    have h : ∀ l : List Int, (sset.ins x l).length ≤ l.length + 1 := fun l => by
      induction l with
      | nil => unfold sset.ins; simp
      | cons y r ih =>
        unfold sset.ins
        split
        · simp
        · split
          · simp
          · simp only [List.length_cons]; omega
    have := h (sset r)
    have := sset_length r
    unfold sset
    simp only [List.length_cons]
    omega
/-- the numbers of a list or tuple of them -/
def numsM (μ : Mu) (d : D) : Option (List Int) := match seqM μ d with
  | some ds => intsD ds
  | none => none
theorem numsM_rep {K : PySem.W.Frag} {W : Wd} {μ : Mu} {d : D} {ns : List Int} {v : V} (h : StOk K W μ) (e : numsM μ d = some ns) (r : Rep K W.fp W.Hs d v) : ∃ a, v = .ref a ∧ (SqL K W.H a (ns.map V.int) ∨ SqT K W.H a (ns.map V.int)) := by
  unfold numsM at e
  cases e1 : seqM μ d with
  | none => rw [e1] at e; cases e
  | some ds =>
    rw [e1] at e
    dsimp only at e
    obtain ⟨a, us, rfl, ra, ha⟩ := seqM_any h e1 r
    have ed := intsD_inv e
    subst ed
    have eu := ints_reps ra
    subst eu
    exact ⟨a, rfl, ha⟩
def fSortedA (xs : List D) (μ : Mu) : Res D := match xs with
  | [d] => (match numsM μ d with
    | some ns => .ok (.lst (nums (isort ns))) μ
    | none => .no)
  | _ => .no
section
variable {K : PySem.W.Frag} {w : World} {XC : Nat → Addr} {Wx : WX}
theorem sim_sortedA : SimRC K (rSortedA K) fSortedA := by
  intro W μ xs vs Q h r q hx
  unfold fSortedA at q hx
  split at hx
  · rename_i d
    dsimp only at q
    cases e : numsM μ d with
    | none => rw [e] at hx; exact no_ok (r := .no) hx
    | some ns =>
      simp only [e] at q
      obtain ⟨v, r', rfl, r1, r2⟩ := r.cons_inv
      rw [r2.nil_inv]
      obtain ⟨a, rfl, ha⟩ := numsM_rep h e r1
      refine ⟨a, ns, rfl, ha, fun ns' p hp hs hn => ?_⟩
      have en : ns' = isort ns := sorted_one (hp.trans (isort_perm ns).symm) hs (isort_sorted ns)
      subst en
      obtain ⟨s4, k4, r4⟩ := rep_lst_new h (reps_ints (isort ns)) hn
      exact q _ _ _ μ rfl s4 k4 r4
  · exact no_ok (r := .no) hx
/-- sorted(set(e)) -/
def xSortSet (A : TEd) : TEd := fun ρ μ => (A ρ μ).bind fun d μ1 => match numsM μ1 d with
  | some ns => if ns.length < 64 then .ok (.lst (nums (sset ns))) μ1 else .no
  | none => .no
def xLenSet (A : TEd) : TEd := fun ρ μ => (A ρ μ).bind fun d μ1 => match numsM μ1 d with
  | some ns => if ns.length ≤ 4000 then .ok (.int (sset ns).length) μ1 else .no
  | none => .no
abbrev tSortSet (K : PySem.W.Frag) (w : World) (t : TE) : TE := tCB (rSortedSet w) (tCons (tCB (rSetI K w) (tCons t tNil)) tNil)
abbrev tLenSetD (K : PySem.W.Frag) (w : World) (t : TE) : TE := tCB (rLenS w) (tCons (tCB (rSetI K w) (tCons t tNil)) tNil)
theorem rep_lst_new2 {W : Wd} {μ : Mu} {p a : Addr} {o : HO} {ns : List Int} (h : StOk K W μ) (hp : W.H p = none) (hn : upd W.H p o a = none) :
    Step W ⟨W.fps, upd W.Hs a (.lst (ns.map V.int)), upd (upd W.H p o) a (.lst (ns.map V.int))⟩ ∧ StOk K ⟨W.fps, upd W.Hs a (.lst (ns.map V.int)), upd (upd W.H p o) a (.lst (ns.map V.int))⟩ μ ∧ Rep K W.fp (upd W.Hs a (.lst (ns.map V.int))) (.lst (nums ns)) (.ref a) := by
  have hDs : W.Hs p = none := by
    cases z : W.Hs p with
    | none => rfl
    | some u => rw [h.ex p u z] at hp; cases hp
  have hDf : p ∉ W.fps.flatten := fun z => h.dom p z hp
  have s2 := step_hidden (o := o) hp h.ex
  have h2 := h.hidden (o := o) hDs hDf
  obtain ⟨s4, k4, r4⟩ := rep_lst_new h2 (reps_ints ns) hn
  exact ⟨s2.trans s4, k4, r4⟩
theorem sim_sortSet {t : TE} {A : TEd} (ha : SimE K XC Wx t A) : SimE K XC Wx (tSortSet K w t) (xSortSet A) := by
  intro W σ ρ μ Q hs he q qx hn
  unfold xSortSet at q qx hn
  refine ha W σ ρ μ _ hs he (fun W1 v d μ1 e1 s1 h1 r1 => ?_) (fun W1 dx c d μ1 e1 s1 h1 r1 => ?_) (fun e => by rw [e] at hn; exact hn rfl)
  · rw [e1, Res.bind_ok] at q hn
    cases e : numsM μ1 d with
    | none => rw [e] at hn; exact absurd rfl hn
    | some ns =>
      simp only [e] at q hn
      by_cases hl : ns.length < 64
      · rw [if_pos hl] at q
        obtain ⟨a, rfl, hq⟩ := numsM_rep h1 e r1
        refine ⟨a, ns, rfl, hq, by omega, fun c p hc hp => ⟨p, _, c, rfl, upd_same, by omega, fun ns' b hs' hm _ hb => ?_⟩⟩
        have en : ns' = sset ns := strict_one hs' (sset_sorted ns) fun k => by rw [hm k, sset_mem, decide_eq_true_eq]
        subst en
        obtain ⟨s4, k4, r4⟩ := rep_lst_new2 h1 hp hb
        exact q _ _ _ μ1 rfl (s1.trans s4) k4 r4
      · rw [if_neg hl] at hn
        exact absurd rfl hn
  · rw [e1] at qx
    exact qx W1 dx c d μ1 rfl s1 h1 r1
theorem sim_lenSet {t : TE} {A : TEd} (ha : SimE K XC Wx t A) : SimE K XC Wx (tLenSetD K w t) (xLenSet A) := by
  intro W σ ρ μ Q hs he q qx hn
  unfold xLenSet at q qx hn
  refine ha W σ ρ μ _ hs he (fun W1 v d μ1 e1 s1 h1 r1 => ?_) (fun W1 dx c d μ1 e1 s1 h1 r1 => ?_) (fun e => by rw [e] at hn; exact hn rfl)
  · rw [e1, Res.bind_ok] at q hn
    cases e : numsM μ1 d with
    | none => rw [e] at hn; exact absurd rfl hn
    | some ns =>
      simp only [e] at q hn
      by_cases hl : ns.length ≤ 4000
      · rw [if_pos hl] at q
        obtain ⟨a, rfl, hq⟩ := numsM_rep h1 e r1
        refine ⟨a, ns, rfl, hq, by omega, fun c p hc hp => ⟨p, ns, c, rfl, upd_same, by omega, fun hlen => ?_⟩⟩
        have el := hlen (sset ns) (lt_nodup (sset_sorted ns)) fun k => sset_mem k ns
        subst el
        have hDs : W1.Hs p = none := by
          cases z : W1.Hs p with
          | none => rfl
          | some u => rw [h1.ex p u z] at hp; cases hp
        have hDf : p ∉ W1.fps.flatten := fun z => h1.dom p z hp
        exact q ⟨W1.fps, W1.Hs, upd W1.H p _⟩ _ _ μ1 rfl (s1.trans (step_hidden hp h1.ex)) (h1.hidden hDs hDf) rep_int
      · rw [if_neg hl] at hn
        exact absurd rfl hn
  · rw [e1] at qx
    exact qx W1 dx c d μ1 rfl s1 h1 r1
/-! ### list * int -/
def fRep (x y : D) (μ : Mu) : Res D := match x, y with
  | .lst ds, .int k => if k < 100000 ∧ 0 ≤ k ∧ ds.length * k.toNat ≤ lim then .ok (.lst (List.replicate k.toNat ds).flatten) μ else .no
  | _, _ => .no
theorem reps_flat {fp : Nat → Option Addr} {Hs : Hp} {ds : List D} {vs : List V} (r : Reps K fp Hs ds vs) : ∀ n, Reps K fp Hs (List.replicate n ds).flatten (List.replicate n vs).flatten
  | 0 => Reps.nil
  | n + 1 => by
    rw [List.replicate_succ, List.replicate_succ, List.flatten_cons, List.flatten_cons]
    exact r.append (reps_flat r n)
theorem sim_rep : SimR2 K rRep fRep := by
  intro W μ x y v u Q h rx ry q hx
  unfold fRep at q hx
  split at hx
  · rename_i ds k
    dsimp only at q
    split at hx
    · rename_i hc
      rw [if_pos hc] at q
      obtain ⟨a, vs, rfl, ha, ra⟩ := rep_lst_inv rx
      rw [rep_int_inv ry]
      have hl := ra.length
      refine ⟨a, k, vs, rfl, rfl, h.ex a _ ha, by omega, by omega, lim_le (by rw [← hl]; exact hc.2.2), fun p hp => ?_⟩
      obtain ⟨s4, k4, r4⟩ := rep_lst_new h (reps_flat ra k.toNat) hp
      exact q _ _ _ μ rfl s4 k4 r4
    · exact no_ok (r := .no) hx
  · exact no_ok (r := .no) hx
end
end DL
end
section
set_option maxRecDepth 100000
set_option maxHeartbeats 4000000
/-! DExc: own exceptions straight over a built-in one, their __init__ calling the base's and storing a field. -/
namespace PySem
namespace HandSPX
open Builtin Builtin.ObjectAttr
section
variable {prog : Program} {w : World} {A : Around} {E : Value → Shared → Prop} {R : Result → Shared → Prop} {hp : Heap} {g : Array GenState} {d : Drawn} {t : Nat} {os : OsState}
theorem osa_any {K : W.Frag} {name : Str} {tk : Tok} {v : Value} {x C : Addr} {fv : Array Value} {cd : ClassData}
    (X : K.In hp) (hx : hp.get? x = some { cls := .ref C, data := .fields fv }) (hcd : W.clsIn K C = some cd) (hm : ∀ self, refuseLoop self "__setattr__" cd.mro = pure ()) (ne : cd.mro.isEmpty = false) (hob : cd.mro.contains (.type "object") = true) (hh : cd.hasDict = true) (ha : W.findIn K (.ref C) name = some none)
    (hq : ∀ h' tk' dx, (∀ b o, b ≠ x → hp.get? b = some o → h'.get? b = some o) → hp.objs.size ≤ dx → dx ≠ x → h'.get? x = some { cls := .ref C, dict := some dx, data := .fields fv } →
      h'.Ns1 dx (fun y => if y = name then some v else none) → R (.ok (.ret .none)) ⟨h', g, d, tk', os⟩) :
    codeAny (model prog w) A (.call (.builtin "object.__setattr__") ⟨[.ref x, .str name tk, v], []⟩) R ⟨hp, g, d, t, os⟩ := by
  have I : W.InstAt hp x { cls := .ref C, data := .fields fv } C none := ⟨hx, rfl, rfl, trivial⟩
  have SF := F.store_object
  have hxs : x ≠ hp.objs.size := Nat.ne_of_lt (Heap.lt_size hx)
  have sub : W.Looks (model prog w) hp (isInstance (.ref x) (.type "object")) true := I.type.andThen (W.looks_mroIn X (by unfold W.mroIn; rw [hcd, Option.bind_some, if_neg (by rw [ne]; decide), hob]))
  refine codeAny_call_builtin SF.slot.plain SF.entry (@W.check_slot (model prog w) _ _ ⟨hp, g, d, t, os⟩ "object.__setattr__" "object" "__setattr__" (.ref x) [.str name tk, v] [] _ SF.kind SF.split sub (SF.args (.ref x) (.str name tk) v) ?_)
  have hmr : W.Looks (model prog w) hp (mroOf (.ref C)) cd.mro := (W.looks_clsIn X hcd).andThen .now
  have L3 : W.Looks (model prog w) hp (storeTaker? none) none := .now
  have hcls : W.Looks (model prog w) hp (classData C) cd := W.looks_clsIn X hcd
  rw [W.osa_eq, refuse_eq]
  refine wpAny_bind (wpAny_bind (I.type.at (wpAny_bind (hmr.at ?_))))
  rw [hm]
  refine wpAny_pure (wpAny_bind (I.type.at (wpAny_bind ((W.looks_findIn X ha).at (wpAny_bind (L3.at ?_))))))
  show wpAny _ _ (storeInOwnDict (.ref x) (.ref C) (.str name tk) name v false) _ _ _
  obtain ⟨nm, bs, mro, ns, qn, hd, sn, sb, ab, col, del⟩ := cd
  dsimp only at hh
  subst hh
  unfold storeInOwnDict ownDictForStores
  repeat (first | with_reducible refine store_in_new ?_ ?_ | with_reducible refine wpAny_loadPart_at hx ?_ | with_reducible refine hcls.at ?_ | wp_step)
  · exact ⟨_, #[], _, (Heap.get?_update_ne _ _ _ _ hxs.symm).trans (Heap.get?_push_at rfl rfl), rfl, fun e he => absurd he (by simp), fun _ => rfl⟩
  · intro h' tk' hn' hs
    have hx₁ : (hp.push { cls := .type "dict", data := .dict #[] }).get? x = some { cls := .ref C, data := .fields fv } := Heap.get?_push_of_some _ hx
    refine hq h' tk' hp.objs.size (fun b o hb ho => ?_) (Nat.le_refl _) hxs.symm ?_ hn'
    · exact (hs.2 b (Nat.ne_of_lt (Heap.lt_size ho))).trans ((Heap.get?_update_ne _ _ _ _ hb).trans (Heap.get?_push_of_some _ ho))
    · exact (hs.2 x hxs).trans (Heap.get?_update_self _ hx₁ rfl)
end
end HandSPX
end PySem
namespace L2
open PySem PySem.Spec PyProof.Rows
/-- what the built-in base says -/
structure BaseB (B nid iid : String) (bm : List Value) : Prop where
  F : ExcBaseFacts B nid iid bm
  pass : ∀ self : Value, refuseLoop self "__setattr__" bm = pure ()
  ob : bm.contains (.type "object") = true
  ty : typeOf (.type B) = pure (.type "type")
theorem bb_value : BaseB "ValueError" "ValueError.__new__" "ValueError.__init__" [.type "ValueError", .type "Exception", .type "BaseException", .type "object"] := ⟨F.excBase_ValueError, F.store_ValueError.passes, by decide +kernel, by kernel_rfl⟩
theorem bb_runtime : BaseB "RuntimeError" "RuntimeError.__new__" "RuntimeError.__init__" [.type "RuntimeError", .type "Exception", .type "BaseException", .type "object"] := ⟨F.excBase_RuntimeError, F.store_RuntimeError.passes, by decide +kernel, by kernel_rfl⟩
theorem bb_lookup : BaseB "LookupError" "LookupError.__new__" "LookupError.__init__" [.type "LookupError", .type "Exception", .type "BaseException", .type "object"] := ⟨F.excBase_LookupError, F.store_LookupError.passes, by decide +kernel, by kernel_rfl⟩
theorem bb_overflow : BaseB "OverflowError" "OverflowError.__new__" "OverflowError.__init__" [.type "OverflowError", .type "ArithmeticError", .type "Exception", .type "BaseException", .type "object"] := ⟨F.excBase_OverflowError, F.store_OverflowError.passes, by decide +kernel, by kernel_rfl⟩
/-- what the written part says of the class at C -/
structure OexB (K : PySem.W.Frag) (C : Addr) (bm : List Value) (nid : String) : Prop where
  cls : ∃ nm q N bs sn sub ab col dd k0 k1 k2 k3 k5, K.lookup C = some (excClassObj nm q C N bs bm true sn sub ab col dd k0 k1 k2 k3 k5 nid)
  sa : PySem.W.findIn K (.ref C) "__setattr__" = some (some (.builtin "object.__setattr__"))
  exC : PySem.W.subIn K (.ref C) (.type "BaseException") = some true
  tyC : PySem.W.typeIn K (.ref C) = some (.type "type")
  kC : PySem.W.keepIn K (.ref C) = true
def tVeB (K : PySem.W.Frag) (bm : List Value) (nid : String) (ta : TA) : TE := fun σ H Q => ta σ H fun vs H1 => ∃ (a C : Addr) (ws : List V), vs = .ref a :: ws ∧ ws.length ≤ 1000 ∧ OexB K C bm nid ∧ H1 a = some (exo a C none) ∧ Q .non H1
def tOstB (K : PySem.W.Frag) (bm : List Value) (nid : String) (f : Str) (to te : TE) : TS := fun D σ H => te σ H fun y H1 => to σ H1 fun x H2 => ∃ a C : Addr, x = .ref a ∧ OexB K C bm nid ∧ PySem.W.findIn K (.ref C) f = some none ∧
  (H2 a = some (exo a C none) ∧ ∀ dx, H2 dx = none → dx ≠ a → D.nx σ (upd (upd H2 dx (exd dx [(f, y)])) a (exo a C (some dx))))
section
variable {X : Cx} {pins : List (Addr × Obj)} {σ : St} {H : Hp} {s : Shared} {a C dx : Addr} {f : Str} {y : V} {u : Value} {fs : List (Str × V)} {Q : Unit → Shared → Prop} {E : Value → Shared → Prop} {A : Around} {B nid iid : String} {bm : List Value}
/-- self.f = y, the first one -/
theorem ost_newB (T : OexB X.K C bm nid) (TB : BaseB B nid iid bm) (I : Inv X pins σ H s) (e : H a = some (exo a C none)) (hno : PySem.W.findIn X.K (.ref C) f = some none) (ry : RelV y u)
    (h : ∀ dx s', H dx = none → dx ≠ a → Inv X pins σ (upd (upd H dx (exd dx [(f, y)])) a (exo a C (some dx))) s' → Q () s') : wpAny (model X.prog X.w) A (setAttr (.ref a) f u) Q E s := by
  obtain ⟨nm, q, N, bs, sn, sub, ab, col, dd, k0, k1, k2, k3, k5, hC⟩ := T.cls
  have hcl : PySem.W.clsIn X.K C = some { name := nm, bases := bs, mro := .ref C :: bm, ns := N, qualname := q, hasDict := true, slotNames := sn, subclasses := sub, abstract := ab, collection := col, hasDel := false } := by unfold PySem.W.clsIn; rw [hC] <;> rfl
  obtain ⟨t1, ho⟩ := exo_at I.hok e
  obtain ⟨hp, g, d, t, os⟩ := s
  refine PySem.W.set_plain I.kIn (ox := { cls := .ref C, dict := none, data := .fields #[.ref t1, .none, .none, .none, .bool false, .none] }) (od := none) ⟨ho, rfl, rfl, trivial⟩ T.sa ?_
  refine PySem.HandSPX.osa_any I.kIn ho hcl (fun self => by rw [refuseLoop_ref]; exact TB.pass self) rfl (show (Value.ref C :: bm).contains (.type "object") = true from by rw [List.contains_cons, TB.ob, Bool.or_true]) rfl hno (fun h' tk' dx k dn dne hx hn => ?_)
  have hnd : H dx = none := I.hok.fresh dn
  have nd : ∀ {b : Addr} {o : Obj}, hp.get? b = some o → b ≠ dx := fun {b o} q => Nat.ne_of_lt (Nat.lt_of_lt_of_le (Heap.lt_size q) dn)
  have na : ∀ {b : Addr}, H b = none → b ≠ a := fun {b} n z => by
    rw [z, e] at n
    cases n
  have Un1 : Un X.fs [] H (upd (upd H dx (exd dx [(f, y)])) a (exo a C (some dx))) hp h' := {
    keep := fun b o q n _ _ => k b o (na n) q
    slot := fun b o q n _ _ => ⟨o.slots, k b o (na n) q⟩
    free := fun b o q n _ => by rw [upd_ne (na n), upd_ne (nd q)]; exact n
    there := fun b o q _ => by
      by_cases hb : b = a
      · exact ⟨_, by rw [hb]; exact hx⟩
      · exact ⟨o, k b o hb q⟩
    tups := fun b xs q => by rw [upd_ne (at_ne e q exo_tup), upd_ne (ne_of_none q hnd)]; exact q
    frzs := fun b o v q => by rw [upd_ne (at_ne e q exo_frz), upd_ne (ne_of_none q hnd)]; exact q
    tbls := fun b ps q => ⟨#[], by rw [upd_ne (at_ne e q exo_tbl), upd_ne (ne_of_none q hnd), q]; simp⟩ }
  refine h dx _ hnd dne (I.un (t' := tk') Un1 fun b o q => ?_)
  by_cases hb : b = a
  · subst hb
    rw [upd_same] at q
    cases q
    exact exo_ok hx
  · rw [upd_ne hb] at q
    by_cases hd : b = dx
    · subst hd
      rw [upd_same] at q
      cases q
      exact exd_ok hn (relO_put (fs := []) ry fun g => True.intro)
    · rw [upd_ne hd] at q
      exact (I.hok b o q).stay (fun c v hc z => k c v (by
          rcases hc with hc | hc
          · rw [hc]
            exact hb
          · exact at_ne e hc exo_own) z)
        (fun c hc => by rw [upd_ne (at_ne e hc exo_own), upd_ne (ne_of_none hc hnd)]; exact hc) (fun c xs hc => by rw [upd_ne (at_ne e hc exo_tup), upd_ne (ne_of_none hc hnd)]; exact hc)
/-- ValueError.__init__(self, ..): nothing of it is told -/
theorem oinitB {us : List Value} {Q : Value → Shared → Prop} (T : OexB X.K C bm nid) (TB : BaseB B nid iid bm) (I : Inv X pins σ H s) (e : H a = some (exo a C none)) (hl : us.length ≤ sizeLine) (h : ∀ s', Inv X pins σ H s' → Q .none s') :
    wpAny (model X.prog X.w) A (call (.builtin iid) (.ref a :: us)) Q E s := by
  obtain ⟨nm, q, N, bs, sn, sub, ab, col, dd, k0, k1, k2, k3, k5, hC⟩ := T.cls
  obtain ⟨t1, ho⟩ := exo_at I.hok e
  obtain ⟨hp, g, d, t, os⟩ := s
  refine wpAny_call (PySem.HandSPX.init_base TB.F (fun Y => rfl) (I.kIn _ _ hC) ho hl fun h' t2 k hx => ?_)
  have J := I.write (t' := t) (x := a) (e := a) (o := exo a C none) (by rw [e]; exact True.intro) (.inl rfl) k ⟨_, hx⟩ (exo_ok hx)
  have eu : upd H a (exo a C none) = H := by
    funext b
    by_cases hb : b = a
    · rw [hb, upd_same, e]
    · rw [upd_ne hb]
  rw [eu] at J
  exact h _ J
end
section
variable {X : Cx} {o e : Expr} {es : List Expr} {to te : TE} {ta : TA} {f : Str} {p p' p1 p2 pos : Pos} {B nid iid : String} {bm : List Value}
theorem pe_binit {pl : Sem Bool} {b : Str} (TB : BaseB B nid iid bm) (bt : bootBuiltins b = some (.type B)) (stb : Manifest.isStub B = false) (hdn : PySem.W.handedIn (.builtin iid) = true) (bn : b ≠ ("__name__" : Str)) (bd : (b == ("__debug__" : Str)) = false) (hg : Gl X b) (hm : X.mg b = none) (vV : PySem.W.findCls X.K (.type B) (.type "type") "__init__" = some (.val (.builtin iid))) (ha : PA X (e :: es) ta)
    (hc : eval (.Call (.Attribute (.Name b p1) "__init__" p2) (e :: es) [] pos) X.env = (do
      let ov ← eval (.Name b p1) X.env
      standAt p2.atName
      let (f, first) ← holding [ov] (getMethod ov "__init__" pl)
      callWith pos f first (backTo pos (starEach (e :: es) X.env)) (backToKw pos (keywordEach [] X.env))) := by rfl)
    (he : starEach (e :: es) X.env = (false, eval e X.env) :: starEach es X.env := by rfl) (hpl : (backTo pos (starEach es X.env)).any (·.1) = false := by rfl) :
    PE X (.Call (.Attribute (.Name b p1) "__init__" p2) (e :: es) [] pos) (tVeB X.K bm nid ta) := by
  refine ⟨fun pins s σ H Q I h => ?_⟩
  refine PySem.W.methodCall_KW (ld_blt I hg hm bt ?_ bn bd) hc
  obtain ⟨m, fr⟩ := I.fr
  refine PySem.W.method_type fr I.ok.mod.kin TB.ty stb vV hdn ?_
  show wpAny _ _ (callWith pos (Value.builtin iid) [] (backTo pos (starEach (e :: es) X.env)) []) _ _ _
  refine PyProof.Rows.callWith_method1 (thn (ha.run pos pins _ σ H _ (I.tok _) h) fun us s1 ⟨vs, H1, I1, r1, a, C, ws, ev, hl, T, ea, q⟩ => ?_) he hpl
  subst ev
  cases r1 with
  | @cons _ u0 _ ur ra rw' =>
    obtain rfl : u0 = Value.ref a := ra
    have hlen : ur.length ≤ sizeLine := by
      rw [← Paired.length rw', sizeLine_eq]
      omega
    exact oinitB T TB I1 ea hlen fun s' J => ⟨.non, H1, J, rfl, q⟩
theorem ps_ostB (TB : BaseB B nid iid bm) (ho : PE X o to) (he : PE X e te) (hs : swapsWith e (some (.Attribute o f p')) pos.line X.env = pure false := by rfl) : PS X (.Assign [.Attribute o f p'] e pos) (tOstB X.K bm nid f to te) := by
  refine ⟨fun pins s σ H D I h => ?_⟩
  refine plainObj_wpAny_Assign_Attribute (thn (he.run pins s σ H _ I h) fun v s1 ⟨y, H1, I1, r1, q1⟩ => thn (ho.run pins s1 σ H1 _ I1 q1) fun u s2 ⟨x, H2, I2, r2, a, C, ex, T, hno, q⟩ => ?_) hs
  subst ex
  obtain rfl : u = Value.ref a := r2
  exact ost_newB T TB I2 q.1 hno r1 fun dx s' n ne J => ⟨σ, _, J, q.2 dx n ne⟩
theorem pmk_oexB {CX : CXT} {x : Str} {C fI : Addr} {k : Nat} {fd : FuncData} {ps : List Str} {sp : Sp} {ds : List Value} {dvs : List V} (T : OexB X.K C bm nid) (TB : BaseB B nid iid bm) (iC : PySem.W.findIn X.K (.ref C) "__init__" = some (some (.ref fI))) (tI : PySem.W.typeIn X.K (.ref fI) = some (.type "function"))
    (F1 : FnOk X.prog X.w X.K X.mg X.base CX k fI fd ps sp) (hr : Room (k + 1) X.A) (hb : Binds X.K fd ps ds) (hd : Vals dvs ds) (hx : Passes CX X (fun _ _ _ => False)) (hg : Gl X x) (hm : X.mg x = some (.ref C)) (ha : PA X (e :: es) ta)
    (hdb : (x == ("__debug__" : Str)) = false := by decide) (he : starEach (e :: es) X.env = (false, eval e X.env) :: starEach es X.env := by rfl) (hpl : (backTo pos (starEach es X.env)).any (·.1) = false := by rfl) :
    PMk X (.Call (.Name x p) (e :: es) [] pos) (tMkO C sp dvs ta) := by
  intro pins s σ H Q I h
  obtain ⟨nm, q, N, bs, sn, sub, ab, col, dd, k0, k1, k2, k3, k5, hC⟩ := T.cls
  refine wpAny_Call_Name_kw (ld_glob I hg hm ?_ hdb)
  refine PySem.W.callWith_K (h₀ := X.base) I.ok.mod.kin T.kC (thn (ha.run pos pins s σ H _ I h) fun us s1 ⟨vs, H1, I1, r1, hz, q1⟩ => ⟨I1.kIn, ?_⟩) he hpl
  show wpAny _ _ (call (.ref C) us) _ _ _
  obtain ⟨hp, g, dr, tk, os⟩ := s1
  have hsz : hp.objs.size ≤ hp.objs.size + 1 := Nat.le_succ _
  have hn : H1 (hp.objs.size + 1) = none := I1.hok.fresh hsz
  have hq := q1 (hp.objs.size + 1) hn
  have kk : ∀ b o, hp.get? b = some o → ((hp.push (PySem.W.kdv_tup us)).push (PySem.HandSPX.excO C hp.objs.size)).get? b = some o := fun b o e => Heap.get?_push_of_some _ (Heap.get?_push_of_some _ e)
  have hget : ((hp.push (PySem.W.kdv_tup us)).push (PySem.HandSPX.excO C hp.objs.size)).get? (hp.objs.size + 1) = some (PySem.HandSPX.excO C hp.objs.size) := by heap_get
  have I2 : Inv X pins σ (upd H1 (hp.objs.size + 1) (exo (hp.objs.size + 1) C none)) ⟨(hp.push (PySem.W.kdv_tup us)).push (PySem.HandSPX.excO C hp.objs.size), g, dr, tk, os⟩ :=
    I1.laid (t' := tk) (a := hp.objs.size + 1) (o := exo (hp.objs.size + 1) C none) (h' := (hp.push (PySem.W.kdv_tup us)).push (PySem.HandSPX.excO C hp.objs.size)) kk hsz (exo_ok hget)
  have r2 : Vals (V.ref (hp.objs.size + 1) :: (vs ++ dvs)) (Value.ref (hp.objs.size + 1) :: (us ++ ds)) := .cons rfl (r1.append hd)
  have hl : (Value.ref (hp.objs.size + 1) :: us ++ ds).length = ps.length := by
    have e := r2.length
    rw [F1.len _ _ _ _ hq] at e
    exact e.symm
  have hus : us.length ≤ sizeLine := by
    rw [← Paired.length r1, sizeLine_eq]
    omega
  refine wpAny_call (PySem.HandSPX.call_own TB.F (fun Y => rfl) (I1.kIn _ _ hC) (PySem.W.looks_findIn I1.kIn iC) (fun self => PySem.W.bind_fn I1.kIn self tI) hus
    (codeAny_mono (F1.run _ X.stack _ _ ⟨Value.ref (hp.objs.size + 1) :: us, []⟩ (Value.ref (hp.objs.size + 1) :: (us ++ ds)) _ _ (fun _ _ _ => False) (hr.make C us []) (I2.env0.make C us []) (hb _ (Value.ref (hp.objs.size + 1) :: us) I2.kIn hl) r2 hq) fun r s' hq' => ?_))
  cases r with
  | error er => exact hx pins σ _ _ er s' I2 hq'
  | ok fl =>
    cases fl with
    | ret u =>
      obtain ⟨v, H2, os2, bare2, un2, hok2, rv, ev, d, fs, ea, ed, hd1, q2⟩ := hq'
      subst ev
      obtain ⟨h2, g2, d2, t2, os'⟩ := s'
      exact ⟨rv, mk_end (raises_own T.exC T.tyC) I1 hsz kk un2 hok2 os2 bare2 ea ed hd1 q2⟩
    | next => exact False.elim hq'
    | brk => exact False.elim hq'
    | cont => exact False.elim hq'
end
end L2
end
section
set_option maxRecDepth 100000
set_option maxHeartbeats 2000000
/-! DRules2: further rules: several names at once, op=, ranges as lists, sets, raise, try. -/
namespace DL
open PySem PySem.Spec PyProof.Rows L2
section
variable {X : Cx} {XC : Nat → Addr} {Wx : WX} {a b c e : Expr} {es rest : List Expr} {pos pos' p p1 p2 q : Pos} {ta tb tc te : TE} {A B C : TEd} {tt uu : TT} {TA' TB' : TTd} {t t' : L2.TA} {TT' : TAd} {x y z : Str}
theorem s_retN : SX' X XC Wx (.Return none pos) tRetN xRetN := ⟨ps_retN, sim_retN⟩
theorem s_par {i j : Nat} {px py pt : Pos} {kt k2 pt2} (hN : X.N.Nodup) (ha : AX X XC Wx [a, b] t TT') (hc : X.calm = true := by rfl) (hi : X.N[i]? = some x := by rfl) (hj : X.N[j]? = some y := by rfl) (hij : i ≠ j := by decide)
    (hx : X.env.scope.names.lookup x = some .local := by rfl) (hy : X.env.scope.names.lookup y = some .local := by rfl)
    (hw : swappedStores [.Tuple [.Name x px, .Name y py] kt pt] (.Tuple [a, b] k2 pt2) X.env = pure (some [x, y]) := by rfl)
    (hs : swapsWithSole [.Tuple [.Name x px, .Name y py] kt pt] (.Tuple [a, b] k2 pt2) pos.line X.env = pure false := by rfl) :
    SX' X XC Wx (.Assign [.Tuple [.Name x px, .Name y py] kt pt] (.Tuple [a, b] k2 pt2) pos) (tPar i j t) (xPar i j TT') := ⟨ps_par hc hN hi hj hij hx hy ha.1 hw hs, sim_par ha.2⟩
theorem s_par3 {i j l : Nat} {px py pz pt : Pos} {kt k2 pt2} (hN : X.N.Nodup) (ha : AX X XC Wx [a, b, c] t TT') (hc : X.calm = true := by rfl) (hi : X.N[i]? = some x := by rfl) (hj : X.N[j]? = some y := by rfl) (hl : X.N[l]? = some z := by rfl) (hij : i ≠ j := by decide) (hil : i ≠ l := by decide) (hjl : j ≠ l := by decide)
    (hx : X.env.scope.names.lookup x = some .local := by rfl) (hy : X.env.scope.names.lookup y = some .local := by rfl) (hz : X.env.scope.names.lookup z = some .local := by rfl)
    (hw : swappedStores [.Tuple [.Name x px, .Name y py, .Name z pz] kt pt] (.Tuple [a, b, c] k2 pt2) X.env = pure (some [x, y, z]) := by rfl)
    (hs : swapsWithSole [.Tuple [.Name x px, .Name y py, .Name z pz] kt pt] (.Tuple [a, b, c] k2 pt2) pos.line X.env = pure false := by rfl) :
    SX' X XC Wx (.Assign [.Tuple [.Name x px, .Name y py, .Name z pz] kt pt] (.Tuple [a, b, c] k2 pt2) pos) (tPar3 i j l t) (xPar3 i j l TT') := ⟨ps_par3 hc hN hi hj hl hij hil hjl hx hy hz ha.1 hw hs, sim_par3 ha.2⟩
/-! ### op= -/
theorem sim_ip {f : Int → Int → Int} : SimR2 X.K (ipI f) (fI cT fun i j => .int (f i j)) := by
  intro W μ x y v u Q h rx ry q hx
  obtain ⟨i, j, rfl, rfl, _, e⟩ := fI_ok hx
  rw [rep_int_inv rx, rep_int_inv ry]
  exact ⟨i, j, rfl, rfl, q W _ _ μ e (Step.refl W) h rep_int⟩
/-- name *= e -/
def rIpM : TIp := rI (fun i j => CMul i j ∨ CMulW i j) fun i j => .int (i * j)
theorem ip_mul : PIp X .Mult rIpM := by
  intro pins s σ H x y v u Q I r1 r2 h
  obtain ⟨i, j, rfl, rfl, hc, q⟩ := h
  obtain ⟨t, rfl⟩ := r1
  obtain ⟨t', rfl⟩ := r2
  rcases hc with hc | hc
  · exact imul_int ⟨.int _, H, I.tok _, ⟨_, rfl⟩, q⟩ hc.ok
  · exact imul_int ⟨.int _, H, I.tok _, ⟨_, rfl⟩, q⟩ hc.ok
theorem sim_ipM : SimR2 X.K rIpM fMulI := sim_rI (fun i j h => by
    rcases Bool.or_eq_true_iff.mp h with h | h
    · refine .inl ?_
      unfold cMul at h
      rcases Bool.or_eq_true_iff.mp h with h | h
      · exact .inl (of_decide_eq_true h)
      · exact .inr (of_decide_eq_true h)
    · exact .inr (by unfold cMulW at h; unfold CMulW; exact of_decide_eq_true h)) fun _ _ => ⟨rfl, rfl⟩
/-! ### ranges as lists, sets -/
def RgX (X : Cx) (XC : Nat → Addr) (Wx : WX) (e : Expr) (t : L2.St → Hp → (Int → Int → Hp → Prop) → Prop) (T : TAd) : Prop := PRg X e t ∧ SimRg X.K XC Wx t T
theorem r_1 (hm : X.mg "range" = none) (ha : EX X XC Wx a ta A) (hg : Gl X "range" := by rfl) (na : starEach [a] X.env = (false, eval a X.env) :: starEach [] X.env := by rfl) : RgX X XC Wx (.Call (.Name "range" p) [a] [] pos) (tRg1 ta) (xCons (xC (.int 0)) (xCons A xNil)) := ⟨prg_1 hg hm ha.1 na, simr_1 ha.2⟩
theorem r_2 (hm : X.mg "range" = none) (ha : EX X XC Wx a ta A) (hb : EX X XC Wx b tb B) (hg : Gl X "range" := by rfl) (na : starEach [a, b] X.env = (false, eval a X.env) :: starEach [b] X.env := by rfl) (nb : starEach [b] X.env = (false, eval b X.env) :: starEach [] X.env := by rfl) (hp : (backTo pos (starEach [b] X.env)).any (·.1) = false := by rfl) :
    RgX X XC Wx (.Call (.Name "range" p) [a, b] [] pos) (tRg2 ta tb) (xCons A (xCons B xNil)) := ⟨prg_2 hg hm ha.1 hb.1 na nb hp, simr_2 ha.2 hb.2⟩
theorem d_lstRg {t : L2.St → Hp → (Int → Int → Hp → Prop) → Prop} {T : TAd} (hm : X.mg "list" = none) (h : RgX X XC Wx e t T) (hc : X.calm = true := by rfl) (hg : Gl X "list" := by rfl) (na : starEach [e] X.env = (false, eval e X.env) :: starEach [] X.env := by rfl) : EX X XC Wx (.Call (.Name "list" p) [e] [] pos) (tLstRg t) (xRgL false T) := ⟨pe_listRg hc hg hm h.1 na, sim_lstRg h.2⟩
theorem d_tupRg {t : L2.St → Hp → (Int → Int → Hp → Prop) → Prop} {T : TAd} (hm : X.mg "tuple" = none) (h : RgX X XC Wx e t T) (hc : X.calm = true := by rfl) (hg : Gl X "tuple" := by rfl) (na : starEach [e] X.env = (false, eval e X.env) :: starEach [] X.env := by rfl) : EX X XC Wx (.Call (.Name "tuple" p) [e] [] pos) (tTupRg t) (xRgL true T) := ⟨pe_tupRg hc hg hm h.1 na, sim_tupRg h.2⟩
theorem pe_setOf (hc : X.calm = true) (hm : X.mg "set" = none) (ha : PE X a ta) (hg : Gl X "set") (he : starEach [a] X.env = (false, eval a X.env) :: starEach [] X.env) : PE X (.Call (.Name "set" p) [a] [] pos) (tCB (rSetI X.K X.w) (tCons ta tNil)) :=
  pe_callTy (cr_setI hc) hg hm (by decide +kernel) (pa_cons ha pa_nil he) (by decide) (by decide) he (by rfl)
theorem d_sortSet (hm : X.mg "sorted" = none) (hm2 : X.mg "set" = none) (ha : EX X XC Wx a ta A) (hc : X.calm = true := by rfl) (hg : Gl X "sorted" := by rfl) (hg2 : Gl X "set" := by rfl) (he : starEach [a] X.env = (false, eval a X.env) :: starEach [] X.env := by rfl)
    (he2 : starEach [.Call (.Name "set" p2) [a] [] pos'] X.env = (false, eval (.Call (.Name "set" p2) [a] [] pos') X.env) :: starEach [] X.env := by rfl) :
    EX X XC Wx (.Call (.Name "sorted" p) [.Call (.Name "set" p2) [a] [] pos'] [] pos) (tSortSet X.K X.w ta) (xSortSet A) :=
  ⟨pe_callB (cr_sortedSet hc) hg hm (by decide +kernel) (pa_cons (pe_setOf hc hm2 ha.1 hg2 he) pa_nil he2) (by decide) (by decide) he2 (by rfl), sim_sortSet ha.2⟩
theorem d_lenSet (hm : X.mg "len" = none) (hm2 : X.mg "set" = none) (ha : EX X XC Wx a ta A) (hc : X.calm = true := by rfl) (hg : Gl X "len" := by rfl) (hg2 : Gl X "set" := by rfl) (he : starEach [a] X.env = (false, eval a X.env) :: starEach [] X.env := by rfl)
    (he2 : starEach [.Call (.Name "set" p2) [a] [] pos'] X.env = (false, eval (.Call (.Name "set" p2) [a] [] pos') X.env) :: starEach [] X.env := by rfl) :
    EX X XC Wx (.Call (.Name "len" p) [.Call (.Name "set" p2) [a] [] pos'] [] pos) (tLenSetD X.K X.w ta) (xLenSet A) :=
  ⟨pe_callB cr_lenS hg hm (by decide +kernel) (pa_cons (pe_setOf hc hm2 ha.1 hg2 he) pa_nil he2) (by decide) (by decide) he2 (by rfl), sim_lenSet ha.2⟩
/-! ### raise -/
/-- __init__ of an own exception: the base's own, then the field -/
def spInit (C : Addr) (fld : Str) : Sp := fun vs H Q _ => ∃ (a : Addr) (v : V), vs = [.ref a, v] ∧ H a = some (exo a C none) ∧ ∀ dx, H dx = none → dx ≠ a → Q .non (upd (upd H dx (exd dx [(fld, v)])) a (exo a C (some dx)))
theorem init_of {P : Program} {w : World} {K : PySem.W.Frag} {mg : Str → Option Value} {base : Heap} {qual y' fld : Str} {st : Stmt} {fI C : Addr} {fd : FuncData} {bm : List Value} {nid : String} (Fn : Fun K "__init__" qual st fI fd) (S : FnScope ["self", y'] ["self", y'] (defScope st))
    (T : OexB K C bm nid) (hno : PySem.W.findIn K (.ref C) fld = some none)
    (hbody : ∀ (cdv : Value) (A : Around) (outer : List Env) (s : Shared) (H : Hp) (E : XK), PSs (cxOf (L2.CX P w) P w K mg base ["self", y'] qual (defScope st) fI cdv A outer s H E) (defBody st) (tSeq (tDrop (tVeB K bm nid (tCons (tVar 0) (tCons (tVar 1) tNil)))) (tOstB K bm nid fld (tVar 0) (tVar 1)))) :
    FnOk P w K mg base (L2.CX P w) 2 fI fd ["self", y'] (spInit C fld) := by
  refine Fn.okX S (fun vs H Q E h => ?_) (fun cdv A outer s H vs Q E hr h => ⟨_, hbody cdv A outer s H E, ?_⟩)
  · obtain ⟨a, v, rfl, _⟩ := h
    rfl
  · obtain ⟨a, v, rfl, ha, q⟩ := h
    exact ⟨_, rfl, _, rfl, a, C, [v], rfl, by simp, T, ha, _, rfl, _, rfl, a, C, rfl, T, hno, ha, fun dx h1 h2 => q dx h1 h2⟩
/-- the class of the c-th exception, named x -/
structure ExcC (P : Program) (w : World) (K : PySem.W.Frag) (mg : Str → Option Value) (base : Heap) (XC : Nat → Addr) (c : Nat) (x : Str) : Prop where
  g : mg x = some (.ref (XC c))
  made : ∃ (bm : List Value) (nid iid B : String) (fI : Addr) (fd : FuncData) (y : Str), OexB K (XC c) bm nid ∧ BaseB B nid iid bm ∧ PySem.W.findIn K (.ref (XC c)) "__init__" = some (some (.ref fI)) ∧ PySem.W.typeIn K (.ref fI) = some (.type "function") ∧
    FnOk P w K mg base (L2.CX P w) 2 fI fd ["self", y] (spInit (XC c) (fldOf c)) ∧ Binds K fd ["self", y] []
/-- what raising it reads -/
def tRaise (W : WX) (C : Addr) (fld : Str) (ta : TA) : TS := fun _ σ H => tMkO C (spInit C fld) [] ta σ H fun cls d H' => W cls d σ H'
theorem ps_raiseX {cx : Nat} (hc : X.calm = true) (tk : Takes X Wx) (T : ExcC X.prog X.w X.K X.mg X.base XC cx x) (hr : Room 3 X.A) (ha : PA X [e] t) (hg : Gl X x) (hdb : (x == ("__debug__" : Str)) = false) (he : starEach (e :: []) X.env = (false, eval e X.env) :: starEach [] X.env) :
    PS X (.Raise (some (.Call (.Name x p) [e] [] pos)) none pos') (tRaise Wx (XC cx) (fldOf cx) t) := by
  obtain ⟨bm, nid, iid, B', fI, fd, y', h1, h2, h3, h4, h5, h6⟩ := T.made
  exact ps_raise hc tk (pmk_oexB (e := e) (es := []) (p := p) (pos := pos) (ta := t) (dvs := []) (ds := []) h1 h2 h3 h4 h5 hr h6 .nil passL hg T.g ha hdb he (by rfl))
def xRaise (c : Nat) (A : TEd) : TSd := fun ρ μ => match A ρ μ with
  | .ok d μ1 => .exc c d ρ μ1
  | .exc c' d μ1 => .exc c' d ρ μ1
  | .no => .no
theorem sim_raise {K : PySem.W.Frag} {cx : Nat} (ha : SimE K XC Wx te A) : SimS K XC Wx (tRaise Wx (XC cx) (fldOf cx) (tCons te tNil)) (xRaise cx A) := by
  intro W σ ρ μ Dn hs he qn qr qb qc qx hn
  unfold xRaise at qx hn
  refine ha W σ ρ μ _ hs he (fun W1 v d μ1 e1 s1 h1 r1 => ?_) (fun W1 dx c d μ1 e1 s1 h1 r1 => ?_) (fun e => by rw [e] at hn; exact hn rfl)
  · rw [e1] at qx
    refine ⟨by simp, fun a ha1 => ⟨a, v, rfl, upd_same, fun dx hd hne => ⟨rfl, dx, _, upd_same, by rw [upd_ne hne]; exact upd_same, ?_, ?_⟩⟩⟩
    · rw [upd_ne hne] at hd
      exact hd
    · rw [upd_ne hne] at hd
      have eH : upd (del (upd (upd (upd W1.H a (exo a (XC cx) none)) dx (exd dx [(fldOf cx, v)])) a (exo a (XC cx) (some dx))) a) dx (.xd [(fldOf cx, v)]) = upd W1.H dx (.xd [(fldOf cx, v)]) := by
        funext b
        by_cases h1 : b = dx
        · rw [h1, upd_same, upd_same]
        · rw [upd_ne h1, upd_ne h1]
          by_cases h2 : b = a
          · rw [h2, del_same, ha1]
          · rw [del_ne h2, upd_ne h2, upd_ne h1, upd_ne h2]
      rw [eH]
      have hDs : W1.Hs dx = none := by
        cases z : W1.Hs dx with
        | none => rfl
        | some u => rw [h1.ex dx u z] at hd; cases hd
      have hDf : dx ∉ W1.fps.flatten := fun z => h1.dom dx z hd
      exact qx ⟨W1.fps, W1.Hs, upd W1.H dx (.xd [(fldOf cx, v)])⟩ dx σ cx d ρ μ1 rfl (s1.trans (step_hidden hd h1.ex)) (h1.hidden hDs hDf) (he.step (s1.trans (step_hidden hd h1.ex))) ⟨v, upd_same, r1⟩
  · rw [e1] at qx
    exact qx W1 dx σ c d ρ μ1 rfl s1 h1 (he.step s1) r1
theorem s_raise (cx : Nat) (T : ExcC X.prog X.w X.K X.mg X.base XC cx x) (hr : Room 3 X.A) (tk : Takes X Wx) (ha : EX X XC Wx e te A) (hc : X.calm = true := by rfl) (hg : Gl X x := by rfl) (hdb : (x == ("__debug__" : Str)) = false := by decide) (he : starEach (e :: []) X.env = (false, eval e X.env) :: starEach [] X.env := by rfl) :
    SX' X XC Wx (.Raise (some (.Call (.Name x p) [e] [] pos)) none pos') (tRaise Wx (XC cx) (fldOf cx) (tCons te tNil)) (xRaise cx A) :=
  ⟨ps_raiseX hc tk T hr (pa_cons ha.1 pa_nil he) hg hdb he, sim_raise ha.2⟩
end
end DL
end
section
set_option maxRecDepth 100000
set_option maxHeartbeats 2000000
/-! DObj: instances as cells: fields, methods, new ones; try. -/
namespace DL
open PySem PySem.Spec PyProof.Rows L2
section
variable {K : PySem.W.Frag} {XC : Nat → Addr} {Wx : WX}
theorem ins_at {W : Wd} {μ : Mu} {k : Nat} {v : V} {C : Addr} {ns : List Str} {ds : List D} (h : StOk K W μ) (e : μ[k]? = some (.ins C ns ds)) (r : Rep K W.fp W.Hs (.cel k) v) :
    ∃ a dx vs, v = .ref a ∧ W.fps[k]? = some [a, dx] ∧ W.H a = some (.ins C dx (ns.zip vs)) ∧ W.H dx = some (.own a) ∧ ns.length = ds.length ∧ Reps K W.fp W.Hs ds vs := by
  obtain ⟨fp, f1, a, dx, vs, rfl, f2, f3, f4, f5⟩ := fps_of h e
  obtain ⟨b, rfl, hb⟩ := rep_cel_inv r
  have hb' : W.fps[k]?.bind List.head? = some b := hb
  rw [f1] at hb'
  cases hb'
  exact ⟨a, dx, vs, rfl, f1, f2, f3, f4, f5⟩
/-- a field by its name -/
def getF (f : Str) : List Str → List D → Option D
  | n :: ns, d :: ds => if n = f then some d else getF f ns ds
  | _, _ => none
theorem getF_zip {fp : Nat → Option Addr} {Hs : Hp} {f : Str} : ∀ {ns : List Str} {ds : List D} {vs : List V} {d : D}, Reps K fp Hs ds vs → getF f ns ds = some d → ∃ v, (ns.zip vs).lookup f = some v ∧ Rep K fp Hs d v
  | [], ds, vs, d, _, e => by simp [getF] at e
  | n :: ns, [], vs, d, _, e => by simp [getF] at e
  | n :: ns, x :: ds, vs, d, r, e => by
    obtain ⟨v, r', rfl, r1, r2⟩ := r.cons_inv
    unfold getF at e
    by_cases h : n = f
    · rw [if_pos h] at e
      cases e
      subst h
      exact ⟨v, by rw [List.zip_cons_cons, List.lookup_cons]; simp, r1⟩
    · rw [if_neg h] at e
      obtain ⟨u, h1, h2⟩ := getF_zip r2 e
      refine ⟨u, ?_, h2⟩
      rw [List.zip_cons_cons, List.lookup_cons]
      have : (f == n) = false := by simpa using fun z => h z.symm
      rw [this]
      exact h1
theorem noF_zip {f : Str} : ∀ {ns : List Str} {vs : List V}, ns.contains f = false → (ns.zip vs).lookup f = none
  | [], vs, _ => by simp
  | n :: ns, [], _ => by simp
  | n :: ns, v :: vs, h => by
    rw [List.contains_cons, Bool.or_eq_false_iff] at h
    rw [List.zip_cons_cons, List.lookup_cons, h.1]
    exact noF_zip h.2
/-- a field put -/
def putN (f : Str) : List Str → List Str
  | [] => [f]
  | n :: ns => if n = f then n :: ns else n :: putN f ns
def putX (f : Str) (x : D) : List Str → List D → List D
  | n :: ns, d :: ds => if n = f then x :: ds else d :: putX f x ns ds
  | _, _ => [x]
def putV (f : Str) (x : V) : List Str → List V → List V
  | n :: ns, d :: ds => if n = f then x :: ds else d :: putV f x ns ds
  | _, _ => [x]
theorem putF_zip (f : Str) (x : V) : ∀ (ns : List Str) (vs : List V), ns.length = vs.length → putF f x (ns.zip vs) = (putN f ns).zip (putV f x ns vs)
  | [], [], _ => rfl
  | [], _ :: _, h => by simp at h
  | _ :: _, [], h => by simp at h
  | n :: ns, v :: vs, h => by
    have ih := putF_zip f x ns vs (by simpa using h)
    unfold putN putV
    rw [List.zip_cons_cons]
    show (if n = f then (n, x) :: ns.zip vs else (n, v) :: putF f x (ns.zip vs)) = _
    by_cases e : n = f
    · rw [if_pos e, if_pos e, if_pos e]
      rfl
    · rw [if_neg e, if_neg e, if_neg e, ih]
      rfl
theorem putX_reps {fp : Nat → Option Addr} {Hs : Hp} {f : Str} {x : D} {v : V} (rx : Rep K fp Hs x v) : ∀ {ns : List Str} {ds : List D} {vs : List V}, ns.length = ds.length → Reps K fp Hs ds vs → Reps K fp Hs (putX f x ns ds) (putV f v ns vs)
  | [], [], vs, _, r => by
    rw [r.nil_inv]
    exact Reps.cons rx Reps.nil
  | [], _ :: _, vs, h, _ => by simp at h
  | _ :: _, [], vs, h, _ => by simp at h
  | n :: ns, d :: ds, vs, h, r => by
    obtain ⟨u, r', rfl, r1, r2⟩ := r.cons_inv
    unfold putX putV
    by_cases e : n = f
    · rw [if_pos e, if_pos e]
      exact Reps.cons rx r2
    · rw [if_neg e, if_neg e]
      exact Reps.cons r1 (putX_reps rx (by simpa using h) r2)
theorem putX_length (f : Str) (x : D) : ∀ (ns : List Str) (ds : List D), ns.length = ds.length → (putN f ns).length = (putX f x ns ds).length
  | [], [], _ => rfl
  | [], _ :: _, h => by simp at h
  | _ :: _, [], h => by simp at h
  | n :: ns, d :: ds, h => by
    unfold putN putX
    by_cases e : n = f
    · rw [if_pos e, if_pos e]
      simpa using h
    · rw [if_neg e, if_neg e]
      simpa using putX_length f x ns ds (by simpa using h)
/-! ### e.f -/
def xFld (C : Addr) (f : Str) (A : TEd) : TEd := fun ρ μ => (A ρ μ).bind fun d μ1 => match d with
  | .cel k => (match μ1[k]? with
    | some (.ins C' ns xs) => if C' = C then (match getF f ns xs with
      | some x => .ok x μ1
      | none => .no) else .no
    | _ => .no)
  | _ => .no
theorem xFld_ok {C : Addr} {f : Str} {A : TEd} {ρ : En} {μ : Mu} {d : D} {μ1 : Mu} (e : A ρ μ = .ok d μ1) (hn : xFld C f A ρ μ ≠ .no) : ∃ k ns xs x, d = .cel k ∧ μ1[k]? = some (.ins C ns xs) ∧ getF f ns xs = some x ∧ xFld C f A ρ μ = .ok x μ1 := by
  unfold xFld at hn ⊢
  rw [e, Res.bind_ok] at hn ⊢
  cases d with
  | cel k =>
    dsimp only at hn ⊢
    cases q : μ1[k]? with
    | none => rw [q] at hn; exact absurd rfl hn
    | some c =>
      cases c with
      | ins C' ns xs =>
        rw [q] at hn
        dsimp only at hn ⊢
        by_cases hC : C' = C
        · subst hC
          rw [if_pos rfl] at hn ⊢
          cases q2 : getF f ns xs with
          | none => rw [q2] at hn; exact absurd rfl hn
          | some x => exact ⟨k, ns, xs, x, rfl, q, q2, rfl⟩
        · rw [if_neg hC] at hn
          exact absurd rfl hn
      | _ => rw [q] at hn; exact absurd rfl hn
  | _ => exact absurd rfl hn
theorem sim_fld {C : Addr} {f : Str} {ta : TE} {A : TEd} (c : Cls K C) (na : NoAttr K C f) (ha : SimE K XC Wx ta A) : SimE K XC Wx (tFld K ta f) (xFld C f A) := by
  intro W σ ρ μ Q hs he q qx hn
  refine ha W σ ρ μ _ hs he (fun W1 v d μ1 e1 s1 h1 r1 => ?_) (fun W1 dx c' d μ1 e1 s1 h1 r1 => ?_) (fun e => by unfold xFld at hn; rw [e] at hn; exact hn rfl)
  · obtain ⟨k, ns, xs, x, rfl, e2, e3, e4⟩ := xFld_ok e1 hn
    obtain ⟨a, dx, vs, rfl, f1, f2, f3, f4, f5⟩ := ins_at h1 e2 r1
    obtain ⟨u, hu, ru⟩ := getF_zip f5 e3
    exact ⟨a, C, dx, _, u, rfl, f2, c, na, hu, q W1 u x μ1 e4 s1 h1 ru⟩
  · exact qx W1 dx c' d μ1 (by unfold xFld; rw [e1]; rfl) s1 h1 r1
/-- an instance's fields are written -/
theorem ins_write {W : Wd} {μ : Mu} {k : Nat} {a dx C : Addr} {ns ns' : List Str} {ds ds' : List D} {vs' : List V} (h : StOk K W μ) (e : μ[k]? = some (.ins C ns ds)) (f : W.fps[k]? = some [a, dx]) (hd : W.H dx = some (.own a)) (hl : ns'.length = ds'.length) (r : Reps K W.fp W.Hs ds' vs') :
    Step W ⟨W.fps, W.Hs, upd W.H a (.ins C dx (ns'.zip vs'))⟩ ∧ StOk K ⟨W.fps, W.Hs, upd W.H a (.ins C dx (ns'.zip vs'))⟩ (μ.set k (.ins C ns' ds')) := by
  have hlv := h.live k _ _ e (by simp) f
  have hs : W.Hs a = none := hlv a (by simp)
  have hk : k < μ.length := (List.getElem?_eq_some_iff.mp e).1
  have nd : W.H a ≠ none := h.dom a (flat_mem f (by simp))
  have hne : dx ≠ a := fun z => by
    obtain ⟨fp2, g1, a2, dx2, vs2, g2, g3, g4, _⟩ := fps_of h e
    rw [f] at g1
    cases g1
    cases g2
    rw [z, g3] at g4
    cases g4
  refine ⟨⟨⟨[], by simp⟩, Ex.refl _, fun b u hb hn => ?_, fun b hb => ?_, fun b hb => .inl hb, fun b hb => .inl hb⟩, ⟨fun b u hb => ?_, by simp [h.len], h.nd, fun b hb => ?_, fun j c fp e1 e2 => ?_, fun j c fp e1 hc e2 b hb => ?_⟩⟩
  · show upd W.H a _ b = some u
    rw [upd_ne (fun z => hn (by rw [z]; exact flat_mem f (by simp)))]
    exact hb
  · show upd W.H a _ b ≠ none
    by_cases z : b = a
    · rw [z, upd_same]
      simp
    · rw [upd_ne z]
      exact hb
  · show upd W.H a _ b = some u
    rw [upd_ne (fun z => by rw [z, hs] at hb; cases hb)]
    exact h.ex b u hb
  · show upd W.H a _ b ≠ none
    by_cases z : b = a
    · rw [z, upd_same]
      simp
    · rw [upd_ne z]
      exact h.dom b hb
  · have e2' : W.fps[j]? = some fp := e2
    by_cases z : j = k
    · subst z
      rw [List.getElem?_set_self hk] at e1
      cases e1
      rw [f] at e2'
      cases e2'
      exact ⟨a, dx, vs', rfl, upd_same, by show upd W.H a _ dx = _; rw [upd_ne hne]; exact hd, hl, r⟩
    · rw [List.getElem?_set_ne (fun q => z q.symm)] at e1
      refine (h.cell j c fp e1 e2').move (fun _ _ x => x) (Ex.refl _) fun b hb u q => ?_
      show upd W.H a _ b = some u
      rw [upd_ne (fun y => z (nodup_flat h.nd e2' f hb (by rw [y]; simp)))]
      exact q
  · have e2' : W.fps[j]? = some fp := e2
    by_cases z : j = k
    · subst z
      rw [f] at e2'
      cases e2'
      exact hlv b hb
    · rw [List.getElem?_set_ne (fun q => z q.symm)] at e1
      exact h.live j c fp e1 hc e2' b hb
/-- o.f = e -/
def xSetF (C : Addr) (f : Str) (A B : TEd) : TSd := fun ρ μ => match B ρ μ with
  | .ok y μ1 => (match A ρ μ1 with
    | .ok (.cel k) μ2 => (match μ2[k]? with
      | some (.ins C' ns xs) => if C' = C ∧ ns.length < 1000 then .nx ρ (μ2.set k (.ins C (putN f ns) (putX f y ns xs))) else .no
      | _ => .no)
    | .exc c d μ2 => .exc c d ρ μ2
    | _ => .no)
  | .exc c d μ1 => .exc c d ρ μ1
  | .no => .no
theorem sim_setF {C : Addr} {f : Str} {ta tv : TE} {A B : TEd} (c : Cls K C) (na : NoAttr K C f) (ha : SimE K XC Wx ta A) (hb : SimE K XC Wx tv B) : SimS K XC Wx (sFld K ta tv f) (xSetF C f A B) := by
  intro W σ ρ μ Dn hs he qn qr qb qc qx hn
  unfold xSetF at qn qx hn
  refine hb W σ ρ μ _ hs he (fun W1 y v μ1 e1 s1 h1 r1 => ?_) (fun W1 dx c' d μ1 e1 s1 h1 r1 => ?_) (fun e => by rw [e] at hn; exact hn rfl)
  · simp only [e1] at qn qx hn
    refine ha W1 σ ρ μ1 _ h1 (he.step s1) (fun W2 x d μ2 e2 s2 h2 r2 => ?_) (fun W2 dx c' d μ2 e2 s2 h2 r2 => ?_) (fun e => by rw [e] at hn; exact hn rfl)
    · simp only [e2] at qn hn
      cases d with
      | cel k =>
        dsimp only at qn hn
        cases q : μ2[k]? with
        | none => rw [q] at hn; exact absurd rfl hn
        | some cc =>
          cases cc with
          | ins C' ns xs =>
            simp only [q] at qn hn
            by_cases hC : C' = C ∧ ns.length < 1000
            · rw [if_pos hC] at qn
              obtain ⟨rfl, hl⟩ := hC
              obtain ⟨a, dx, vs, rfl, f1, f2, f3, f4, f5⟩ := ins_at h2 q r2
              have hz : ns.length = vs.length := by rw [f4, f5.length]
              have r1' := s2.rep r1
              obtain ⟨s3, h3⟩ := ins_write (ns' := putN f ns) (ds' := putX f v ns xs) (vs' := putV f y ns vs) h2 q f1 f3 (putX_length f v ns xs f4) (putX_reps r1' f4 f5)
              refine ⟨a, C', dx, _, rfl, f2, c, na, by rw [List.length_zip, hz]; omega, ?_⟩
              rw [putF_zip f y ns vs hz]
              exact qn _ σ ρ _ rfl ((s1.trans s2).trans s3) h3 (he.step ((s1.trans s2).trans s3))
            · rw [if_neg hC] at hn
              exact absurd rfl hn
          | _ => rw [q] at hn; exact absurd rfl hn
      | _ => exact absurd rfl hn
    · simp only [e2] at qx
      exact qx W2 dx σ c' d ρ μ2 rfl (s1.trans s2) h2 (he.step (s1.trans s2)) r2
  · simp only [e1] at qx
    exact qx W1 dx σ c' d ρ μ1 rfl s1 h1 (he.step s1) r1
/-- a new instance -/
theorem ins_new {W : Wd} {μ : Mu} {x dx C : Addr} (h : StOk K W μ) (hp : W.H x = none) (hd : W.H dx = none) (ne : dx ≠ x) :
    Step W ⟨W.fps ++ [[x, dx]], W.Hs, upd (upd W.H dx (.own x)) x (.ins C dx [])⟩ ∧ StOk K ⟨W.fps ++ [[x, dx]], W.Hs, upd (upd W.H dx (.own x)) x (.ins C dx [])⟩ (μ ++ [.ins C [] []]) ∧
    Rep K (Wd.fp ⟨W.fps ++ [[x, dx]], W.Hs, upd (upd W.H dx (.own x)) x (.ins C dx [])⟩) W.Hs (.cel μ.length) (.ref x) := by
  have hso : ∀ b, W.H b = none → W.Hs b = none := fun b hb => by
    cases q : W.Hs b with
    | none => rfl
    | some u => rw [h.ex b u q] at hb; cases hb
  have hf : ∀ b, W.H b = none → b ∉ W.fps.flatten := fun b hb z => h.dom b z hb
  have old : ∀ b u, W.H b = some u → upd (upd W.H dx (.own x)) x (.ins C dx []) b = some u := fun b u q => by
    rw [upd_ne (fun z => by rw [z, hp] at q; cases q), upd_ne (fun z => by rw [z, hd] at q; cases q)]
    exact q
  have oldn : ∀ b, W.H b ≠ none → upd (upd W.H dx (.own x)) x (.ins C dx []) b ≠ none := fun b hb => by
    cases q : W.H b with
    | none => exact absurd q hb
    | some u => rw [old b u q]; simp
  have s : Step W ⟨W.fps ++ [[x, dx]], W.Hs, upd (upd W.H dx (.own x)) x (.ins C dx [])⟩ := by
    refine ⟨⟨[[x, dx]], rfl⟩, Ex.refl _, fun b u hb _ => old b u hb, oldn, fun b hb => ?_, fun b hb => .inl hb⟩
    have hb' : b ∈ (W.fps ++ [[x, dx]]).flatten := hb
    rw [List.flatten_append, List.mem_append] at hb'
    rcases hb' with z | z
    · exact .inl z
    · simp at z
      rcases z with z | z
      · rw [z]; exact .inr hp
      · rw [z]; exact .inr hd
  refine ⟨s, ⟨fun b u hb => old b u (h.ex b u hb), by simp [h.len], ?_, fun b hb => ?_, fun j c fp e1 e2 => ?_, fun j c fp e1 hc e2 b hb => ?_⟩, ?_⟩
  · show (W.fps ++ [[x, dx]]).flatten.Nodup
    rw [List.flatten_append, List.nodup_append]
    refine ⟨h.nd, by simp [Ne.symm ne], fun a ha y hy e => ?_⟩
    simp at hy
    rcases hy with hy | hy
    · rw [e, hy] at ha; exact hf x hp ha
    · rw [e, hy] at ha; exact hf dx hd ha
  · have hb' : b ∈ (W.fps ++ [[x, dx]]).flatten := hb
    rw [List.flatten_append, List.mem_append] at hb'
    show upd (upd W.H dx (.own x)) x (.ins C dx []) b ≠ none
    rcases hb' with z | z
    · exact oldn b (h.dom b z)
    · simp at z
      rcases z with z | z
      · rw [z, upd_same]; simp
      · rw [z, upd_ne ne, upd_same]; simp
  · have e2' : (W.fps ++ [[x, dx]])[j]? = some fp := e2
    by_cases hj : j < μ.length
    · rw [List.getElem?_append_left hj] at e1
      rw [List.getElem?_append_left (by rw [h.len]; exact hj)] at e2'
      exact (h.cell j c fp e1 e2').move s.fp (Ex.refl _) fun b hb u q => old b u q
    · rw [List.getElem?_append_right (by omega)] at e1
      rw [List.getElem?_append_right (by rw [h.len]; omega), h.len] at e2'
      cases hz : j - μ.length with
      | zero =>
        rw [hz] at e1 e2'
        simp at e1 e2'
        subst e1
        subst e2'
        exact ⟨x, dx, [], rfl, upd_same, by show upd (upd W.H dx (.own x)) x (.ins C dx []) dx = _; rw [upd_ne ne, upd_same], rfl, Reps.nil⟩
      | succ n =>
        rw [hz] at e1
        simp at e1
  · have e2' : (W.fps ++ [[x, dx]])[j]? = some fp := e2
    by_cases hj : j < μ.length
    · rw [List.getElem?_append_left hj] at e1
      rw [List.getElem?_append_left (by rw [h.len]; exact hj)] at e2'
      exact h.live j c fp e1 hc e2' b hb
    · rw [List.getElem?_append_right (by rw [h.len]; omega), h.len] at e2'
      cases hz : j - μ.length with
      | zero =>
        rw [hz] at e2'
        simp at e2'
        subst e2'
        have hb' : b = x ∨ b = dx := by simpa using hb
        rcases hb' with z | z
        · rw [z]; exact hso x hp
        · rw [z]; exact hso dx hd
      | succ n =>
        rw [hz] at e2'
        simp at e2'
  · unfold Rep
    refine ⟨x, rfl, ?_⟩
    show (W.fps ++ [[x, dx]])[μ.length]?.bind List.head? = some x
    rw [← h.len, List.getElem?_append_right (Nat.le_refl _), Nat.sub_self]
    rfl
/-- C(..) -/
def xMake (C : Addr) (n : Nat) (F : FD) (T : TAd) : TEd := fun ρ μ => (T ρ μ).bind fun ds μ1 => if ds.length + 1 = n then (match F (.cel μ1.length :: ds) (μ1 ++ [.ins C [] []]) with
  | .ok .non μ2 => .ok (.cel μ1.length) μ2
  | _ => .no) else .no
theorem sim_make {C : Addr} {n : Nat} {F : FD} {t : TA} {T : TAd} (ha : SimA K XC Wx t T) : SimE K XC Wx (tMake C (spD K XC n F) [] (fun _ _ _ => False) t) (xMake C n F T) := by
  intro W σ ρ μ Q h he q qx hn
  unfold xMake at q qx hn
  refine ha W σ ρ μ _ h he (fun W1 vs ds μ1 e1 s1 h1 r1 => ?_) (fun W1 dx c d μ1 e1 s1 h1 r1 => ?_) (fun e => by rw [e] at hn; exact hn rfl)
  · rw [e1, Res.bind_ok] at q qx hn
    intro x dx hx hd ne
    by_cases hl : ds.length + 1 = n
    · rw [if_pos hl] at q hn
      obtain ⟨s2, h2, r2⟩ := ins_new (C := C) h1 hx hd ne
      rw [List.append_nil]
      cases hF : F (.cel μ1.length :: ds) (μ1 ++ [.ins C [] []]) with
      | no => rw [hF] at hn; exact absurd rfl hn
      | exc c d μ2 => rw [hF] at hn; exact absurd rfl hn
      | ok d μ2 =>
        rw [hF] at q hn
        cases d with
        | non =>
          refine ⟨_, .cel μ1.length :: ds, _, rfl, h2, Reps.cons r2 (s2.reps r1), hl, fun W2 v d μ3 e3 s3 h3 r3 => ?_, fun W2 dx c d μ3 e3 => ?_, ?_⟩
          · rw [hF] at e3
            cases e3
            exact ⟨rep_non_inv r3, q W2 _ _ μ2 rfl ((s1.trans s2).trans s3) h3 (s3.rep r2)⟩
          · rw [hF] at e3
            cases e3
          · rw [hF]
            simp
        | _ => exact absurd rfl hn
    · rw [if_neg hl] at hn
      exact absurd rfl hn
  · rw [e1] at qx
    exact qx W1 dx c d μ1 rfl s1 h1 r1
/-- o.m(..) -/
def xMeth (C : Addr) (m : Str) (n : Nat) (F : FD) (A : TEd) (T : TAd) : TEd := fun ρ μ => (A ρ μ).bind fun d μ1 => match d with
  | .cel k => (match μ1[k]? with
    | some (.ins C' ns xs) => if C' = C ∧ ns.contains m = false then (T ρ μ1).bind fun ds μ2 => if ds.length + 1 = n then F (.cel k :: ds) μ2 else .no else .no
    | _ => .no)
  | _ => .no
def tMethS (C : Addr) (m : Str) (sp : Sp) (E : L2.St → XK) (ta : TE) (t : TA) : TE := fun σ H Q => ta σ H fun x H1 => ∃ a dx fs, x = .ref a ∧ H1 a = some (.ins C dx fs) ∧ fs.lookup m = none ∧ t σ H1 fun vs H2 => sp (x :: vs) H2 Q (E σ)
theorem sim_meth {C : Addr} {m : Str} {n : Nat} {F : FD} {ta : TE} {A : TEd} {t : TA} {T : TAd} (ho : SimE K XC Wx ta A) (ha : SimA K XC Wx t T) : SimE K XC Wx (tMethS C m (spD K XC n F) (WE Wx) ta t) (xMeth C m n F A T) := by
  intro W σ ρ μ Q h he q qx hn
  unfold xMeth at q qx hn
  refine ho W σ ρ μ _ h he (fun W1 v d μ1 e1 s1 h1 r1 => ?_) (fun W1 dx c d μ1 e1 s1 h1 r1 => ?_) (fun e => by rw [e] at hn; exact hn rfl)
  · rw [e1, Res.bind_ok] at q qx hn
    cases d with
    | cel k =>
      dsimp only at q qx hn
      cases z : μ1[k]? with
      | none => rw [z] at hn; exact absurd rfl hn
      | some cc =>
        cases cc with
        | ins C' ns xs =>
          simp only [z] at q qx hn
          by_cases hC : C' = C ∧ ns.contains m = false
          · rw [if_pos hC] at q qx hn
            obtain ⟨rfl, hm⟩ := hC
            obtain ⟨a, dx, vs, rfl, f1, f2, f3, f4, f5⟩ := ins_at h1 z r1
            refine ⟨a, dx, _, rfl, f2, noF_zip hm, ?_⟩
            refine ha W1 σ ρ μ1 _ h1 (he.step s1) (fun W2 ws ds μ2 e2 s2 h2 r2 => ?_) (fun W2 dx c d μ2 e2 s2 h2 r2 => ?_) (fun e => by rw [e] at hn; exact hn rfl)
            · rw [e2, Res.bind_ok] at q qx hn
              by_cases hl : ds.length + 1 = n
              · rw [if_pos hl] at q qx hn
                exact ⟨W2, .cel k :: ds, μ2, rfl, h2, Reps.cons (s2.rep r1) r2, hl, fun W3 v d μ3 e3 s3 h3 r3 => q W3 v d μ3 e3 ((s1.trans s2).trans s3) h3 r3, fun W3 dx c d μ3 e3 s3 h3 r3 => qx W3 dx c d μ3 e3 ((s1.trans s2).trans s3) h3 r3, hn⟩
              · rw [if_neg hl] at hn
                exact absurd rfl hn
            · rw [e2] at qx
              exact qx W2 dx c d μ2 rfl (s1.trans s2) h2 r2
          · rw [if_neg hC] at hn
            exact absurd rfl hn
        | _ => rw [z] at hn; exact absurd rfl hn
    | _ => exact absurd rfl hn
  · rw [e1] at qx
    exact qx W1 dx c d μ1 rfl s1 h1 r1
end
section
variable {X : Cx} {XC : Nat → Addr} {Wx : WX} {a b c e o : Expr} {es rest : List Expr} {pos pos' apos p p1 p2 q : Pos} {ta tb tc te : TE} {A B C : TEd} {t t' : L2.TA} {TT' : TAd} {x m f : Str}
theorem pe_methW {k : Nat} {C fa : Addr} {fd : FuncData} {ps : List Str} {sp : Sp} {E : L2.St → XK} {pl : Sem Bool} (he : PE X o ta) (c : Cls X.K C) (hm : Meth X.K C m fa) (F : FnOk X.prog X.w X.K X.mg X.base (L2.CX X.prog X.w) k fa fd ps sp) (hr : Room k X.A) (hb : Binds X.K fd ps []) (hx : ∀ σ, PassesAt (L2.CX X.prog X.w) X σ (E σ)) (ha : PA X (e :: es) t)
    (hst : starEach (e :: es) X.env = (false, eval e X.env) :: starEach es X.env) (hpl : (backTo pos (starEach es X.env)).any (·.1) = false)
    (ht : eval (.Call (.Attribute o m apos) (e :: es) [] pos) X.env = (do
      let ov ← eval o X.env
      standAt apos.atName
      let (f, first) ← holding [ov] (getMethod ov m pl)
      callWith pos f first (backTo pos (starEach (e :: es) X.env)) (backToKw pos (keywordEach [] X.env)))) :
    PE X (.Call (.Attribute o m apos) (e :: es) [] pos) (tMethS C m sp E ta t) := by
  refine ⟨fun pins s σ H Q I h => ?_⟩
  refine PySem.W.methodCall_KW (pl := pl) (thn (he.run pins s σ H _ I h) fun u s1 ⟨x, H1, I1, rx, a, dx, fs, ex, ea, l, q⟩ => ?_) ht
  subst ex
  obtain rfl : u = Value.ref a := rx
  refine getmeth_ok I1 ea c hm l ?_
  refine PySem.W.callWith_K (first := [.ref a]) (h₀ := X.base) I.ok.mod.kin hm.kp (thn (ha.run pos pins s1 σ H1 _ I1 q) fun us s2 ⟨vs, H2, I2, r, q2⟩ => ⟨I2.kIn, ?_⟩) hst hpl
  exact run_fnS (E := E) (us := .ref a :: us) (vs := .ref a :: vs) F hr hb (hx σ) I2 (.cons rfl r) q2
theorem pe_methW0 {k : Nat} {C fa : Addr} {fd : FuncData} {ps : List Str} {sp : Sp} {E : L2.St → XK} {pl : Sem Bool} (he : PE X o ta) (c : Cls X.K C) (hm : Meth X.K C m fa) (F : FnOk X.prog X.w X.K X.mg X.base (L2.CX X.prog X.w) k fa fd ps sp) (hr : Room k X.A) (hb : Binds X.K fd ps []) (hx : ∀ σ, PassesAt (L2.CX X.prog X.w) X σ (E σ))
    (ht : eval (.Call (.Attribute o m apos) [] [] pos) X.env = (do
      let ov ← eval o X.env
      standAt apos.atName
      let (f, first) ← holding [ov] (getMethod ov m pl)
      callWith pos f first (backTo pos (starEach [] X.env)) (backToKw pos (keywordEach [] X.env)))) :
    PE X (.Call (.Attribute o m apos) [] [] pos) (tMethS C m sp E ta tNil) := by
  refine ⟨fun pins s σ H Q I h => ?_⟩
  refine PySem.W.methodCall_KW (pl := pl) (thn (he.run pins s σ H _ I h) fun u s1 ⟨x, H1, I1, rx, a, dx, fs, ex, ea, l, q⟩ => ?_) ht
  subst ex
  obtain rfl : u = Value.ref a := rx
  refine getmeth_ok I1 ea c hm l ?_
  exact PySem.W.callWith_K0 (first := [.ref a]) I1.kIn hm.kp (run_fnS (E := E) (us := [.ref a]) (vs := [.ref a]) F hr hb (hx σ) I1 (.cons rfl .nil) q)
/-- a method of the class at C -/
structure MethC (P : Program) (w : World) (K : PySem.W.Frag) (mg : Str → Option Value) (base : Heap) (XC : Nat → Addr) (C : Addr) (m : Str) (k : Nat) (ps : List Str) (F : FD) : Prop where
  made : ∃ (f : Addr) (fd : FuncData), Meth K C m f ∧ FnOk P w K mg base (L2.CX P w) k f fd ps (spD K XC ps.length F) ∧ Binds K fd ps []
theorem d_fld {C : Addr} (c : Cls X.K C) (na : NoAttr X.K C f) (ha : EX X XC Wx a ta A) (hb : attributeBase a f X.env (eval a X.env) = eval a X.env := by rfl) : EX X XC Wx (.Attribute a f pos) (tFld X.K ta f) (xFld C f A) := ⟨pe_fld ha.1 hb, sim_fld c na ha.2⟩
theorem s_fld {C : Addr} (c : Cls X.K C) (na : NoAttr X.K C f) (ha : EX X XC Wx a ta A) (hv : EX X XC Wx b tb B) (hs : swapsWith b (some (.Attribute a f pos')) pos.line X.env = pure false := by rfl) : SX' X XC Wx (.Assign [.Attribute a f pos'] b pos) (sFld X.K ta tb f) (xSetF C f A B) := ⟨ps_fld ha.1 hv.1 hs, sim_setF c na ha.2 hv.2⟩
theorem d_meth {pl : Sem Bool} {k n : Nat} {C : Addr} {ps : List Str} {F : FD} (c : Cls X.K C) (M : MethC X.prog X.w X.K X.mg X.base XC C m k ps F) (hr : Room k X.A) (tk : Takes X Wx) (ho : EX X XC Wx o ta A) (ha : AX X XC Wx (e :: es) t TT') (hn : ps.length = n := by rfl)
    (hst : starEach (e :: es) X.env = (false, eval e X.env) :: starEach es X.env := by rfl) (hpl : (backTo pos (starEach es X.env)).any (·.1) = false := by rfl)
    (ht : eval (.Call (.Attribute o m apos) (e :: es) [] pos) X.env = (do
      let ov ← eval o X.env
      standAt apos.atName
      let (f, first) ← holding [ov] (getMethod ov m pl)
      callWith pos f first (backTo pos (starEach (e :: es) X.env)) (backToKw pos (keywordEach [] X.env))) := by rfl) :
    EX X XC Wx (.Call (.Attribute o m apos) (e :: es) [] pos) (tMethS C m (spD X.K XC n F) (WE Wx) ta t) (xMeth C m n F A TT') := by
  subst hn
  obtain ⟨fa, fd, hm, Fn, hb⟩ := M.made
  exact ⟨pe_methW ho.1 c hm Fn hr hb (fun σ => passAt tk σ) ha.1 hst hpl ht, sim_meth ho.2 ha.2⟩
theorem d_meth0 {pl : Sem Bool} {k n : Nat} {C : Addr} {ps : List Str} {F : FD} (c : Cls X.K C) (M : MethC X.prog X.w X.K X.mg X.base XC C m k ps F) (hr : Room k X.A) (tk : Takes X Wx) (ho : EX X XC Wx o ta A) (hn : ps.length = n := by rfl)
    (ht : eval (.Call (.Attribute o m apos) [] [] pos) X.env = (do
      let ov ← eval o X.env
      standAt apos.atName
      let (f, first) ← holding [ov] (getMethod ov m pl)
      callWith pos f first (backTo pos (starEach [] X.env)) (backToKw pos (keywordEach [] X.env))) := by rfl) :
    EX X XC Wx (.Call (.Attribute o m apos) [] [] pos) (tMethS C m (spD X.K XC n F) (WE Wx) ta tNil) (xMeth C m n F A xNil) := by
  subst hn
  obtain ⟨fa, fd, hm, Fn, hb⟩ := M.made
  exact ⟨pe_methW0 ho.1 c hm Fn hr hb (fun σ => passAt tk σ) ht, sim_meth ho.2 sim_nil⟩
theorem d_make {k n : Nat} {C fa : Addr} {fd : FuncData} {ps : List Str} {F : FD} (M : Mk X.K C fa) (Fn : FnOk X.prog X.w X.K X.mg X.base (L2.CX X.prog X.w) k fa fd ps (spD X.K XC ps.length F)) (hb : Binds X.K fd ps []) (hm : X.mg x = some (.ref C)) (hr : Room (k + 1) X.A) (ha : AX X XC Wx (e :: es) t TT') (hn : ps.length = n := by rfl)
    (hg : Gl X x := by rfl) (hdb : (x == ("__debug__" : Str)) = false := by decide) (he : starEach (e :: es) X.env = (false, eval e X.env) :: starEach es X.env := by rfl) (hpl : (backTo pos (starEach es X.env)).any (·.1) = false := by rfl) :
    EX X XC Wx (.Call (.Name x p) (e :: es) [] pos) (tMake C (spD X.K XC n F) [] (fun _ _ _ => False) t) (xMake C n F TT') := by
  subst hn
  exact ⟨pe_make M Fn hr hg hm hb .nil passL ha.1 hdb he hpl, sim_make ha.2⟩
theorem d_pop {q : Pos} (ho : EX X XC Wx a ta A) (hbase : attributeBase a "pop" X.env (eval a X.env) = eval a X.env := by rfl) (hline : (q.endLine == pos.line) = true := by rfl) : EX X XC Wx (.Call (.Attribute a "pop" q) [] [] pos) (tBM0 X.K "list" rPop ta) (xMt0 fPop A) :=
  ⟨pe_bm0 PySem.F.plainAttrs_list PySem.F.slot_list_pop PySem.F.type_list_pop mt_pop ho.1 hbase hline, sim_mt0 does_pop ho.2⟩
end
end DL
end
section
set_option maxRecDepth 100000
set_option maxHeartbeats 2000000
/-! DTry: try: .. except C as n: told = (word, n.f). -/
namespace DL
open PySem PySem.Spec PyProof.Rows L2
/-- what the except suite reads -/
def tTell (C : Addr) (fld word : Str) (i j : Nat) : Addr → Value → Option Addr → TS := fun a cls d => tAsg (tTup (tCons (tC (.str word)) (tCons (tXf a cls d C fld (tVar i)) tNil))) (gName j)
def xTry (c : Nat) (word : Str) (i j : Nat) (T : TSd) : TSd := fun ρ μ => match T ρ μ with
  | .exc c' d ρ1 μ1 => if c' = c ∧ i < ρ1.length then .nx ((ρ1.set j (some (.tup [.str word, d]))).set i none) μ1 else .no
  | o => o
section
variable {K : PySem.W.Frag} {XC : Nat → Addr} {Wx : WX}
theorem sim_try {c : Nat} {word : Str} {i j : Nat} {tb : WX → TS} {T : TSd} (hx : PySem.W.exmOne K (.ref (XC c)) (.ref (XC c)) = some true) (hij : i ≠ j) (hb : ∀ W, SimS K XC W (tb W) T) :
    SimS K XC Wx (fun Dn σ H => tb (wAs K (.ref (XC c)) i (tTell (XC c) (fldOf c) word i j) Wx Dn) Dn σ H) (xTry c word i j T) := by
  intro W σ ρ μ Dn hs he qn qr qb qc qx hn
  unfold xTry at qn qr qb qc qx hn
  refine hb _ W σ ρ μ Dn hs he (fun W1 σ1 ρ1 μ1 e1 => qn W1 σ1 ρ1 μ1 (by rw [e1])) (fun W1 v d μ1 e1 => qr W1 v d μ1 (by rw [e1])) (fun W1 σ1 ρ1 μ1 e1 => qb W1 σ1 ρ1 μ1 (by rw [e1])) (fun W1 σ1 ρ1 μ1 e1 => qc W1 σ1 ρ1 μ1 (by rw [e1])) (fun W1 dx σ1 c' d ρ1 μ1 e1 s1 h1 he1 r1 => ?_) (fun e => by rw [e] at hn; exact hn rfl)
  by_cases hc : c' = c ∧ i < ρ1.length
  · rw [e1] at qn
    dsimp only at qn
    rw [if_pos hc] at qn
    obtain ⟨rfl, hi⟩ := hc
    refine ⟨true, hx, fun _ a ha => ?_, fun z => Bool.noConfusion z⟩
    obtain ⟨v, hv, rv⟩ := r1
    have hi' : i < σ1.length := by rw [← he1.1]; exact hi
    refine ⟨.ref a, by rw [List.getElem?_set_self hi'], rfl, rfl, dx, _, v, rfl, hv, by simp, ?_⟩
    have fin : ∀ p, W1.H p = none → Dn.nx ((((σ1.set i (some (.ref a))).set j (some (.ref p)))).set i none) (upd W1.H p (.tup [.str word, v])) := fun p hp => by
      obtain ⟨s2, h2, r2⟩ := rep_tup_new (ds := [.str word, d]) h1 (Reps.cons rep_str (Reps.cons rv Reps.nil)) hp
      have e : (((σ1.set i (some (.ref a))).set j (some (.ref p)))).set i none = (σ1.set j (some (.ref p))).set i none := by
        rw [List.set_comm _ _ hij, List.set_set]
      rw [e]
      exact qn _ _ _ μ1 rfl (s1.trans s2) h2 (((he1.step s2).set j r2).unset i)
    exact ⟨by show 2 ≤ sizeLine; decide, fun p hp => fin p hp⟩
  · rw [e1] at hn
    dsimp only at hn
    rw [if_neg hc] at hn
    exact absurd rfl hn
end
section
variable {X : Cx} {XC : Nat → Addr} {Wx : WX} {body : List Stmt} {pos pos' np p1 p2 p3 p4 p5 q1 : Pos} {n x y f : Str} {k1 k2 : Nat}
/-- a wish's own way out -/
def xeOf (X : Cx) (W : WX) : Value → Shared → Prop := fun e s' => wpAny (model X.prog X.w) X.A (leaving X.env e) (fun _ s'' => L2.CX X.prog X.w X.outer X.H_0 X.s_0 (fun cls d H => ∃ σ, W cls d σ H) e s'') (fun _ _ => False) s'
theorem takes_xe {W : WX} (hs : X.stack = X.env :: X.outer) (hf : X.env.frame = some X.env.locals) (hex : X.ex = []) : Takes (X.tr [] (xeOf X W)) W := fun u s' x =>
  XE.leave (X := X.tr [] (xeOf X W)) (E := fun cls d H => ∃ σ, W cls d σ H) hs hf hex (fun _ _ σ _ h => ⟨σ, h⟩) x
theorem s_try {c i j : Nat} {word : Str} {tb : WX → List (Addr × Obj) → (Value → Shared → Prop) → TS} {T : TSd} (hN : X.N.Nodup) (T9 : X.mg x = some (.ref (XC c))) (XF : XfC X.K (XC c)) (hno : PySem.W.findIn X.K (.ref (XC c)) (fldOf c) = some none) (hx : PySem.W.exmOne X.K (.ref (XC c)) (.ref (XC c)) = some true) (tk : Takes X Wx)
    (hb : ∀ (W : WX) (pn : List (Addr × Obj)) (xe : Value → Shared → Prop), Takes (X.tr pn xe) W → PassesOwn (model X.prog X.w) X.A X.env xe → BX (X.tr pn xe) XC W body (tb W pn xe) T)
    (hk : ∀ W pn xe, tb W pn xe = tb W [] X.xe := by exact fun _ _ _ => rfl) (hex : X.ex = [] := by rfl) (hs : X.stack = X.env :: X.outer := by rfl) (hf : X.env.frame = some X.env.locals := by rfl) (hi : X.N[i]? = some n := by rfl) (hj : X.N[j]? = some y := by rfl) (hij : i ≠ j := by decide) (hln : X.env.kindOf n = some .local := by rfl) (hlj : X.env.scope.names.lookup y = some .local := by rfl) (hvi : Vis X.env.scope n := by exact Or.inl rfl) (hg : Gl X x := by rfl) (hdb : (x == ("__debug__" : Str)) = false := by decide)
    (hdn : (n == ("__debug__" : Str)) = false := by decide) (hcn : (n == ("__classdict__" : Str)) = false := by decide) (hfl : fldOf c = f := by rfl)
    (hat : attributeBase (.Name n p2) f X.env (eval (.Name n p2) X.env) = eval (.Name n p2) X.env := by rfl)
    (hst1 : starEach [.Constant (.str word) k1 p3, .Attribute (.Name n p2) f p4] X.env = (false, eval (.Constant (.str word) k1 p3) X.env) :: starEach [.Attribute (.Name n p2) f p4] X.env := by rfl)
    (hst2 : starEach [.Attribute (.Name n p2) f p4] X.env = (false, eval (.Attribute (.Name n p2) f p4) X.env) :: starEach [] X.env := by rfl)
    (hsw : swapsWith (.Tuple [.Constant (.str word) k1 p3, .Attribute (.Name n p2) f p4] k2 p5) (some (.Name y p1)) q1.line X.env = pure false := by rfl) :
    SX' X XC Wx (.Try body [.ExceptHandler (some (.Name x np)) (some n) [.Assign [.Name y p1] (.Tuple [.Constant (.str word) k1 p3, .Attribute (.Name n p2) f p4] k2 p5) q1] pos'] [] [] pos) (fun Dn σ H => tb (wAs X.K (.ref (XC c)) i (tTell (XC c) (fldOf c) word i j) Wx Dn) [] X.xe Dn σ H) (xTry c word i j T) := by
  subst hfl
  have hb' : ∀ (W : WX) (pn : List (Addr × Obj)) (xe : Value → Shared → Prop), Takes (X.tr pn xe) W → PassesOwn (model X.prog X.w) X.A X.env xe → BX (X.tr pn xe) XC W body (tb W [] X.xe) T := fun W pn xe tk po => hk W pn xe ▸ hb W pn xe tk po
  refine ⟨ps_try_as (tb := fun W => tb W [] X.xe) hs hf hN hi hln ⟨hg, hdb, .inl T9⟩ tk (fun W pn xe tk' po => (hb' W pn xe tk' po).1) fun a oe cls d pn hz hfd => ?_, sim_try (tb := fun W => tb W [] X.xe) hx hij (fun W => (hb' W [] (xeOf X W) (takes_xe hs hf hex) (passes_of (X := X.tr [] (xeOf X W)) rfl)).2)⟩
  exact pss_one (ps_set (X := X.suite a ((a, oe) :: pn)) hN hj (.inl hlj) (pe_tup (pa_cons pe_str (pa_cons (pe_xf XF hno hz hfd (pe_var hi hvi hdn hcn) hat) pa_nil hst2) hst1)) hsw (.inr hlj))
end
end DL
end
section
set_option maxRecDepth 100000
set_option maxHeartbeats 2000000
/-! DFun: a def's function is what its body's term computes. -/
namespace DL
open PySem PySem.Spec PyProof.Rows L2
/-- a def (or method) of the text, with or without defaults -/
structure FunV (K : PySem.W.Frag) (x qual : Str) (st : Stmt) (f : Addr) (fd : FuncData) : Prop where
  ex : ∃ (oc : Value) (od : Option Addr) (dV kV doc pm : Value) (an : Option Addr) (cdv ct : Value) (osl : Array (Option Value)),
    fd = PySem.W.fnOf x qual (defArgs st) (defBody st) (defScope st) dV kV doc pm an cdv ct ∧ K.lookup f = some ⟨oc, od, .func fd, osl⟩ ∧ PySem.W.codeIn K cdv qual = true
  kp : PySem.W.keepIn K (.ref f) = true
theorem funV_mk {K : PySem.W.Frag} {x qual : Str} {st : Stmt} {f : Addr} {oc : Value} {od an : Option Addr} {osl : Array (Option Value)} {dV kV doc pm cdv ct : Value} (l : K.lookup f = some ⟨oc, od, .func (PySem.W.fnOf x qual (defArgs st) (defBody st) (defScope st) dV kV doc pm an cdv ct), osl⟩)
    (c : PySem.W.codeIn K cdv qual = true) (k : PySem.W.keepIn K (.ref f) = true) : FunV K x qual st f (PySem.W.fnOf x qual (defArgs st) (defBody st) (defScope st) dV kV doc pm an cdv ct) := ⟨⟨oc, od, dV, kV, doc, pm, an, cdv, ct, osl, rfl, l, c⟩, k⟩
theorem FunV.binds {K : PySem.W.Frag} {x qual : Str} {st : Stmt} {f : Addr} {fd : FuncData} {ps : List Str} (F : FunV K x qual st f fd)
    (h : ∀ (dV kV doc pm : Value) (an : Option Addr) (cdv ct : Value) (us : List Value), us.length = ps.length → bindArgs (PySem.W.fnOf x qual (defArgs st) (defBody st) (defScope st) dV kV doc pm an cdv ct) ⟨us, []⟩ = pure (ps.zip us)) : Binds K fd ps [] := by
  obtain ⟨oc, od, dV, kV, doc, pm, an, cdv, ct, osl, rfl, lk, hcd⟩ := F.ex
  exact .all (h dV kV doc pm an cdv ct)
/-- the function of a body, on cells -/
def FC (n : Nat) (T : TSd) : FD := fun ds μ => match T (ds.map some ++ List.replicate (n - ds.length) none) μ with
  | .rt d μ' => .ok d μ'
  | .nx _ μ' => .ok .non μ'
  | .exc c d _ μ' => .exc c d μ'
  | _ => .no
/-- the function of a body that works on no cell -/
def FP (n : Nat) (T : TSd) : List D → PR := fun ds => if noCels ds = true then (match T (ds.map some ++ List.replicate (n - ds.length) none) [] with
  | .rt d _ => if noCel d = true then .ok d else .no
  | .nx _ _ => .ok .non
  | .exc c d _ _ => if noCel d = true then .exc c d else .no
  | _ => .no) else .no
theorem fp_ok {n : Nat} {T : TSd} {ds : List D} {d : D} (h : FP n T ds = .ok d) : noCels ds = true ∧ noCel d = true ∧ ∃ g, FC n T ds [] = .ok d g := by
  unfold FP at h
  unfold FC
  by_cases nc : noCels ds = true
  · rw [if_pos nc] at h
    refine ⟨nc, ?_⟩
    generalize T (ds.map some ++ List.replicate (n - ds.length) none) [] = O at h
    cases O with
    | rt x μ1 =>
      dsimp only at h
      by_cases nd : noCel x = true
      · rw [if_pos nd] at h
        cases h
        exact ⟨nd, _, rfl⟩
      · rw [if_neg nd] at h
        cases h
    | nx ρ μ1 =>
      cases h
      exact ⟨rfl, _, rfl⟩
    | exc c x ρ μ1 =>
      dsimp only at h
      by_cases nd : noCel x = true
      · rw [if_pos nd] at h
        cases h
      · rw [if_neg nd] at h
        cases h
    | _ => cases h
  · rw [if_neg nc] at h
    cases h
theorem fp_exc {n : Nat} {T : TSd} {ds : List D} {c : Nat} {d : D} (h : FP n T ds = .exc c d) : noCels ds = true ∧ noCel d = true ∧ ∃ g, FC n T ds [] = .exc c d g := by
  unfold FP at h
  unfold FC
  by_cases nc : noCels ds = true
  · rw [if_pos nc] at h
    refine ⟨nc, ?_⟩
    generalize T (ds.map some ++ List.replicate (n - ds.length) none) [] = O at h
    cases O with
    | rt x μ1 =>
      dsimp only at h
      by_cases nd : noCel x = true
      · rw [if_pos nd] at h
        cases h
      · rw [if_neg nd] at h
        cases h
    | nx ρ μ1 => cases h
    | exc c x ρ μ1 =>
      dsimp only at h
      by_cases nd : noCel x = true
      · rw [if_pos nd] at h
        cases h
        exact ⟨nd, _, rfl⟩
      · rw [if_neg nd] at h
        cases h
    | _ => cases h
  · rw [if_neg nc] at h
    cases h
section
variable {P : Program} {w : World} {K : PySem.W.Frag} {mg : Str → Option Value} {base : Heap} {XC : Nat → Addr}
theorem okC {x qual : Str} {st : Stmt} {f : Addr} {fd : FuncData} {N ps : List Str} {k : Nat} {T : TSd} (Fn : FunV K x qual st f fd) (S : FnScope N ps (defScope st))
    (hbody : ∀ (cdv : Value) (A : Around) (outer : List Env) (s : Shared) (H : Hp) (E : XK), Room k (A.deeper (envOfC qual (defScope st) s.heap.objs.size f cdv)) →
      ∃ t, PSs (cxOf (L2.CX P w) P w K mg base N qual (defScope st) f cdv A outer s H E) (defBody st) t ∧ SimS K XC (fun c d _ H => E c d H) t T) :
    OkD P w K mg base XC (k + 1) f fd ps (FC N.length T) := by
  obtain ⟨oc, od, dV, kV, doc, pm, an, cdv', ct, osl, rfl, lk, hcd⟩ := Fn.ex
  refine fn_of lk hcd S (fun vs H Q E h => ?_) (fun A outer s H vs Q E hr h => ?_)
  · obtain ⟨W, ds, μ, _, _, r, hl, _⟩ := h
    rw [← r.length, hl]
  · obtain ⟨W, ds, μ, rfl, hs, r, hl, q, qx, hn⟩ := h
    obtain ⟨t, hp, sim⟩ := hbody cdv' A outer s W.H E hr
    refine ⟨t, hp, ?_⟩
    unfold FC at q qx hn
    refine sim W (L2.start N vs) (startD N ds) μ _ hs (envOk_start r) (fun W' σ' ρ' μ2 e2 s' h' he' => ?_) (fun W' v d' μ2 e2 s' h' r' => ?_) (fun W' σ' ρ' μ2 e2 => ?_) (fun W' σ' ρ' μ2 e2 => ?_) (fun W' dx σ' c d' ρ' μ2 e2 s' h' he' r' => ?_) ?_
    · unfold startD at e2
      rw [e2] at q
      exact q W' .non .non μ2 rfl s' h' rep_non
    · unfold startD at e2
      rw [e2] at q
      exact q W' v d' μ2 rfl s' h' r'
    · unfold startD at e2
      rw [e2] at hn
      exact absurd rfl hn
    · unfold startD at e2
      rw [e2] at hn
      exact absurd rfl hn
    · unfold startD at e2
      rw [e2] at qx
      exact qx W' dx c d' μ2 rfl s' h' r'
    · intro e
      unfold startD at e
      rw [e] at hn
      exact hn rfl
theorem okP {x qual : Str} {st : Stmt} {f : Addr} {fd : FuncData} {N ps : List Str} {k : Nat} {T : TSd} (Fn : FunV K x qual st f fd) (S : FnScope N ps (defScope st))
    (hbody : ∀ (cdv : Value) (A : Around) (outer : List Env) (s : Shared) (H : Hp) (E : XK), Room k (A.deeper (envOfC qual (defScope st) s.heap.objs.size f cdv)) →
      ∃ t, PSs (cxOf (L2.CX P w) P w K mg base N qual (defScope st) f cdv A outer s H E) (defBody st) t ∧ SimS K XC (fun c d _ H => E c d H) t T) :
    OkD P w K mg base XC (k + 1) f fd ps (liftP (FP N.length T)) := by
  have G := okC (ps := ps) Fn S hbody
  refine G.imp fun vs H Q E h => ?_
  obtain ⟨W, ds, μ, rfl, hs, r, hl, q, qx, hn⟩ := h
  have back : ∀ W' g, Step ⟨[], W.Hs, W.H⟩ W' → StOk K W' g → Step W ⟨W.fps, W'.Hs, W'.H⟩ ∧ StOk K ⟨W.fps, W'.Hs, W'.H⟩ μ := fun W' g s' h' => by
    have kp : ∀ a o, W.H a = some o → W'.H a = some o := fun a o e => s'.out a o e (by simp)
    refine ⟨⟨⟨[], by simp⟩, s'.hs, fun a o e _ => kp a o e, s'.dom, fun a ha => .inl ha, fun a ha => ?_⟩, ⟨h'.ex, hs.len, hs.nd, fun a ha => s'.dom a (hs.dom a ha), fun k c fp e1 e2 => ?_, fun k c fp e1 hc e2 a ha => ?_⟩⟩
    · rcases s'.news a ha with z | z | z
      · exact .inl z
      · exact .inr (.inl z)
      · simp at z
    · exact (hs.cell k c fp e1 e2).move (fun _ _ x => x) s'.hs fun a _ o e => kp a o e
    · have e2' : W.fps[k]? = some fp := e2
      have q1 := hs.live k c fp e1 hc e2' a ha
      have q2 := hs.dom a (flat_mem e2' ha)
      show W'.Hs a = none
      cases z : W'.Hs a with
      | none => rfl
      | some u =>
        rcases s'.news a (by rw [z]; simp) with y | y | y
        · exact absurd q1 y
        · exact absurd y q2
        · simp at y
  have hc : StOk K ⟨[], W.Hs, W.H⟩ [] := ⟨hs.ex, rfl, by simp, fun a ha => by simp at ha, fun k c fp e => by simp at e, fun k c fp e => by simp at e⟩
  unfold liftP at q qx hn
  cases e : FP N.length T ds with
  | no => rw [e] at hn; exact absurd rfl hn
  | ok d =>
    obtain ⟨nc, nd, g, e'⟩ := fp_ok e
    rw [e] at q
    refine ⟨⟨[], W.Hs, W.H⟩, ds, [], rfl, hc, Reps.anyfp nc r, hl, fun W' v d' μ' e2 s' h' r' => ?_, fun W' dx c d' μ' e2 s' h' r' => ?_, fun e2 => ?_⟩
    · rw [e'] at e2
      cases e2
      obtain ⟨s2, h2⟩ := back W' _ s' h'
      exact q ⟨W.fps, W'.Hs, W'.H⟩ v d μ rfl s2 h2 (Rep.anyfp nd r')
    · rw [e'] at e2
      cases e2
    · rw [e'] at e2
      cases e2
  | exc c d =>
    obtain ⟨nc, nd, g, e'⟩ := fp_exc e
    rw [e] at qx
    refine ⟨⟨[], W.Hs, W.H⟩, ds, [], rfl, hc, Reps.anyfp nc r, hl, fun W' v d' μ' e2 s' h' r' => ?_, fun W' dx c d' μ' e2 s' h' r' => ?_, fun e2 => ?_⟩
    · rw [e'] at e2
      cases e2
    · rw [e'] at e2
      cases e2
      obtain ⟨s2, h2⟩ := back W' _ s' h'
      obtain ⟨v, hx, rv⟩ := r'
      exact qx ⟨W.fps, W'.Hs, W'.H⟩ dx _ _ μ rfl s2 h2 ⟨v, hx, Rep.anyfp nd rv⟩
    · rw [e'] at e2
      cases e2
end
end DL
end
section
set_option maxRecDepth 100000
set_option maxHeartbeats 1000000
/-! DRules3: constants of the module; sums. -/
namespace DL
open PySem PySem.Spec PyProof.Rows L2
section
variable {X : Cx} {XC : Nat → Addr} {Wx : WX} {p : Pos} {x : Str}
theorem d_gstrE {i : Str} (h : ∃ tk, X.mg x = some (Value.str i tk)) (hg : Gl X x := by rfl) (hd : (x == ("__debug__" : Str)) = false := by decide) : EX X XC Wx (.Name x p) (tC (.str i)) (xC (.str i)) := by
  obtain ⟨tk, h⟩ := h
  exact d_gstr hg h ⟨tk, rfl⟩ hd
theorem d_gintE {i : Int} (h : ∃ tk, X.mg x = some (Value.int i tk)) (hg : Gl X x := by rfl) (hd : (x == ("__debug__" : Str)) = false := by decide) : EX X XC Wx (.Name x p) (tC (.int i)) (xC (.int i)) := by
  obtain ⟨tk, h⟩ := h
  exact d_gint hg h ⟨tk, rfl⟩ hd
end
abbrev fSumL := fOnInts fun ns => some (D.int ns.sum)
end DL
end
section
set_option maxRecDepth 100000
set_option maxHeartbeats 1000000
/-! DEnd: the class of an own exception from the written part; the law's own promise. -/
namespace DL
open PySem PySem.Spec PyProof.Rows L2
theorem excC_mk {P : Program} {w : World} {K : PySem.W.Frag} {mg : Str → Option Value} {base : Heap} {XC : Nat → Addr} {c : Nat} {x y qual : Str} {B nid iid : String} {bm : List Value} {st : Stmt} {fI : Addr} {fd : FuncData} (TB : BaseB B nid iid bm) (g : mg x = some (.ref (XC c))) (T : OexB K (XC c) bm nid)
    (iC : PySem.W.findIn K (.ref (XC c)) "__init__" = some (some (.ref fI))) (tI : PySem.W.typeIn K (.ref fI) = some (.type "function")) (Fn : Fun K "__init__" qual st fI fd) (S : FnScope ["self", y] ["self", y] (defScope st)) (hno : PySem.W.findIn K (.ref (XC c)) (fldOf c) = some none) (bd : Binds K fd ["self", y] [])
    (hbody : ∀ (cdv : Value) (A : Around) (outer : List Env) (s : Shared) (H : Hp) (E : XK), PSs (cxOf (L2.CX P w) P w K mg base ["self", y] qual (defScope st) fI cdv A outer s H E) (defBody st) (tSeq (tDrop (tVeB K bm nid (tCons (tVar 0) (tCons (tVar 1) tNil)))) (tOstB K bm nid (fldOf c) (tVar 0) (tVar 1)))) :
    ExcC P w K mg base XC c x := ⟨g, bm, nid, iid, B, fI, fd, y, T, TB, iC, tI, init_of Fn S T hno hbody, bd⟩
/-- a def with defaults, all its parameters given -/
theorem binds_dfl {K : PySem.W.Frag} {fd : FuncData} {ps : List Str} {T : Addr} {o : Obj} {its : Array Value} {n : Nat} (lT : K.lookup T = some o) (oT : o.data = .seq its n)
    (h : ∀ us : List Value, us.length = ps.length → ∃ k : Option (Array Value) → Sem (List (Str × Value)), bindArgs fd ⟨us, []⟩ = seqItems? (.ref T) >>= k ∧ k (some its) = pure (ps.zip us)) : Binds K fd ps [] := fun s us X hl => by
  rw [List.append_nil] at hl ⊢
  obtain ⟨k, e1, e2⟩ := h us hl
  refine BindsTo.of_looks fun M => ?_
  rw [e1]
  exact looks_items X lT oT (PySem.W.Looks.of_pure e2)
/-- «except C» names an error of the class at C itself -/
theorem exm_self {K : PySem.W.Frag} {S : Addr} (h1 : PySem.W.subIn K (.ref S) (.type "BaseException") = some true) (h2 : PySem.W.isClsIn K S = true) (h3 : PySem.W.typeIn K (.ref S) = some (.type "type")) (h4 : PySem.W.subIn K (.ref S) (.ref S) = some true) :
    PySem.W.exmOne K (.ref S) (.ref S) = some true := by
  have e1 : (PySem.W.subIn K (.ref S) (.type "BaseException") == some true) = true := by rw [h1] <;> rfl
  have e2 : ((PySem.W.clsIn K S).isSome && PySem.W.typeIn K (.ref S) == some (.type "type")) = true := by
    have h2' : (PySem.W.clsIn K S).isSome = true := h2
    rw [h2', h3] <;> rfl
  show (if (PySem.W.subIn K (.ref S) (.type "BaseException") == some true) = true then (if ((PySem.W.clsIn K S).isSome && PySem.W.typeIn K (.ref S) == some (.type "type")) = true then PySem.W.subIn K (.ref S) (.ref S) else none) else none) = some true
  rw [if_pos e1, if_pos e2]
  exact h4
/-- the law's promise: whatever the classes' addresses are -/
def spAll (F : Addr → FD) (K : PySem.W.Frag) : Sp := fun vs H Q E => ∀ (HC : Addr) (XC : Nat → Addr), spD K XC 1 (F HC) vs H Q E
theorem law_sp {F : Addr → FD} {K : PySem.W.Frag} {H : Hp} {a : Addr} {ns : List Int} (hF : ∀ HC, ∃ μ, F HC [.frz (nums ns)] [] = .ok (.bl true) μ) (hS : SqL K H a (ns.map V.int)) : spAll F K [.ref a] H (fun v _ => v = .bl true) fun _ _ _ => False := by
  intro HC XC
  obtain ⟨μ, e⟩ := hF HC
  refine ⟨⟨[], H, H⟩, [.frz (nums ns)], [], rfl, ⟨Ex.refl H, rfl, by simp, fun a ha => by simp at ha, fun k c fp e => by simp at e, fun k c fp e => by simp at e⟩, Reps.cons ?_ Reps.nil, rfl, fun W' v d μ' e2 s h r => ?_, fun W' dx c d μ' e2 => ?_, fun e2 => ?_⟩
  · unfold Rep
    exact ⟨a, ns.map V.int, rfl, hS, reps_ints ns⟩
  · rw [e] at e2
    cases e2
    exact rep_bl_inv r
  · rw [e] at e2
    cases e2
  · rw [e] at e2
    cases e2
end DL
end
section
set_option maxRecDepth 100000
set_option maxHeartbeats 4000000
namespace DL
open PySem PySem.Spec PyProof.Rows L2
def T__law_cells : TSd :=
  (xSeq (xAsg (xOrT (xCB fListC (xCons (xSl (xVar 0) xNoPart (xPart (xVar 1))) xNil)) (xLstC (xCons (xC (.int 0)) xNil))) (xgName 2))
  (xSeq (xFor (xEn (xSl (xVar 0) (xPart (xVar 1)) (xPart (xC (.int 63))))) (xgTup 2 (xgCons (xgName 3) (xgCons (xgName 4) xgNil)))
  (xSeq (xAsg (xOp fMod (xCB fInt1 (xCons (xVar 3) xNil)) (xVar 1)) (xgName 5))
  (xAsg (xOp fAdd (xOp fIx (xVar 2) (xVar 5)) (xOp fMulI (xVar 4) (xOp fAdd (xVar 3) (xC (.int 2))))) (xgSub (xVar 2) (xVar 5)))))
  (xFrz 2 (xRet (xVar 2)))))
def F__law_cells : List D → PR := FP 6 T__law_cells
def T__law_box : TSd :=
  (xSeq (xAsg (xIf (xTest (xOp fLt (xVar 1) (xCB fLen (xCons (xVar 0) xNil)))) (xOp fIx (xVar 0) (xVar 1)) (xC (.int 0))) (xgName 2))
  (xRet (xLstC (xCons (xOp fMulI (xCB fAbs (xCons (xVar 2) xNil)) (xCB fInt1 (xCons (xOp fGe (xCB fAbs (xCons (xVar 2) xNil)) (xOp fPow (xC (.int 10)) (xC (.int 18)))) xNil))) (xCons (xOp fAdd (xOp fAdd (xOp fMod (xCB fInt1 (xCons (xVar 2) xNil)) (xC (.int 2305843009213693951))) (xOp fMulI (xC (.int 39373)) (xVar 1))) (xC (.int 366500))) (xCons (xC (.int 0)) xNil))))))
def F__law_box : FD := FC 3 (T__law_box)
def T__law_take : TSd :=
  (xSeq (xIfS (xTest (xOp fGt (xOp fIx (xVar 0) (xC (.int 0))) (xC (.int 0)))) (xSeq (xAsg (xOp fMod (xCB fInt1 (xCons (xOp fIx (xVar 0) (xC (.int 0))) xNil)) (xVar 1)) (xgName 2))
  (xSeq (xAsg (xOp fDiv (xOp fIx (xVar 0) (xC (.int 0))) (xVar 1)) (xgSub (xVar 0) (xC (.int 0))))
  (xRet (xVar 2)))) xNext)
  (xSeq (xAsg (xOp fAdd (xOp fIx (xVar 0) (xC (.int 2))) (xC (.int 1))) (xgSub (xVar 0) (xC (.int 2))))
  (xSeq (xAsg (xOp fMod (xCB fInt1 (xCons (xOp fMulI (xOp fAdd (xOp fIx (xVar 0) (xC (.int 1))) (xOp fMulI (xC (.int 48271)) (xOp fIx (xVar 0) (xC (.int 2))))) (xOp fAdd (xC (.int 39373)) (xOp fIx (xVar 0) (xC (.int 2))))) xNil)) (xC (.int 2147483647))) (xgName 3))
  (xSeq (xAsg (xOp fAdd (xOp fMod (xCB fInt1 (xCons (xVar 3) xNil)) (xC (.int 40009))) (xC (.int 7))) (xgName 4))
  (xSeq (xAsg (xOp fMod (xCB fInt1 (xCons (xOp fMulI (xOp fAdd (xOp fAdd (xVar 3) (xOp fIx (xVar 0) (xC (.int 2)))) (xOp fDiv (xOp fIx (xVar 0) (xC (.int 1))) (xC (.int 1000003)))) (xVar 4)) xNil)) (xC (.int 2147483629))) (xgName 5))
  (xRet (xOp fMod (xCB fInt1 (xCons (xOp fDiv (xOp fMod (xCB fInt1 (xCons (xOp fAdd (xOp fMulI (xVar 5) (xC (.int 48271))) (xVar 3)) xNil)) (xC (.int 2147483587))) (xC (.int 64))) xNil)) (xVar 1))))))))
def F__law_take : FD := FC 6 (T__law_take)
def T__law_great : TSd :=
  (xSeq (xPar 2 3 (xCons (xLstC (xCons (xCall 2 F__law_take (xCons (xVar 0) (xCons (xC (.int 9)) xNil))) xNil)) (xCons (xC (.int 0)) xNil)))
  (xSeq (xAsg (xOp fAdd (xC (.int 1)) (xCall 2 F__law_take (xCons (xVar 0) (xCons (xVar 1) xNil)))) (xgName 4))
  (xSeq (xFor (xRg1 (xCons (xC (.int 40)) xNil)) (xgName 5)
  (xSeq (xPar 6 7 (xCons (xOrV (xOp fEq (xOp fMod (xVar 5) (xC (.int 2))) (xC (.int 1))) (xOp fEq (xCall 2 F__law_take (xCons (xVar 0) (xCons (xC (.int 2)) xNil))) (xC (.int 0)))) (xCons (xOp fAdd (xC (.int 1)) (xCall 2 F__law_take (xCons (xVar 0) (xCons (xC (.int 4)) xNil)))) xNil)))
  (xFor (xRg1 (xCons (xVar 7) xNil)) (xgName 8)
  (xIfS (xTest (xOp fLt (xCB fLen (xCons (xVar 2) xNil)) (xVar 4))) (xSeq (xAsg (xOp fIx (xVar 2) (xOp fSub (xCB fLen (xCons (xVar 2) xNil)) (xC (.int 1)))) (xgName 9))
  (xSeq (xAsg (xIf (xOr (xTest (xVar 6)) (xTest (xOp fEq (xOp fMod (xOp fAdd (xVar 8) (xVar 5)) (xC (.int 2))) (xC (.int 0))))) (xOp fAdd (xOp fAdd (xVar 9) (xC (.int 1))) (xCall 2 F__law_take (xCons (xVar 0) (xCons (xC (.int 3)) xNil)))) (xOp fSub (xOp fSub (xVar 9) (xC (.int 1))) (xCall 2 F__law_take (xCons (xVar 0) (xCons (xC (.int 5)) xNil))))) (xgName 3))
  (xDrop (xMt fApp (xVar 2) (xCons (xVar 3) xNil))))) xNext))))
  (xFrz 2 (xRet (xCB fTuple (xCons (xVar 2) xNil)))))))
def F__law_great : FD := FC 10 (T__law_great)
def T__law_soft (F : FD) : TSd :=
  (xRet (xIf (xTest (xIsi (fun d => isLst d || isTup d) (xVar 0))) (xLc (xSeq1 (xVar 0)) (xgName 1) xYes (xCall 1 F (xCons (xVar 1) xNil)) [1]) (xVar 0)))
def F__law_soft : Nat → List D → PR
  | 0 => fun _ => .no
  | k + 1 => FP 2 (T__law_soft (liftP (F__law_soft k)))
def T_Hall_init (HC : Addr) : TSd :=
  (xSeq (xSetF HC "own_rows" (xVar 0) (xLstC (xCons (xCB fTuple (xCons (xVar 1) xNil)) xNil)))
  (xSetF HC "own_log" (xVar 0) (xLstC xNil)))
def F_Hall_init (HC : Addr) : FD := FC 2 (T_Hall_init HC)
def T__law_called : TSd :=
  (xSeq (xIfS (xNot (xTest (xChain fLt fLt (xC (.int 0)) (xVar 1) (xOp fSub (xCB fLen (xCons (xVar 0) xNil)) (xC (.int 1)))))) (xRet (xVar 0)) xNext)
  (xRet (xOp fAdd (xOp fAdd (xSl (xVar 0) xNoPart (xPart (xVar 1))) (xTup (xCons (xOp fIx (xCB fSortedA (xCons (xSl (xVar 0) (xPart (xOp fSub (xVar 1) (xC (.int 1)))) (xPart (xOp fAdd (xVar 1) (xC (.int 2))))) xNil)) (xC (.int 1))) xNil))) (xSl (xVar 0) (xPart (xOp fAdd (xVar 1) (xC (.int 1)))) xNoPart))))
def F__law_called : List D → PR := FP 2 T__law_called
def T_Hall_row (HC : Addr) : TSd :=
  (xRet (xOp fIx (xFld HC "own_rows" (xVar 0)) (xUn fNeg (xC (.int 1)))))
def F_Hall_row (HC : Addr) : FD := FC 1 (T_Hall_row HC)
def T_look_person : TSd :=
  (xIfS (xNot (xTest (xChain fLe fLt (xC (.int 0)) (xVar 1) (xCB fLen (xCons (xVar 0) xNil))))) (xRaise 0 (xVar 1)) xNext)
def F_look_person : List D → PR := FP 2 T_look_person
def T_middle_of : TSd :=
  (xSeq (xIfS (xTest (xOp (fIn false) (xVar 1) (xTup (xCons (xC (.int 0)) (xCons (xOp fSub (xCB fLen (xCons (xVar 0) xNil)) (xC (.int 1))) xNil))))) (xRet (xOp fIx (xVar 0) (xVar 1))) xNext)
  (xRet (xOp fIx (xCB fSortedA (xCons (xLst (xCons (xOp fIx (xVar 0) (xOp fSub (xVar 1) (xC (.int 1)))) (xCons (xOp fIx (xVar 0) (xVar 1)) (xCons (xOp fIx (xVar 0) (xOp fAdd (xVar 1) (xC (.int 1)))) xNil)))) xNil)) (xC (.int 1)))))
def F_middle_of : List D → PR := FP 2 T_middle_of
def T_called : TSd :=
  (xSeq (xDrop (xCall 2 (liftP F_look_person) (xCons (xVar 0) (xCons (xVar 1) xNil))))
  (xSeq (xAsg (xCall 2 (liftP F_middle_of) (xCons (xVar 0) (xCons (xVar 1) xNil))) (xgName 2))
  (xRet (xCB fTuple (xCons (xLc (xEn (xVar 0)) (xgTup 2 (xgCons (xgName 3) (xgCons (xgName 4) xgNil))) xYes (xIf (xTest (xOp fEq (xVar 3) (xVar 1))) (xVar 2) (xVar 4)) [3, 4]) xNil)))))
def F_called : List D → PR := FP 5 T_called
def T_Hall_call (HC : Addr) : TSd :=
  (xSeq (xDrop (xMt fApp (xFld HC "own_rows" (xVar 0)) (xCons (xCall 2 (liftP F_called) (xCons (xMeth HC "row" 1 (F_Hall_row HC) (xVar 0) xNil) (xCons (xVar 1) xNil))) xNil)))
  (xRet (xOp fIx (xMeth HC "row" 1 (F_Hall_row HC) (xVar 0) xNil) (xVar 1))))
def F_Hall_call (HC : Addr) : FD := FC 2 (T_Hall_call HC)
def T_middle : TSd :=
  (xSeq (xDrop (xCall 2 (liftP F_look_person) (xCons (xVar 0) (xCons (xVar 1) xNil))))
  (xRet (xCall 2 (liftP F_middle_of) (xCons (xVar 0) (xCons (xVar 1) xNil)))))
def F_middle : List D → PR := FP 2 T_middle
def T__law_same (F : FD) : TSd :=
  (xSeq (xIfS (xTest (xIsi (fun d => isLst d || isTup d) (xVar 1))) (xSeq (xIfS (xOr (xTest (xOp fNe (xIsi isLst (xVar 0)) (xIsi isLst (xVar 1)))) (xTest (xOp fNe (xIsi isTup (xVar 0)) (xIsi isTup (xVar 1))))) (xRet (xC (.bl false))) xNext)
  (xRet (xAndV (xOp fEq (xCB fLen (xCons (xVar 0) xNil)) (xCB fLen (xCons (xVar 1) xNil))) (xCB fAll (xCons (xLc (xZp (xCons (xVar 0) (xCons (xVar 1) xNil))) (xgTup 2 (xgCons (xgName 2) (xgCons (xgName 3) xgNil))) xYes (xCall 2 F (xCons (xVar 2) (xCons (xVar 3) xNil))) [2, 3]) xNil))))) xNext)
  (xSeq (xIfS (xOr (xTest (xOp fIsN (xVar 1) (xC .non))) (xTest (xIsi (fun d => isBool d || isStr d) (xVar 1)))) (xRet (xAndV (xOp fEq (xIsi isStr (xVar 0)) (xIsi isStr (xVar 1))) (xAndV (xOp fEq (xIsi isBool (xVar 0)) (xIsi isBool (xVar 1))) (xAndV (xOp fEq (xOp fIsN (xVar 0) (xC .non)) (xOp fIsN (xVar 1) (xC .non))) (xOp fEq (xVar 0) (xVar 1)))))) xNext)
  (xRet (xAndV (xIsi isInt (xVar 0)) (xAndV (xNotV (xIsi isBool (xVar 0))) (xOp fEq (xVar 0) (xVar 1)))))))
def F__law_same : Nat → List D → PR
  | 0 => fun _ => .no
  | k + 1 => FP 4 (T__law_same (liftP (F__law_same k)))
def T_inner : TSd :=
  (xRet (xRgL false (xCons (xC (.int 1)) (xCons (xOp fSub (xCB fLen (xCons (xVar 0) xNil)) (xC (.int 1))) xNil))))
def F_inner : List D → PR := FP 1 T_inner
def T_tops : TSd :=
  (xRet (xLc (xSeq1 (xCall 1 (liftP F_inner) (xCons (xVar 0) xNil))) (xgName 1) (xTest (xChain fLt fGt (xOp fIx (xVar 0) (xOp fSub (xVar 1) (xC (.int 1)))) (xOp fIx (xVar 0) (xVar 1)) (xOp fIx (xVar 0) (xOp fAdd (xVar 1) (xC (.int 1)))))) (xVar 1) [1]))
def F_tops : List D → PR := FP 2 T_tops
def T_dips : TSd :=
  (xRet (xLc (xSeq1 (xCall 1 (liftP F_inner) (xCons (xVar 0) xNil))) (xgName 1) (xTest (xChain fGt fLt (xOp fIx (xVar 0) (xOp fSub (xVar 1) (xC (.int 1)))) (xOp fIx (xVar 0) (xVar 1)) (xOp fIx (xVar 0) (xOp fAdd (xVar 1) (xC (.int 1)))))) (xVar 1) [1]))
def F_dips : List D → PR := FP 2 T_dips
def T_look_many : TSd :=
  (xIfS (xTest (xOp fNe (xCB fLen (xCons (xVar 0) xNil)) (xCB fLen (xCons (xVar 1) xNil)))) (xRaise 4 (xCB fLen (xCons (xVar 1) xNil))) xNext)
def F_look_many : List D → PR := FP 2 T_look_many
def T_wrong_orders : TSd :=
  (xSeq (xAsg (xLstC xNil) (xgName 2))
  (xSeq (xFor (xRg1 (xCons (xOp fSub (xCB fLen (xCons (xVar 0) xNil)) (xC (.int 1))) xNil)) (xgName 3)
  (xSeq (xPar 4 5 (xCons (xOp fSub (xOp fIx (xVar 0) (xOp fAdd (xVar 3) (xC (.int 1)))) (xOp fIx (xVar 0) (xVar 3))) (xCons (xOp fSub (xOp fIx (xVar 1) (xOp fAdd (xVar 3) (xC (.int 1)))) (xOp fIx (xVar 1) (xVar 3))) xNil)))
  (xIfS (xOr (xTest (xChain fLt fLt (xVar 4) (xC (.int 0)) (xVar 5))) (xOr (xTest (xChain fGt fGt (xVar 4) (xC (.int 0)) (xVar 5))) (xTest (xChain fEq fNe (xVar 4) (xC (.int 0)) (xVar 5))))) (xDrop (xMt fApp (xVar 2) (xCons (xVar 3) xNil))) xNext)))
  (xFrz 2 (xRet (xVar 2)))))
def F_wrong_orders : List D → PR := FP 6 T_wrong_orders
def T_wrong_changes : TSd :=
  (xSeq (xPar3 2 3 4 (xCons (xCall 1 (liftP F_tops) (xCons (xVar 0) xNil)) (xCons (xCall 1 (liftP F_dips) (xCons (xVar 0) xNil)) (xCons (xLstC xNil) xNil))))
  (xSeq (xFor (xEz (xCons (xVar 0) (xCons (xVar 1) xNil))) (xgTup 2 (xgCons (xgName 5) (xgCons (xgTup 2 (xgCons (xgName 6) (xgCons (xgName 7) xgNil))) xgNil)))
  (xIfS (xNot (xOr (xTest (xOp fEq (xVar 6) (xVar 7))) (xOr (xAnd (xTest (xOp (fIn false) (xVar 5) (xVar 2))) (xTest (xOp fLt (xVar 7) (xVar 6)))) (xAnd (xTest (xOp (fIn false) (xVar 5) (xVar 3))) (xTest (xOp fGt (xVar 7) (xVar 6))))))) (xDrop (xMt fApp (xVar 4) (xCons (xVar 5) xNil))) xNext))
  (xFrz 4 (xRet (xVar 4)))))
def F_wrong_changes : List D → PR := FP 8 T_wrong_changes
def T_runs : TSd :=
  (xSeq (xAsg (xLc (xRg1 (xCons (xCB fLen (xCons (xVar 0) xNil)) xNil)) (xgName 2) (xOr (xTest (xOp fEq (xVar 2) (xC (.int 0)))) (xTest (xOp fNe (xOp fIx (xVar 0) (xVar 2)) (xOp fIx (xVar 0) (xOp fSub (xVar 2) (xC (.int 1))))))) (xVar 2) [2]) (xgName 1))
  (xRet (xLc (xZp (xCons (xVar 1) (xCons (xOp fAdd (xSl (xVar 1) (xPart (xC (.int 1))) xNoPart) (xLst (xCons (xCB fLen (xCons (xVar 0) xNil)) xNil))) xNil))) (xgTup 2 (xgCons (xgName 3) (xgCons (xgName 4) xgNil))) xYes (xTup (xCons (xVar 3) (xCons (xOp fSub (xVar 4) (xC (.int 1))) xNil))) [3, 4])))
def F_runs : List D → PR := FP 5 T_runs
def T_stayed : TSd :=
  (xRet (xLc (xRg2 (xCons (xVar 2) (xCons (xOp fAdd (xVar 3) (xC (.int 1))) xNil))) (xgName 4) (xTest (xOp fEq (xOp fIx (xVar 0) (xVar 4)) (xOp fIx (xVar 1) (xVar 4)))) (xVar 4) [4]))
def F_stayed : List D → PR := FP 5 T_stayed
def T_wrong_runs : TSd :=
  (xRet (xLc (xSeq1 (xCall 1 (liftP F_runs) (xCons (xVar 1) xNil))) (xgTup 2 (xgCons (xgName 2) (xgCons (xgName 3) xgNil))) (xTest (xOp fEq (xCB fLen (xCons (xCall 4 (liftP F_stayed) (xCons (xVar 0) (xCons (xVar 1) (xCons (xVar 2) (xCons (xVar 3) xNil))))) xNil)) (xC (.int 0)))) (xVar 2) [2, 3]))
def F_wrong_runs : List D → PR := FP 4 T_wrong_runs
def T_bar : TSd :=
  (xSeq (xDrop (xCall 2 (liftP F_look_many) (xCons (xVar 0) (xCons (xVar 1) xNil))))
  (xSeq (xFor (xSeq1 (xTup (xCons (xTup (xCons (xC (.str "change")) (xCons (xCall 2 (liftP F_wrong_changes) (xCons (xVar 0) (xCons (xVar 1) xNil))) xNil))) (xCons (xTup (xCons (xC (.str "order")) (xCons (xCall 2 (liftP F_wrong_orders) (xCons (xVar 0) (xCons (xVar 1) xNil))) xNil))) xNil)))) (xgTup 2 (xgCons (xgName 2) (xgCons (xgName 3) xgNil)))
  (xIfS (xTest (xOp fGt (xCB fLen (xCons (xVar 3) xNil)) (xC (.int 0)))) (xRet (xTup (xCons (xVar 2) (xCons (xOp fIx (xVar 3) (xC (.int 0))) xNil)))) xNext))
  (xSeq (xAsg (xCall 2 (liftP F_wrong_runs) (xCons (xVar 0) (xCons (xVar 1) xNil))) (xgName 3))
  (xRet (xIf (xTest (xOp fGt (xCB fLen (xCons (xVar 3) xNil)) (xC (.int 0)))) (xTup (xCons (xC (.str "run")) (xCons (xOp fIx (xVar 3) (xC (.int 0))) xNil))) (xC .non))))))
def F_bar : List D → PR := FP 4 T_bar
def T_look_leads : TSd :=
  (xSeq (xAsg (xCall 2 (liftP F_bar) (xCons (xVar 0) (xCons (xVar 1) xNil))) (xgName 2))
  (xIfS (xTest (xOp fNotN (xVar 2) (xC .non))) (xRaise 9 (xVar 2)) xNext))
def F_look_leads : List D → PR := FP 3 T_look_leads
def T_changed : TSd :=
  (xSeq (xDrop (xCall 2 (liftP F_look_leads) (xCons (xVar 0) (xCons (xVar 1) xNil))))
  (xRet (xLc (xEz (xCons (xVar 0) (xCons (xVar 1) xNil))) (xgTup 2 (xgCons (xgName 2) (xgCons (xgTup 2 (xgCons (xgName 3) (xgCons (xgName 4) xgNil))) xgNil))) (xTest (xOp fNe (xVar 3) (xVar 4))) (xVar 2) [2, 3, 4])))
def F_changed : List D → PR := FP 5 T_changed
def T_distance : TSd :=
  (xRet (xCB fLen (xCons (xCall 2 (liftP F_changed) (xCons (xVar 0) (xCons (xVar 1) xNil))) xNil)))
def F_distance : List D → PR := FP 2 T_distance
def T_leads : TSd :=
  (xRet (xOp fIsN (xCall 2 (liftP F_bar) (xCons (xVar 0) (xCons (xVar 1) xNil))) (xC .non)))
def F_leads : List D → PR := FP 2 T_leads
def T_run : TSd :=
  (xSeq (xAsg (xCB fTuple (xCons (xVar 0) xNil)) (xgName 2))
  (xSeq (xFor (xSeq1 (xVar 1)) (xgName 3)
  (xAsg (xCall 2 (liftP F_called) (xCons (xVar 2) (xCons (xVar 3) xNil))) (xgName 2)))
  (xRet (xVar 2))))
def F_run : List D → PR := FP 4 T_run
def T_idle : TSd :=
  (xSeq (xPar 2 3 (xCons (xCB fTuple (xCons (xVar 0) xNil)) (xCons (xLstC xNil) xNil)))
  (xSeq (xFor (xEn (xVar 1)) (xgTup 2 (xgCons (xgName 4) (xgCons (xgName 5) xgNil)))
  (xSeq (xAsg (xCall 2 (liftP F_called) (xCons (xVar 2) (xCons (xVar 5) xNil))) (xgName 6))
  (xSeq (xIfS (xTest (xOp fEq (xVar 6) (xVar 2))) (xDrop (xMt fApp (xVar 3) (xCons (xVar 4) xNil))) xNext)
  (xAsg (xVar 6) (xgName 2)))))
  (xFrz 3 (xRet (xVar 3)))))
def F_idle : List D → PR := FP 7 T_idle
def T_Hall_run (HC : Addr) : TSd :=
  (xSeq (xAsg (xMeth HC "row" 1 (F_Hall_row HC) (xVar 0) xNil) (xgName 2))
  (xSeq (xDrop (xMt fApp (xFld HC "own_rows" (xVar 0)) (xCons (xCall 2 (liftP F_run) (xCons (xVar 2) (xCons (xVar 1) xNil))) xNil)))
  (xRet (xOp fSub (xCB fLen (xCons (xVar 1) xNil)) (xCB fLen (xCons (xCall 2 (liftP F_idle) (xCons (xVar 2) (xCons (xVar 1) xNil))) xNil))))))
def F_Hall_run (HC : Addr) : FD := FC 3 (T_Hall_run HC)
def T_Hall_deeds (HC : Addr) : TSd :=
  (xRet (xOp fSub (xCB fLen (xCons (xFld HC "own_rows" (xVar 0)) xNil)) (xC (.int 1))))
def F_Hall_deeds (HC : Addr) : FD := FC 1 (T_Hall_deeds HC)
def T_Hall_dips (HC : Addr) : TSd :=
  (xRet (xCall 1 (liftP F_dips) (xCons (xMeth HC "row" 1 (F_Hall_row HC) (xVar 0) xNil) xNil)))
def F_Hall_dips (HC : Addr) : FD := FC 1 (T_Hall_dips HC)
def T_Hall_tops (HC : Addr) : TSd :=
  (xRet (xCall 1 (liftP F_tops) (xCons (xMeth HC "row" 1 (F_Hall_row HC) (xVar 0) xNil) xNil)))
def F_Hall_tops (HC : Addr) : FD := FC 1 (T_Hall_tops HC)
def T_at_rest : TSd :=
  (xRet (xOp fEq (xOp fAdd (xCB fLen (xCons (xCall 1 (liftP F_tops) (xCons (xVar 0) xNil)) xNil)) (xCB fLen (xCons (xCall 1 (liftP F_dips) (xCons (xVar 0) xNil)) xNil))) (xC (.int 0))))
def F_at_rest : List D → PR := FP 1 T_at_rest
def T_open_parts : TSd :=
  (xSeq (xAsg (xLstC xNil) (xgName 2))
  (xSeq (xFor (xSeq1 (xCall 1 (liftP F_runs) (xCons (xVar 1) xNil))) (xgTup 2 (xgCons (xgName 3) (xgCons (xgName 4) xgNil)))
  (xSeq (xAsg (xOp fAdd (xOp fAdd (xLst (xCons (xOp fSub (xVar 3) (xC (.int 1))) xNil)) (xCall 4 (liftP F_stayed) (xCons (xVar 0) (xCons (xVar 1) (xCons (xVar 3) (xCons (xVar 4) xNil)))))) (xLst (xCons (xOp fAdd (xVar 4) (xC (.int 1))) xNil))) (xgName 5))
  (xFor (xZp (xCons (xVar 5) (xCons (xSl (xVar 5) (xPart (xC (.int 1))) xNoPart) xNil))) (xgTup 2 (xgCons (xgName 6) (xgCons (xgName 7) xgNil)))
  (xIfS (xTest (xOp fGt (xOp fSub (xVar 7) (xVar 6)) (xC (.int 1)))) (xDrop (xMt fApp (xVar 2) (xCons (xTup (xCons (xOp fAdd (xVar 6) (xC (.int 1))) (xCons (xOp fSub (xVar 7) (xC (.int 1))) (xCons (xOp fGe (xVar 6) (xVar 3)) (xCons (xOp fLe (xVar 7) (xVar 4)) xNil))))) xNil))) xNext))))
  (xFrz 2 (xRet (xVar 2)))))
def F_open_parts : List D → PR := FP 8 T_open_parts
def T_parts : TSd :=
  (xSeq (xDrop (xCall 2 (liftP F_look_leads) (xCons (xVar 0) (xCons (xVar 1) xNil))))
  (xRet (xLc (xSeq1 (xCall 2 (liftP F_open_parts) (xCons (xVar 0) (xCons (xVar 1) xNil)))) (xgTup 4 (xgCons (xgName 2) (xgCons (xgName 3) (xgCons (xgName 4) (xgCons (xgName 5) xgNil))))) xYes (xRgL true (xCons (xVar 2) (xCons (xOp fAdd (xVar 3) (xC (.int 1))) xNil))) [2, 3, 4, 5])))
def F_parts : List D → PR := FP 6 T_parts
def T__law_flat : TSd :=
  (xSeq (xAsg (xLst xNil) (xgName 1))
  (xSeq (xFor (xSeq1 (xVar 0)) (xgName 2)
  (xAsg (xOp fAdd (xVar 1) (xCB fList (xCons (xVar 2) xNil))) (xgName 1)))
  (xRet (xCB fSortedA (xCons (xVar 1) xNil)))))
def F__law_flat : List D → PR := FP 3 T__law_flat
def T_next_calls : TSd :=
  (xSeq (xAsg (xLc (xSeq1 (xVar 0)) (xgTup 4 (xgCons (xgName 2) (xgCons (xgName 3) (xgCons (xgName 4) (xgCons (xgName 5) xgNil))))) (xTest (xVar 4)) (xVar 2) [2, 3, 4, 5]) (xgName 1))
  (xRet (xSortSet (xOp fAdd (xVar 1) (xLc (xSeq1 (xVar 0)) (xgTup 4 (xgCons (xgName 2) (xgCons (xgName 3) (xgCons (xgName 4) (xgCons (xgName 5) xgNil))))) (xTest (xVar 5)) (xVar 3) [2, 3, 4, 5])))))
def F_next_calls : List D → PR := FP 6 T_next_calls
def T_firsts : TSd :=
  (xSeq (xDrop (xCall 2 (liftP F_look_leads) (xCons (xVar 0) (xCons (xVar 1) xNil))))
  (xRet (xCall 1 (liftP F_next_calls) (xCons (xCall 2 (liftP F_open_parts) (xCons (xVar 0) (xCons (xVar 1) xNil))) xNil))))
def F_firsts : List D → PR := FP 2 T_firsts
def T__law_of : TSd :=
  (xRet (xOp fIx (xVar 1) (xCall 2 F__law_take (xCons (xVar 0) (xCons (xCB fLen (xCons (xVar 1) xNil)) xNil)))))
def F__law_of : FD := FC 2 (T__law_of)
def T__law_bar : TSd :=
  (xSeq (xAsg (xCB fLen (xCons (xVar 0) xNil)) (xgName 2))
  (xSeq (xFor (xRg1 (xCons (xVar 2) xNil)) (xgName 3)
  (xSeq (xAsg (xChain fLt fLt (xC (.int 0)) (xVar 3) (xOp fSub (xVar 2) (xC (.int 1)))) (xgName 4))
  (xSeq (xAsg (xAndV (xVar 4) (xOp fGt (xOp fIx (xVar 0) (xVar 3)) (xCB fMax2 (xCons (xOp fIx (xVar 0) (xOp fSub (xVar 3) (xC (.int 1)))) (xCons (xOp fIx (xVar 0) (xOp fAdd (xVar 3) (xC (.int 1)))) xNil))))) (xgName 5))
  (xSeq (xAsg (xAndV (xVar 4) (xOp fLt (xOp fIx (xVar 0) (xVar 3)) (xCB fMin2 (xCons (xOp fIx (xVar 0) (xOp fSub (xVar 3) (xC (.int 1)))) (xCons (xOp fIx (xVar 0) (xOp fAdd (xVar 3) (xC (.int 1)))) xNil))))) (xgName 6))
  (xIfS (xAnd (xTest (xOp fNe (xOp fIx (xVar 0) (xVar 3)) (xOp fIx (xVar 1) (xVar 3)))) (xAnd (xNot (xAnd (xTest (xVar 5)) (xTest (xOp fLt (xOp fIx (xVar 1) (xVar 3)) (xOp fIx (xVar 0) (xVar 3)))))) (xNot (xAnd (xTest (xVar 6)) (xTest (xOp fGt (xOp fIx (xVar 1) (xVar 3)) (xOp fIx (xVar 0) (xVar 3)))))))) (xRet (xTup (xCons (xC (.str "change")) (xCons (xVar 3) xNil)))) xNext)))))
  (xSeq (xFor (xRg1 (xCons (xOp fSub (xVar 2) (xC (.int 1))) xNil)) (xgName 3)
  (xSeq (xPar 7 8 (xCons (xOp fSub (xOp fIx (xVar 0) (xOp fAdd (xVar 3) (xC (.int 1)))) (xOp fIx (xVar 0) (xVar 3))) (xCons (xOp fSub (xOp fIx (xVar 1) (xOp fAdd (xVar 3) (xC (.int 1)))) (xOp fIx (xVar 1) (xVar 3))) xNil)))
  (xIfS (xOr (xTest (xOp fLt (xOp fMulI (xVar 7) (xVar 8)) (xC (.int 0)))) (xAnd (xTest (xOp fEq (xVar 7) (xC (.int 0)))) (xTest (xOp fNe (xVar 8) (xC (.int 0)))))) (xRet (xTup (xCons (xC (.str "order")) (xCons (xVar 3) xNil)))) xNext)))
  (xSeq (xAsg (xC (.int 0)) (xgName 9))
  (xSeq (xFor (xRg1 (xCons (xVar 2) xNil)) (xgName 3)
  (xSeq (xIfS (xAnd (xTest (xOp fGt (xVar 3) (xC (.int 0)))) (xTest (xOp fNe (xOp fIx (xVar 1) (xVar 3)) (xOp fIx (xVar 1) (xOp fSub (xVar 3) (xC (.int 1))))))) (xAsg (xVar 3) (xgName 9)) xNext)
  (xIfS (xAnd (xOr (xTest (xOp fEq (xVar 3) (xOp fSub (xVar 2) (xC (.int 1))))) (xTest (xOp fNe (xOp fIx (xVar 1) (xOp fAdd (xVar 3) (xC (.int 1)))) (xOp fIx (xVar 1) (xVar 3))))) (xTest (xOp fEq (xLc (xRg2 (xCons (xVar 9) (xCons (xOp fAdd (xVar 3) (xC (.int 1))) xNil))) (xgName 10) (xTest (xOp fEq (xOp fIx (xVar 0) (xVar 10)) (xOp fIx (xVar 1) (xVar 10)))) (xVar 10) [10]) (xLst xNil)))) (xRet (xTup (xCons (xC (.str "run")) (xCons (xVar 9) xNil)))) xNext)))
  (xRet (xC .non)))))))
def F__law_bar : List D → PR := FP 11 T__law_bar
def T_Hall_go (HC : Addr) : TSd :=
  (xSeq (xAsg (xCall 2 (liftP F_distance) (xCons (xMeth HC "row" 1 (F_Hall_row HC) (xVar 0) xNil) (xCons (xVar 1) xNil))) (xgName 2))
  (xSeq (xDrop (xMt fApp (xFld HC "own_rows" (xVar 0)) (xCons (xCB fTuple (xCons (xVar 1) xNil)) xNil)))
  (xRet (xVar 2))))
def F_Hall_go (HC : Addr) : FD := FC 3 (T_Hall_go HC)
def T__law_go (HC : Addr) : TSd :=
  (xSeq (xAsg (xC .non) (xgName 2))
  (xSeq (xTry 9 "barred" 3 2 (xAsg (xMeth HC "go" 2 (F_Hall_go HC) (xVar 0) (xCons (xVar 1) xNil)) (xgName 2)))
  (xRet (xVar 2))))
def F__law_go (HC : Addr) : FD := FC 4 (T__law_go HC)
def T_Hall_undo (HC : Addr) : TSd :=
  (xSeq (xIfS (xTest (xOp fEq (xMeth HC "deeds" 1 (F_Hall_deeds HC) (xVar 0) xNil) (xC (.int 0)))) (xRet (xC (.bl false))) xNext)
  (xSeq (xDrop (xMt0 fPop (xFld HC "own_rows" (xVar 0))))
  (xRet (xC (.bl true)))))
def F_Hall_undo (HC : Addr) : FD := FC 1 (T_Hall_undo HC)
end DL
end
section
set_option maxRecDepth 100000
set_option maxHeartbeats 4000000
namespace DL
open PySem PySem.Spec PyProof.Rows L2
def T_law (HC : Addr) : TSd :=
  (xSeq (xAsg (xCall 2 F__law_box (xCons (xCall 2 (liftP F__law_cells) (xCons (xVar 0) (xCons (xC (.int 1)) xNil))) (xCons (xC (.int 0)) xNil))) (xgName 1))
  (xSeq (xAsg (xCall 2 F__law_great (xCons (xVar 1) (xCons (xC (.int 16)) xNil))) (xgName 2))
  (xSeq (xAsg (xTup (xCons (xCB fLen (xCons (xVar 2) xNil)) (xCons (xIf (xTest (xOp fEq (xCall 2 F__law_take (xCons (xVar 1) (xCons (xC (.int 2)) xNil))) (xC (.int 0)))) (xCall 1 (liftP (F__law_soft 5)) (xCons (xVar 2) xNil)) (xVar 2)) xNil))) (xgTup 2 (xgCons (xgName 3) (xgCons (xgName 4) xgNil))))
  (xSeq (xAsg (xLc (xRg1 (xCons (xCall 2 F__law_take (xCons (xVar 1) (xCons (xC (.int 41)) xNil))) xNil)) (xgName 6) xYes (xCall 2 F__law_take (xCons (xVar 1) (xCons (xVar 3) xNil))) [6]) (xgName 5))
  (xSeq (xAsg (xTup (xCons (xMake HC 2 (F_Hall_init HC) (xCons (xVar 4) xNil)) (xCons (xVar 2) (xCons (xLstC xNil) (xCons (xLstC xNil) xNil))))) (xgTup 4 (xgCons (xgName 7) (xgCons (xgName 8) (xgCons (xgName 9) (xgCons (xgName 10) xgNil))))))
  (xSeq (xFor (xEn (xVar 5)) (xgTup 2 (xgCons (xgName 11) (xgCons (xgName 12) xgNil)))
  (xSeq (xAsg (xCall 2 (liftP F__law_called) (xCons (xVar 8) (xCons (xVar 12) xNil))) (xgName 13))
  (xSeq (xIfS (xNot (xTest (xCall 2 (liftP (F__law_same 5)) (xCons (xLst (xCons (xCall 2 (liftP F_middle) (xCons (xVar 8) (xCons (xVar 12) xNil))) (xCons (xCall 2 (liftP F_called) (xCons (xVar 8) (xCons (xVar 12) xNil))) (xCons (xMeth HC "call" 2 (F_Hall_call HC) (xVar 7) (xCons (xVar 12) xNil)) (xCons (xMeth HC "row" 1 (F_Hall_row HC) (xVar 7) xNil) xNil))))) (xCons (xLst (xCons (xOp fIx (xVar 13) (xVar 12)) (xCons (xVar 13) (xCons (xOp fIx (xVar 13) (xVar 12)) (xCons (xVar 13) xNil))))) xNil))))) (xRet (xC (.bl false))) xNext)
  (xSeq (xIfS (xTest (xOp fEq (xVar 13) (xVar 8))) (xDrop (xMt fApp (xVar 9) (xCons (xVar 11) xNil))) (xSeq (xIfS (xOr (xTest (xOp (fIn false) (xVar 12) (xVar 10))) (xTest (xOp (fIn true) (xVar 12) (xOp fAdd (xCall 1 (liftP F_tops) (xCons (xVar 2) xNil)) (xCall 1 (liftP F_dips) (xCons (xVar 2) xNil)))))) (xRet (xC (.bl false))) xNext)
  (xDrop (xMt fApp (xVar 10) (xCons (xVar 12) xNil)))))
  (xSeq (xAsg (xVar 13) (xgName 8))
  (xIfS (xNot (xTest (xCall 2 (liftP (F__law_same 5)) (xCons (xLst (xCons (xCall 2 (liftP F_leads) (xCons (xVar 2) (xCons (xVar 8) xNil))) (xCons (xCall 2 (liftP F_distance) (xCons (xVar 4) (xCons (xVar 8) xNil))) (xCons (xCall 2 (liftP F_changed) (xCons (xVar 2) (xCons (xVar 8) xNil))) xNil)))) (xCons (xLst (xCons (xC (.bl true)) (xCons (xCB fLen (xCons (xVar 10) xNil)) (xCons (xCB fSortedA (xCons (xVar 10) xNil)) xNil)))) xNil))))) (xRet (xC (.bl false))) xNext))))))
  (xSeq (xAsg (xLst (xCons (xCall 2 (liftP F_run) (xCons (xVar 2) (xCons (xVar 5) xNil))) (xCons (xCall 2 (liftP F_idle) (xCons (xVar 4) (xCons (xCB fTuple (xCons (xVar 5) xNil)) xNil))) (xCons (xCall 2 (liftP F_bar) (xCons (xVar 2) (xCons (xVar 8) xNil))) (xCons (xMeth HC "deeds" 1 (F_Hall_deeds HC) (xVar 7) xNil) (xCons (xMeth HC "run" 2 (F_Hall_run HC) (xMake HC 2 (F_Hall_init HC) (xCons (xVar 2) xNil)) (xCons (xCB fTuple (xCons (xVar 5) xNil)) xNil)) xNil)))))) (xgName 14))
  (xFrz 9 (xSeq (xIfS (xNot (xTest (xCall 2 (liftP (F__law_same 5)) (xCons (xVar 14) (xCons (xLst (xCons (xVar 8) (xCons (xVar 9) (xCons (xC .non) (xCons (xCB fLen (xCons (xVar 5) xNil)) (xCons (xOp fSub (xCB fLen (xCons (xVar 5) xNil)) (xCB fLen (xCons (xVar 9) xNil))) xNil)))))) xNil))))) (xRet (xC (.bl false))) xNext)
  (xSeq (xAsg (xLc (xRg2 (xCons (xC (.int 1)) (xCons (xOp fSub (xVar 3) (xC (.int 1))) xNil))) (xgName 12) xYes (xVar 12) [12]) (xgName 15))
  (xSeq (xAsg (xLc (xSeq1 (xVar 15)) (xgName 12) (xTest (xOp fGt (xOp fIx (xVar 8) (xVar 12)) (xCB fMax2 (xCons (xOp fIx (xVar 8) (xOp fSub (xVar 12) (xC (.int 1)))) (xCons (xOp fIx (xVar 8) (xOp fAdd (xVar 12) (xC (.int 1)))) xNil))))) (xVar 12) [12]) (xgName 16))
  (xSeq (xAsg (xLc (xSeq1 (xVar 15)) (xgName 12) (xTest (xOp fLt (xOp fIx (xVar 8) (xVar 12)) (xCB fMin2 (xCons (xOp fIx (xVar 8) (xOp fSub (xVar 12) (xC (.int 1)))) (xCons (xOp fIx (xVar 8) (xOp fAdd (xVar 12) (xC (.int 1)))) xNil))))) (xVar 12) [12]) (xgName 17))
  (xSeq (xIfS (xNot (xTest (xCall 2 (liftP (F__law_same 5)) (xCons (xLst (xCons (xCall 1 (liftP F_tops) (xCons (xVar 8) xNil)) (xCons (xCall 1 (liftP F_dips) (xCons (xVar 8) xNil)) (xCons (xCall 1 (liftP F_at_rest) (xCons (xVar 8) xNil)) (xCons (xMeth HC "tops" 1 (F_Hall_tops HC) (xVar 7) xNil) (xCons (xMeth HC "dips" 1 (F_Hall_dips HC) (xVar 7) xNil) xNil)))))) (xCons (xLst (xCons (xVar 16) (xCons (xVar 17) (xCons (xOp fEq (xOp fAdd (xVar 16) (xVar 17)) (xLst xNil)) (xCons (xVar 16) (xCons (xVar 17) xNil)))))) xNil))))) (xRet (xC (.bl false))) xNext)
  (xSeq (xIfS (xOr (xTest (xOp fNe (xLc (xSeq1 (xCall 1 (liftP F_runs) (xCons (xVar 8) xNil))) (xgTup 2 (xgCons (xgName 18) (xgCons (xgName 19) xgNil))) (xTest (xOp fNe (xLenSet (xSl (xVar 8) (xPart (xVar 18)) (xPart (xOp fAdd (xVar 19) (xC (.int 1)))))) (xC (.int 1)))) (xC (.int 1)) [18, 19]) (xLst xNil))) (xTest (xOp fNe (xLc (xZp (xCons (xCall 1 (liftP F_runs) (xCons (xVar 8) xNil)) (xCons (xSl (xCall 1 (liftP F_runs) (xCons (xVar 8) xNil)) (xPart (xC (.int 1))) xNoPart) xNil))) (xgTup 2 (xgCons (xgName 20) (xgCons (xgName 21) xgNil))) (xTest (xOp fEq (xOp fIx (xVar 8) (xOp fIx (xVar 20) (xC (.int 1)))) (xOp fIx (xVar 8) (xOp fIx (xVar 21) (xC (.int 0)))))) (xC (.int 1)) [20, 21]) (xLst xNil)))) (xRet (xC (.bl false))) xNext)
  (xSeq (xAsg (xLc (xSeq1 (xCB fSortedA (xCons (xVar 10) xNil))) (xgName 12) (xTest (xOp fEq (xOp fIx (xCall 2 (liftP F__law_called) (xCons (xVar 2) (xCons (xVar 12) xNil))) (xVar 12)) (xOp fIx (xVar 8) (xVar 12)))) (xVar 12) [12]) (xgName 22))
  (xSeq (xIfS (xNot (xTest (xCall 2 (liftP (F__law_same 5)) (xCons (xLst (xCons (xCall 2 (liftP F_firsts) (xCons (xVar 2) (xCons (xVar 8) xNil))) (xCons (xCall 1 (liftP F__law_flat) (xCons (xCall 2 (liftP F_parts) (xCons (xVar 2) (xCons (xVar 8) xNil))) xNil)) xNil))) (xCons (xLst (xCons (xVar 22) (xCons (xCB fSortedA (xCons (xVar 10) xNil)) xNil))) xNil))))) (xRet (xC (.bl false))) xNext)
  (xSeq (xFor (xRg1 (xCons (xC (.int 6)) xNil)) (xgName 6)
  (xSeq (xAsg (xCall 2 F__law_take (xCons (xVar 1) (xCons (xVar 3) xNil))) (xgName 12))
  (xSeq (xAsg (xOp fAdd (xOp fAdd (xSl (xVar 8) xNoPart (xPart (xVar 12))) (xTup (xCons (xCall 2 F__law_of (xCons (xVar 1) (xCons (xVar 2) xNil))) xNil))) (xSl (xVar 8) (xPart (xOp fAdd (xVar 12) (xC (.int 1)))) xNoPart)) (xgName 23))
  (xSeq (xAsg (xCall 2 F__law_take (xCons (xVar 1) (xCons (xVar 3) xNil))) (xgName 21))
  (xSeq (xAsg (xIf (xTest (xOp fEq (xCall 2 F__law_take (xCons (xVar 1) (xCons (xC (.int 2)) xNil))) (xC (.int 0)))) (xOp fAdd (xOp fAdd (xSl (xVar 23) xNoPart (xPart (xVar 21))) (xTup (xCons (xCall 2 F__law_of (xCons (xVar 1) (xCons (xVar 8) xNil))) xNil))) (xSl (xVar 23) (xPart (xOp fAdd (xVar 21) (xC (.int 1)))) xNoPart)) (xVar 23)) (xgName 23))
  (xSeq (xAsg (xCall 2 (liftP F__law_bar) (xCons (xVar 2) (xCons (xVar 23) xNil))) (xgName 24))
  (xSeq (xAsg (xMake HC 2 (F_Hall_init HC) (xCons (xVar 4) xNil)) (xgName 25))
  (xSeq (xAsg (xCB fLen (xCons (xLc (xZp (xCons (xVar 2) (xCons (xVar 23) xNil))) (xgTup 2 (xgCons (xgName 20) (xgCons (xgName 27) xgNil))) (xTest (xOp fNe (xVar 20) (xVar 27))) (xC (.int 1)) [20, 27]) xNil)) (xgName 26))
  (xSeq (xAsg (xLst (xCons (xCall 2 (liftP F_bar) (xCons (xVar 2) (xCons (xCall 1 (liftP (F__law_soft 5)) (xCons (xVar 23) xNil)) xNil))) (xCons (xCall 2 (liftP F_leads) (xCons (xVar 2) (xCons (xVar 23) xNil))) (xCons (xCall 2 (F__law_go HC) (xCons (xVar 25) (xCons (xVar 23) xNil))) (xCons (xMeth HC "row" 1 (F_Hall_row HC) (xVar 25) xNil) (xCons (xMeth HC "deeds" 1 (F_Hall_deeds HC) (xVar 25) xNil) xNil)))))) (xgName 14))
  (xIfS (xNot (xTest (xCall 2 (liftP (F__law_same 5)) (xCons (xVar 14) (xCons (xLst (xCons (xVar 24) (xCons (xOp fIsN (xVar 24) (xC .non)) (xCons (xIf (xTest (xOp fIsN (xVar 24) (xC .non))) (xVar 26) (xTup (xCons (xC (.str "barred")) (xCons (xVar 24) xNil)))) (xCons (xIf (xTest (xOp fIsN (xVar 24) (xC .non))) (xVar 23) (xVar 2)) (xCons (xCB fInt1 (xCons (xOp fIsN (xVar 24) (xC .non)) xNil)) xNil)))))) xNil))))) (xRet (xC (.bl false))) xNext))))))))))
  (xSeq (xFor (xRg1 (xCons (xCB fLen (xCons (xVar 5) xNil)) xNil)) (xgName 11)
  (xIfS (xTest (xOp fNotB (xMeth HC "undo" 1 (F_Hall_undo HC) (xVar 7) xNil) (xC (.bl true)))) (xRet (xC (.bl false))) xNext))
  (xRet (xCall 2 (liftP (F__law_same 5)) (xCons (xLst (xCons (xMeth HC "row" 1 (F_Hall_row HC) (xVar 7) xNil) (xCons (xMeth HC "undo" 1 (F_Hall_undo HC) (xVar 7) xNil) (xCons (xMeth HC "deeds" 1 (F_Hall_deeds HC) (xVar 7) xNil) xNil)))) (xCons (xLst (xCons (xVar 2) (xCons (xC (.bl false)) (xCons (xC (.int 0)) xNil)))) xNil))))))))))))))))))))))
def F_law (HC : Addr) : FD := FC 28 (T_law HC)
end DL
end
section
set_option maxRecDepth 100000
set_option maxHeartbeats 4000000
namespace DL
open PySem PySem.Spec PyProof.Rows L2
def topS (i : Nat) : Stmt := PySem.Challenge.pw_middlecall_k87_across_great_rows_calls_b.main.body.getD i (.Pass ⟨0, 0, 0, 0⟩)
def inClass (s : Stmt) (j : Nat) : Stmt := match s with
  | .ClassDef _ _ _ b .. => b.getD j (.Pass ⟨0, 0, 0, 0⟩)
  | _ => .Pass ⟨0, 0, 0, 0⟩
abbrev s__law_cells : Stmt := topS 62
abbrev s__law_box : Stmt := topS 60
abbrev s__law_take : Stmt := topS 61
abbrev s__law_great : Stmt := topS 68
abbrev s__law_soft : Stmt := topS 64
abbrev s_Hall_init : Stmt := inClass (topS 58) 0
abbrev s__law_called : Stmt := topS 66
abbrev s_Hall_row : Stmt := inClass (topS 58) 1
abbrev s_look_person : Stmt := topS 9
abbrev s_middle_of : Stmt := topS 18
abbrev s_called : Stmt := topS 20
abbrev s_Hall_call : Stmt := inClass (topS 58) 7
abbrev s_middle : Stmt := topS 19
abbrev s__law_same : Stmt := topS 65
abbrev s_inner : Stmt := topS 10
abbrev s_tops : Stmt := topS 11
abbrev s_dips : Stmt := topS 13
abbrev s_look_many : Stmt := topS 28
abbrev s_wrong_orders : Stmt := topS 30
abbrev s_wrong_changes : Stmt := topS 29
abbrev s_runs : Stmt := topS 16
abbrev s_stayed : Stmt := topS 31
abbrev s_wrong_runs : Stmt := topS 32
abbrev s_bar : Stmt := topS 33
abbrev s_look_leads : Stmt := topS 35
abbrev s_changed : Stmt := topS 36
abbrev s_distance : Stmt := topS 37
abbrev s_leads : Stmt := topS 34
abbrev s_run : Stmt := topS 21
abbrev s_idle : Stmt := topS 23
abbrev s_Hall_run : Stmt := inClass (topS 58) 8
abbrev s_Hall_deeds : Stmt := inClass (topS 58) 6
abbrev s_Hall_dips : Stmt := inClass (topS 58) 3
abbrev s_Hall_tops : Stmt := inClass (topS 58) 2
abbrev s_at_rest : Stmt := topS 15
abbrev s_open_parts : Stmt := topS 38
abbrev s_parts : Stmt := topS 39
abbrev s__law_flat : Stmt := topS 70
abbrev s_next_calls : Stmt := topS 40
abbrev s_firsts : Stmt := topS 41
abbrev s__law_of : Stmt := topS 63
abbrev s__law_bar : Stmt := topS 67
abbrev s_Hall_go : Stmt := inClass (topS 58) 9
abbrev s__law_go : Stmt := topS 69
abbrev s_Hall_undo : Stmt := inClass (topS 58) 13
abbrev s_law : Stmt := topS 71
theorem sc__law_cells : FnScope ["script", "many", "cells", "k", "cell", "at"] ["script", "many"] (defScope s__law_cells) := ⟨rfl, rfl, rfl, by decide +kernel, rfl, by decide +kernel, by decide +kernel⟩
theorem sc__law_box : FnScope ["script", "k", "cell"] ["script", "k"] (defScope s__law_box) := ⟨rfl, rfl, rfl, by decide +kernel, rfl, by decide +kernel, by decide +kernel⟩
theorem sc__law_take : FnScope ["urn", "below", "drawn", "once", "far", "twice"] ["urn", "below"] (defScope s__law_take) := ⟨rfl, rfl, rfl, by decide +kernel, rfl, by decide +kernel, by decide +kernel⟩
theorem sc__law_great : FnScope ["urn", "most", "row", "number", "whole", "turn", "stair", "size", "step", "last"] ["urn", "most"] (defScope s__law_great) := ⟨rfl, rfl, rfl, by decide +kernel, rfl, by decide +kernel, by decide +kernel⟩
theorem sc__law_soft : FnScope ["matter", "bit"] ["matter"] (defScope s__law_soft) := ⟨rfl, rfl, rfl, by decide +kernel, rfl, by decide +kernel, by decide +kernel⟩
theorem sc_Hall_init : FnScope ["self", "row"] ["self", "row"] (defScope s_Hall_init) := ⟨rfl, rfl, rfl, by decide +kernel, rfl, by decide +kernel, by decide +kernel⟩
theorem sc__law_called : FnScope ["row", "person"] ["row", "person"] (defScope s__law_called) := ⟨rfl, rfl, rfl, by decide +kernel, rfl, by decide +kernel, by decide +kernel⟩
theorem sc_Hall_row : FnScope ["self"] ["self"] (defScope s_Hall_row) := ⟨rfl, rfl, rfl, by decide +kernel, rfl, by decide +kernel, by decide +kernel⟩
theorem sc_look_person : FnScope ["row", "person"] ["row", "person"] (defScope s_look_person) := ⟨rfl, rfl, rfl, by decide +kernel, rfl, by decide +kernel, by decide +kernel⟩
theorem sc_middle_of : FnScope ["row", "person"] ["row", "person"] (defScope s_middle_of) := ⟨rfl, rfl, rfl, by decide +kernel, rfl, by decide +kernel, by decide +kernel⟩
theorem sc_called : FnScope ["row", "person", "number", "other", "own"] ["row", "person"] (defScope s_called) := ⟨rfl, rfl, rfl, by decide +kernel, rfl, by decide +kernel, by decide +kernel⟩
theorem sc_Hall_call : FnScope ["self", "person"] ["self", "person"] (defScope s_Hall_call) := ⟨rfl, rfl, rfl, by decide +kernel, rfl, by decide +kernel, by decide +kernel⟩
theorem sc_middle : FnScope ["row", "person"] ["row", "person"] (defScope s_middle) := ⟨rfl, rfl, rfl, by decide +kernel, rfl, by decide +kernel, by decide +kernel⟩
theorem sc__law_same : FnScope ["got", "due", "mine", "own"] ["got", "due"] (defScope s__law_same) := ⟨rfl, rfl, rfl, by decide +kernel, rfl, by decide +kernel, by decide +kernel⟩
theorem sc_inner : FnScope ["row"] ["row"] (defScope s_inner) := ⟨rfl, rfl, rfl, by decide +kernel, rfl, by decide +kernel, by decide +kernel⟩
theorem sc_tops : FnScope ["row", "person"] ["row"] (defScope s_tops) := ⟨rfl, rfl, rfl, by decide +kernel, rfl, by decide +kernel, by decide +kernel⟩
theorem sc_dips : FnScope ["row", "person"] ["row"] (defScope s_dips) := ⟨rfl, rfl, rfl, by decide +kernel, rfl, by decide +kernel, by decide +kernel⟩
theorem sc_look_many : FnScope ["one", "other"] ["one", "other"] (defScope s_look_many) := ⟨rfl, rfl, rfl, by decide +kernel, rfl, by decide +kernel, by decide +kernel⟩
theorem sc_wrong_orders : FnScope ["one", "other", "found", "person", "mine", "its"] ["one", "other"] (defScope s_wrong_orders) := ⟨rfl, rfl, rfl, by decide +kernel, rfl, by decide +kernel, by decide +kernel⟩
theorem sc_wrong_changes : FnScope ["one", "other", "high", "low", "found", "person", "mine", "its"] ["one", "other"] (defScope s_wrong_changes) := ⟨rfl, rfl, rfl, by decide +kernel, rfl, by decide +kernel, by decide +kernel⟩
theorem sc_runs : FnScope ["row", "begins", "person", "first", "last"] ["row"] (defScope s_runs) := ⟨rfl, rfl, rfl, by decide +kernel, rfl, by decide +kernel, by decide +kernel⟩
theorem sc_stayed : FnScope ["one", "other", "first", "last", "person"] ["one", "other", "first", "last"] (defScope s_stayed) := ⟨rfl, rfl, rfl, by decide +kernel, rfl, by decide +kernel, by decide +kernel⟩
theorem sc_wrong_runs : FnScope ["one", "other", "first", "last"] ["one", "other"] (defScope s_wrong_runs) := ⟨rfl, rfl, rfl, by decide +kernel, rfl, by decide +kernel, by decide +kernel⟩
theorem sc_bar : FnScope ["one", "other", "word", "found"] ["one", "other"] (defScope s_bar) := ⟨rfl, rfl, rfl, by decide +kernel, rfl, by decide +kernel, by decide +kernel⟩
theorem sc_look_leads : FnScope ["one", "other", "reason"] ["one", "other"] (defScope s_look_leads) := ⟨rfl, rfl, rfl, by decide +kernel, rfl, by decide +kernel, by decide +kernel⟩
theorem sc_changed : FnScope ["one", "other", "person", "mine", "its"] ["one", "other"] (defScope s_changed) := ⟨rfl, rfl, rfl, by decide +kernel, rfl, by decide +kernel, by decide +kernel⟩
theorem sc_distance : FnScope ["one", "other"] ["one", "other"] (defScope s_distance) := ⟨rfl, rfl, rfl, by decide +kernel, rfl, by decide +kernel, by decide +kernel⟩
theorem sc_leads : FnScope ["one", "other"] ["one", "other"] (defScope s_leads) := ⟨rfl, rfl, rfl, by decide +kernel, rfl, by decide +kernel, by decide +kernel⟩
theorem sc_run : FnScope ["row", "calls", "found", "person"] ["row", "calls"] (defScope s_run) := ⟨rfl, rfl, rfl, by decide +kernel, rfl, by decide +kernel, by decide +kernel⟩
theorem sc_idle : FnScope ["row", "calls", "here", "found", "place", "person", "later"] ["row", "calls"] (defScope s_idle) := ⟨rfl, rfl, rfl, by decide +kernel, rfl, by decide +kernel, by decide +kernel⟩
theorem sc_Hall_run : FnScope ["self", "calls", "before"] ["self", "calls"] (defScope s_Hall_run) := ⟨rfl, rfl, rfl, by decide +kernel, rfl, by decide +kernel, by decide +kernel⟩
theorem sc_Hall_deeds : FnScope ["self"] ["self"] (defScope s_Hall_deeds) := ⟨rfl, rfl, rfl, by decide +kernel, rfl, by decide +kernel, by decide +kernel⟩
theorem sc_Hall_dips : FnScope ["self"] ["self"] (defScope s_Hall_dips) := ⟨rfl, rfl, rfl, by decide +kernel, rfl, by decide +kernel, by decide +kernel⟩
theorem sc_Hall_tops : FnScope ["self"] ["self"] (defScope s_Hall_tops) := ⟨rfl, rfl, rfl, by decide +kernel, rfl, by decide +kernel, by decide +kernel⟩
theorem sc_at_rest : FnScope ["row"] ["row"] (defScope s_at_rest) := ⟨rfl, rfl, rfl, by decide +kernel, rfl, by decide +kernel, by decide +kernel⟩
theorem sc_open_parts : FnScope ["one", "other", "found", "first", "last", "edges", "left", "right"] ["one", "other"] (defScope s_open_parts) := ⟨rfl, rfl, rfl, by decide +kernel, rfl, by decide +kernel, by decide +kernel⟩
theorem sc_parts : FnScope ["one", "other", "first", "last", "left", "right"] ["one", "other"] (defScope s_parts) := ⟨rfl, rfl, rfl, by decide +kernel, rfl, by decide +kernel, by decide +kernel⟩
theorem sc__law_flat : FnScope ["rows", "found", "own"] ["rows"] (defScope s__law_flat) := ⟨rfl, rfl, rfl, by decide +kernel, rfl, by decide +kernel, by decide +kernel⟩
theorem sc_next_calls : FnScope ["some", "found", "first", "last", "left", "right"] ["some"] (defScope s_next_calls) := ⟨rfl, rfl, rfl, by decide +kernel, rfl, by decide +kernel, by decide +kernel⟩
theorem sc_firsts : FnScope ["one", "other"] ["one", "other"] (defScope s_firsts) := ⟨rfl, rfl, rfl, by decide +kernel, rfl, by decide +kernel, by decide +kernel⟩
theorem sc__law_of : FnScope ["urn", "some"] ["urn", "some"] (defScope s__law_of) := ⟨rfl, rfl, rfl, by decide +kernel, rfl, by decide +kernel, by decide +kernel⟩
theorem sc__law_bar : FnScope ["one", "other", "many", "person", "inner_v", "top", "dip", "near", "far", "first", "own"] ["one", "other"] (defScope s__law_bar) := ⟨rfl, rfl, rfl, by decide +kernel, rfl, by decide +kernel, by decide +kernel⟩
theorem sc_Hall_go : FnScope ["self", "goal", "far"] ["self", "goal"] (defScope s_Hall_go) := ⟨rfl, rfl, rfl, by decide +kernel, rfl, by decide +kernel, by decide +kernel⟩
theorem sc__law_go : FnScope ["hall", "goal", "told", "caught_so"] ["hall", "goal"] (defScope s__law_go) := ⟨rfl, rfl, rfl, by decide +kernel, rfl, by decide +kernel, by decide +kernel⟩
theorem sc_Hall_undo : FnScope ["self"] ["self"] (defScope s_Hall_undo) := ⟨rfl, rfl, rfl, by decide +kernel, rfl, by decide +kernel, by decide +kernel⟩
theorem sc_law : FnScope ["script", "urn", "row", "many", "given", "calls", "turn", "hall", "now", "still", "moved", "place", "person", "later", "got", "inner_v", "high", "low", "first", "last", "one", "other", "due", "goal", "reason", "host", "steps", "far"] ["script"] (defScope s_law) := ⟨rfl, rfl, rfl, by decide +kernel, rfl, by decide +kernel, by decide +kernel⟩
structure Cn (P : Program) (w : World) (K : PySem.W.Frag) (mg : Str → Option Value) (base : Heap) (XC : Nat → Addr) (HC : Addr) where
  b_abs : mg "abs" = none
  b_all : mg "all" = none
  b_bool : mg "bool" = none
  b_enumerate : mg "enumerate" = none
  b_int : mg "int" = none
  b_isinstance : mg "isinstance" = none
  b_len : mg "len" = none
  b_list : mg "list" = none
  b_max : mg "max" = none
  b_min : mg "min" = none
  b_range : mg "range" = none
  b_set : mg "set" = none
  b_sorted : mg "sorted" = none
  b_str : mg "str" = none
  b_tuple : mg "tuple" = none
  b_zip : mg "zip" = none
  g_CHANGE : ∃ tk, mg "CHANGE" = some (Value.str "change" tk)
  g_ORDER : ∃ tk, mg "ORDER" = some (Value.str "order" tk)
  g_RUN : ∃ tk, mg "RUN" = some (Value.str "run" tk)
  f__law_cells : Addr
  fd__law_cells : FuncData
  F__law_cells : FunV K "_law_cells" "_law_cells" s__law_cells f__law_cells fd__law_cells
  bd__law_cells : Binds K fd__law_cells ["script", "many"] []
  f__law_box : Addr
  fd__law_box : FuncData
  F__law_box : FunV K "_law_box" "_law_box" s__law_box f__law_box fd__law_box
  bd__law_box : Binds K fd__law_box ["script", "k"] []
  f__law_take : Addr
  fd__law_take : FuncData
  F__law_take : FunV K "_law_take" "_law_take" s__law_take f__law_take fd__law_take
  bd__law_take : Binds K fd__law_take ["urn", "below"] []
  f__law_great : Addr
  fd__law_great : FuncData
  F__law_great : FunV K "_law_great" "_law_great" s__law_great f__law_great fd__law_great
  bd__law_great : Binds K fd__law_great ["urn", "most"] []
  f__law_soft : Addr
  fd__law_soft : FuncData
  F__law_soft : FunV K "_law_soft" "_law_soft" s__law_soft f__law_soft fd__law_soft
  bd__law_soft : Binds K fd__law_soft ["matter"] []
  f_Hall_init : Addr
  fd_Hall_init : FuncData
  F_Hall_init : FunV K "__init__" "Hall.__init__" s_Hall_init f_Hall_init fd_Hall_init
  bd_Hall_init : Binds K fd_Hall_init ["self", "row"] []
  f__law_called : Addr
  fd__law_called : FuncData
  F__law_called : FunV K "_law_called" "_law_called" s__law_called f__law_called fd__law_called
  bd__law_called : Binds K fd__law_called ["row", "person"] []
  f_Hall_row : Addr
  fd_Hall_row : FuncData
  F_Hall_row : FunV K "row" "Hall.row" s_Hall_row f_Hall_row fd_Hall_row
  bd_Hall_row : Binds K fd_Hall_row ["self"] []
  mt_Hall_row : Meth K HC "row" f_Hall_row
  f_look_person : Addr
  fd_look_person : FuncData
  F_look_person : FunV K "look_person" "look_person" s_look_person f_look_person fd_look_person
  bd_look_person : Binds K fd_look_person ["row", "person"] []
  f_middle_of : Addr
  fd_middle_of : FuncData
  F_middle_of : FunV K "middle_of" "middle_of" s_middle_of f_middle_of fd_middle_of
  bd_middle_of : Binds K fd_middle_of ["row", "person"] []
  f_called : Addr
  fd_called : FuncData
  F_called : FunV K "called" "called" s_called f_called fd_called
  bd_called : Binds K fd_called ["row", "person"] []
  f_Hall_call : Addr
  fd_Hall_call : FuncData
  F_Hall_call : FunV K "call" "Hall.call" s_Hall_call f_Hall_call fd_Hall_call
  bd_Hall_call : Binds K fd_Hall_call ["self", "person"] []
  mt_Hall_call : Meth K HC "call" f_Hall_call
  f_middle : Addr
  fd_middle : FuncData
  F_middle : FunV K "middle" "middle" s_middle f_middle fd_middle
  bd_middle : Binds K fd_middle ["row", "person"] []
  f__law_same : Addr
  fd__law_same : FuncData
  F__law_same : FunV K "_law_same" "_law_same" s__law_same f__law_same fd__law_same
  bd__law_same : Binds K fd__law_same ["got", "due"] []
  f_inner : Addr
  fd_inner : FuncData
  F_inner : FunV K "inner" "inner" s_inner f_inner fd_inner
  bd_inner : Binds K fd_inner ["row"] []
  f_tops : Addr
  fd_tops : FuncData
  F_tops : FunV K "tops" "tops" s_tops f_tops fd_tops
  bd_tops : Binds K fd_tops ["row"] []
  f_dips : Addr
  fd_dips : FuncData
  F_dips : FunV K "dips" "dips" s_dips f_dips fd_dips
  bd_dips : Binds K fd_dips ["row"] []
  f_look_many : Addr
  fd_look_many : FuncData
  F_look_many : FunV K "look_many" "look_many" s_look_many f_look_many fd_look_many
  bd_look_many : Binds K fd_look_many ["one", "other"] []
  f_wrong_orders : Addr
  fd_wrong_orders : FuncData
  F_wrong_orders : FunV K "wrong_orders" "wrong_orders" s_wrong_orders f_wrong_orders fd_wrong_orders
  bd_wrong_orders : Binds K fd_wrong_orders ["one", "other"] []
  f_wrong_changes : Addr
  fd_wrong_changes : FuncData
  F_wrong_changes : FunV K "wrong_changes" "wrong_changes" s_wrong_changes f_wrong_changes fd_wrong_changes
  bd_wrong_changes : Binds K fd_wrong_changes ["one", "other"] []
  f_runs : Addr
  fd_runs : FuncData
  F_runs : FunV K "runs" "runs" s_runs f_runs fd_runs
  bd_runs : Binds K fd_runs ["row"] []
  f_stayed : Addr
  fd_stayed : FuncData
  F_stayed : FunV K "stayed" "stayed" s_stayed f_stayed fd_stayed
  bd_stayed : Binds K fd_stayed ["one", "other", "first", "last"] []
  f_wrong_runs : Addr
  fd_wrong_runs : FuncData
  F_wrong_runs : FunV K "wrong_runs" "wrong_runs" s_wrong_runs f_wrong_runs fd_wrong_runs
  bd_wrong_runs : Binds K fd_wrong_runs ["one", "other"] []
  f_bar : Addr
  fd_bar : FuncData
  F_bar : FunV K "bar" "bar" s_bar f_bar fd_bar
  bd_bar : Binds K fd_bar ["one", "other"] []
  f_look_leads : Addr
  fd_look_leads : FuncData
  F_look_leads : FunV K "look_leads" "look_leads" s_look_leads f_look_leads fd_look_leads
  bd_look_leads : Binds K fd_look_leads ["one", "other"] []
  f_changed : Addr
  fd_changed : FuncData
  F_changed : FunV K "changed" "changed" s_changed f_changed fd_changed
  bd_changed : Binds K fd_changed ["one", "other"] []
  f_distance : Addr
  fd_distance : FuncData
  F_distance : FunV K "distance" "distance" s_distance f_distance fd_distance
  bd_distance : Binds K fd_distance ["one", "other"] []
  f_leads : Addr
  fd_leads : FuncData
  F_leads : FunV K "leads" "leads" s_leads f_leads fd_leads
  bd_leads : Binds K fd_leads ["one", "other"] []
  f_run : Addr
  fd_run : FuncData
  F_run : FunV K "run" "run" s_run f_run fd_run
  bd_run : Binds K fd_run ["row", "calls"] []
  f_idle : Addr
  fd_idle : FuncData
  F_idle : FunV K "idle" "idle" s_idle f_idle fd_idle
  bd_idle : Binds K fd_idle ["row", "calls"] []
  f_Hall_run : Addr
  fd_Hall_run : FuncData
  F_Hall_run : FunV K "run" "Hall.run" s_Hall_run f_Hall_run fd_Hall_run
  bd_Hall_run : Binds K fd_Hall_run ["self", "calls"] []
  mt_Hall_run : Meth K HC "run" f_Hall_run
  f_Hall_deeds : Addr
  fd_Hall_deeds : FuncData
  F_Hall_deeds : FunV K "deeds" "Hall.deeds" s_Hall_deeds f_Hall_deeds fd_Hall_deeds
  bd_Hall_deeds : Binds K fd_Hall_deeds ["self"] []
  mt_Hall_deeds : Meth K HC "deeds" f_Hall_deeds
  f_Hall_dips : Addr
  fd_Hall_dips : FuncData
  F_Hall_dips : FunV K "dips" "Hall.dips" s_Hall_dips f_Hall_dips fd_Hall_dips
  bd_Hall_dips : Binds K fd_Hall_dips ["self"] []
  mt_Hall_dips : Meth K HC "dips" f_Hall_dips
  f_Hall_tops : Addr
  fd_Hall_tops : FuncData
  F_Hall_tops : FunV K "tops" "Hall.tops" s_Hall_tops f_Hall_tops fd_Hall_tops
  bd_Hall_tops : Binds K fd_Hall_tops ["self"] []
  mt_Hall_tops : Meth K HC "tops" f_Hall_tops
  f_at_rest : Addr
  fd_at_rest : FuncData
  F_at_rest : FunV K "at_rest" "at_rest" s_at_rest f_at_rest fd_at_rest
  bd_at_rest : Binds K fd_at_rest ["row"] []
  f_open_parts : Addr
  fd_open_parts : FuncData
  F_open_parts : FunV K "open_parts" "open_parts" s_open_parts f_open_parts fd_open_parts
  bd_open_parts : Binds K fd_open_parts ["one", "other"] []
  f_parts : Addr
  fd_parts : FuncData
  F_parts : FunV K "parts" "parts" s_parts f_parts fd_parts
  bd_parts : Binds K fd_parts ["one", "other"] []
  f__law_flat : Addr
  fd__law_flat : FuncData
  F__law_flat : FunV K "_law_flat" "_law_flat" s__law_flat f__law_flat fd__law_flat
  bd__law_flat : Binds K fd__law_flat ["rows"] []
  f_next_calls : Addr
  fd_next_calls : FuncData
  F_next_calls : FunV K "next_calls" "next_calls" s_next_calls f_next_calls fd_next_calls
  bd_next_calls : Binds K fd_next_calls ["some"] []
  f_firsts : Addr
  fd_firsts : FuncData
  F_firsts : FunV K "firsts" "firsts" s_firsts f_firsts fd_firsts
  bd_firsts : Binds K fd_firsts ["one", "other"] []
  f__law_of : Addr
  fd__law_of : FuncData
  F__law_of : FunV K "_law_of" "_law_of" s__law_of f__law_of fd__law_of
  bd__law_of : Binds K fd__law_of ["urn", "some"] []
  f__law_bar : Addr
  fd__law_bar : FuncData
  F__law_bar : FunV K "_law_bar" "_law_bar" s__law_bar f__law_bar fd__law_bar
  bd__law_bar : Binds K fd__law_bar ["one", "other"] []
  f_Hall_go : Addr
  fd_Hall_go : FuncData
  F_Hall_go : FunV K "go" "Hall.go" s_Hall_go f_Hall_go fd_Hall_go
  bd_Hall_go : Binds K fd_Hall_go ["self", "goal"] []
  mt_Hall_go : Meth K HC "go" f_Hall_go
  f__law_go : Addr
  fd__law_go : FuncData
  F__law_go : FunV K "_law_go" "_law_go" s__law_go f__law_go fd__law_go
  bd__law_go : Binds K fd__law_go ["hall", "goal"] []
  f_Hall_undo : Addr
  fd_Hall_undo : FuncData
  F_Hall_undo : FunV K "undo" "Hall.undo" s_Hall_undo f_Hall_undo fd_Hall_undo
  bd_Hall_undo : Binds K fd_Hall_undo ["self"] []
  mt_Hall_undo : Meth K HC "undo" f_Hall_undo
  f_law : Addr
  fd_law : FuncData
  F_law : FunV K "law" "law" s_law f_law fd_law
  bd_law : Binds K fd_law ["script"] []
  g__law_bar : mg "_law_bar" = some (.ref f__law_bar)
  g__law_box : mg "_law_box" = some (.ref f__law_box)
  g__law_called : mg "_law_called" = some (.ref f__law_called)
  g__law_cells : mg "_law_cells" = some (.ref f__law_cells)
  g__law_flat : mg "_law_flat" = some (.ref f__law_flat)
  g__law_go : mg "_law_go" = some (.ref f__law_go)
  g__law_great : mg "_law_great" = some (.ref f__law_great)
  g__law_of : mg "_law_of" = some (.ref f__law_of)
  g__law_same : mg "_law_same" = some (.ref f__law_same)
  g__law_soft : mg "_law_soft" = some (.ref f__law_soft)
  g__law_take : mg "_law_take" = some (.ref f__law_take)
  g_at_rest : mg "at_rest" = some (.ref f_at_rest)
  g_bar : mg "bar" = some (.ref f_bar)
  g_called : mg "called" = some (.ref f_called)
  g_changed : mg "changed" = some (.ref f_changed)
  g_dips_rows : mg "dips_rows" = some (.ref f_dips)
  g_distance : mg "distance" = some (.ref f_distance)
  g_firsts : mg "firsts" = some (.ref f_firsts)
  g_idle : mg "idle" = some (.ref f_idle)
  g_inner : mg "inner" = some (.ref f_inner)
  g_leads : mg "leads" = some (.ref f_leads)
  g_look_leads : mg "look_leads" = some (.ref f_look_leads)
  g_look_many : mg "look_many" = some (.ref f_look_many)
  g_look_person : mg "look_person" = some (.ref f_look_person)
  g_middle : mg "middle" = some (.ref f_middle)
  g_middle_of : mg "middle_of" = some (.ref f_middle_of)
  g_next_calls : mg "next_calls" = some (.ref f_next_calls)
  g_open_parts : mg "open_parts" = some (.ref f_open_parts)
  g_parts : mg "parts" = some (.ref f_parts)
  g_run_calling : mg "run_calling" = some (.ref f_run)
  g_runs : mg "runs" = some (.ref f_runs)
  g_stayed : mg "stayed" = some (.ref f_stayed)
  g_tops_rows : mg "tops_rows" = some (.ref f_tops)
  g_wrong_changes : mg "wrong_changes" = some (.ref f_wrong_changes)
  g_wrong_orders : mg "wrong_orders" = some (.ref f_wrong_orders)
  g_wrong_runs : mg "wrong_runs" = some (.ref f_wrong_runs)
  c_Hall : Cls K HC
  g_Hall : mg "Hall" = some (.ref HC)
  mk_Hall : Mk K HC f_Hall_init
  na_own_log : NoAttr K HC "own_log"
  na_own_rows : NoAttr K HC "own_rows"
  x_Barred : ExcC P w K mg base XC 9 "Barred"
  x_NoPerson : ExcC P w K mg base XC 0 "NoPerson"
  x_OtherPeople : ExcC P w K mg base XC 4 "OtherPeople"
  gx_Barred : mg "Barred" = some (.ref (XC 9))
  xf_Barred : XfC K (XC 9)
  xno_Barred : PySem.W.findIn K (.ref (XC 9)) (fldOf 9) = some none
  xe_Barred : PySem.W.exmOne K (.ref (XC 9)) (.ref (XC 9)) = some true
end DL
end
section
set_option maxRecDepth 100000
set_option maxHeartbeats 4000000
namespace DL
open PySem PySem.Spec PyProof.Rows L2
section
variable {P : Program} {w : World} {K : PySem.W.Frag} {mg : Str → Option Value} {base : Heap} {XC : Nat → Addr} {HC : Addr}
theorem ok__law_cells (T : Cn P w K mg base XC HC) : OkD P w K mg base XC 4 T.f__law_cells T.fd__law_cells ["script", "many"] (liftP F__law_cells) :=
  okP (k := 3) T.F__law_cells sc__law_cells <| fun cdv A outer s H E hr => by
    have tk := takes_of (X := cxOf (L2.CX P w) P w K mg base ["script", "many", "cells", "k", "cell", "at"] "_law_cells" (defScope s__law_cells) T.f__law_cells cdv A outer s H E) (E := E) rfl rfl rfl rfl
    have po := passes_of (X := cxOf (L2.CX P w) P w K mg base ["script", "many", "cells", "k", "cell", "at"] "_law_cells" (defScope s__law_cells) T.f__law_cells cdv A outer s H E) rfl
    exact ⟨_, (show BX (cxOf (L2.CX P w) P w K mg base ["script", "many", "cells", "k", "cell", "at"] "_law_cells" (defScope s__law_cells) T.f__law_cells cdv A outer s H E) XC (fun c d _ H => E c d H) (defBody s__law_cells) _ (T__law_cells) from (b_cons (s_set 2 sc__law_cells.nd (d_orT (d_ct call_list_of sim_listC T.b_list (by decide +kernel) (a_cons (d_sl (d_var 0) o_none (o_some (d_var 1))) a_nil)) (d_one (d_lstC (a_cons d_int a_nil))))) (b_cons (s_for po rfl (i_en T.b_enumerate (d_sl (d_var 0) (o_some (d_var 1)) (o_some d_int))) (g_tup (n := 2) rfl (gs_cons (g_name 3 sc__law_cells.nd) (gs_cons (g_name 4 sc__law_cells.nd) gs_nil))) (b_cons (s_set 5 sc__law_cells.nd (d_op op_mod sim_mod (d_ct call_int1 sim_int1 T.b_int (by decide +kernel) (a_cons (d_var 3) a_nil)) (d_var 1))) (b_one (s_asg (d_op op_addA sim_add (d_ix (d_var 2) (d_var 5)) (d_op op_mulA sim_mulI (d_var 4) (d_op op_addA sim_add (d_var 3) d_int))) (g_sub (d_var 2) (d_var 5)))))) (b_frz 2 (b_one (s_ret (d_var 2)))))))⟩
theorem ok__law_box (T : Cn P w K mg base XC HC) : OkD P w K mg base XC 4 T.f__law_box T.fd__law_box ["script", "k"] (F__law_box) :=
  okC (k := 3) T.F__law_box sc__law_box <| fun cdv A outer s H E hr => by
    have tk := takes_of (X := cxOf (L2.CX P w) P w K mg base ["script", "k", "cell"] "_law_box" (defScope s__law_box) T.f__law_box cdv A outer s H E) (E := E) rfl rfl rfl rfl
    have po := passes_of (X := cxOf (L2.CX P w) P w K mg base ["script", "k", "cell"] "_law_box" (defScope s__law_box) T.f__law_box cdv A outer s H E) rfl
    exact ⟨_, (show BX (cxOf (L2.CX P w) P w K mg base ["script", "k", "cell"] "_law_box" (defScope s__law_box) T.f__law_box cdv A outer s H E) XC (fun c d _ H => E c d H) (defBody s__law_box) _ (T__law_box) from (b_cons (s_set 2 sc__law_box.nd (d_ifExp (t_cmp op_lt sim_lt (d_var 1) (d_cb call_len sim_len T.b_len PySem.boot_len (a_cons (d_var 0) a_nil))) (d_ix (d_var 0) (d_var 1)) d_int)) (b_one (s_ret (d_lstC (a_cons (d_op op_mulA sim_mulI (d_cb call_abs sim_abs T.b_abs (by decide +kernel) (a_cons (d_var 2) a_nil)) (d_ct call_int1 sim_int1 T.b_int (by decide +kernel) (a_cons (d_cmp op_ge sim_ge (d_cb call_abs sim_abs T.b_abs (by decide +kernel) (a_cons (d_var 2) a_nil)) (d_op op_pow sim_pow d_int d_int)) a_nil))) (a_cons (d_op op_addA sim_add (d_op op_addA sim_add (d_op op_mod sim_mod (d_ct call_int1 sim_int1 T.b_int (by decide +kernel) (a_cons (d_var 2) a_nil)) d_int) (d_op op_mulA sim_mulI d_int (d_var 1))) d_int) (a_cons d_int a_nil))))))))⟩
theorem ok__law_take (T : Cn P w K mg base XC HC) : OkD P w K mg base XC 4 T.f__law_take T.fd__law_take ["urn", "below"] (F__law_take) :=
  okC (k := 3) T.F__law_take sc__law_take <| fun cdv A outer s H E hr => by
    have tk := takes_of (X := cxOf (L2.CX P w) P w K mg base ["urn", "below", "drawn", "once", "far", "twice"] "_law_take" (defScope s__law_take) T.f__law_take cdv A outer s H E) (E := E) rfl rfl rfl rfl
    have po := passes_of (X := cxOf (L2.CX P w) P w K mg base ["urn", "below", "drawn", "once", "far", "twice"] "_law_take" (defScope s__law_take) T.f__law_take cdv A outer s H E) rfl
    exact ⟨_, (show BX (cxOf (L2.CX P w) P w K mg base ["urn", "below", "drawn", "once", "far", "twice"] "_law_take" (defScope s__law_take) T.f__law_take cdv A outer s H E) XC (fun c d _ H => E c d H) (defBody s__law_take) _ (T__law_take) from (b_cons (s_if (t_cmp op_gt sim_gt (d_ix (d_var 0) d_int) d_int) (b_cons (s_set 2 sc__law_take.nd (d_op op_mod sim_mod (d_ct call_int1 sim_int1 T.b_int (by decide +kernel) (a_cons (d_ix (d_var 0) d_int) a_nil)) (d_var 1))) (b_cons (s_asg (d_op op_fdivW sim_div (d_ix (d_var 0) d_int) (d_var 1)) (g_sub (d_var 0) d_int)) (b_one (s_ret (d_var 2))))) b_nil) (b_cons (s_asg (d_op op_addA sim_add (d_ix (d_var 0) d_int) d_int) (g_sub (d_var 0) d_int)) (b_cons (s_set 3 sc__law_take.nd (d_op op_mod sim_mod (d_ct call_int1 sim_int1 T.b_int (by decide +kernel) (a_cons (d_op op_mulA sim_mulI (d_op op_addA sim_add (d_ix (d_var 0) d_int) (d_op op_mulA sim_mulI d_int (d_ix (d_var 0) d_int))) (d_op op_addA sim_add d_int (d_ix (d_var 0) d_int))) a_nil)) d_int)) (b_cons (s_set 4 sc__law_take.nd (d_op op_addA sim_add (d_op op_mod sim_mod (d_ct call_int1 sim_int1 T.b_int (by decide +kernel) (a_cons (d_var 3) a_nil)) d_int) d_int)) (b_cons (s_set 5 sc__law_take.nd (d_op op_mod sim_mod (d_ct call_int1 sim_int1 T.b_int (by decide +kernel) (a_cons (d_op op_mulA sim_mulI (d_op op_addA sim_add (d_op op_addA sim_add (d_var 3) (d_ix (d_var 0) d_int)) (d_op op_fdivW sim_div (d_ix (d_var 0) d_int) d_int)) (d_var 4)) a_nil)) d_int)) (b_one (s_ret (d_op op_mod sim_mod (d_ct call_int1 sim_int1 T.b_int (by decide +kernel) (a_cons (d_op op_fdivW sim_div (d_op op_mod sim_mod (d_ct call_int1 sim_int1 T.b_int (by decide +kernel) (a_cons (d_op op_addA sim_add (d_op op_mulA sim_mulI (d_var 5) d_int) (d_var 3)) a_nil)) d_int) d_int) a_nil)) (d_var 1))))))))))⟩
theorem ok__law_great (T : Cn P w K mg base XC HC) : OkD P w K mg base XC 5 T.f__law_great T.fd__law_great ["urn", "most"] (F__law_great) :=
  okC (k := 4) T.F__law_great sc__law_great <| fun cdv A outer s H E hr => by
    have tk := takes_of (X := cxOf (L2.CX P w) P w K mg base ["urn", "most", "row", "number", "whole", "turn", "stair", "size", "step", "last"] "_law_great" (defScope s__law_great) T.f__law_great cdv A outer s H E) (E := E) rfl rfl rfl rfl
    have po := passes_of (X := cxOf (L2.CX P w) P w K mg base ["urn", "most", "row", "number", "whole", "turn", "stair", "size", "step", "last"] "_law_great" (defScope s__law_great) T.f__law_great cdv A outer s H E) rfl
    exact ⟨_, (show BX (cxOf (L2.CX P w) P w K mg base ["urn", "most", "row", "number", "whole", "turn", "stair", "size", "step", "last"] "_law_great" (defScope s__law_great) T.f__law_great cdv A outer s H E) XC (fun c d _ H => E c d H) (defBody s__law_great) _ (T__law_great) from (b_cons (s_par (i := 2) (j := 3) sc__law_great.nd (a_cons (d_lstC (a_cons (d_call (ok__law_take T) (hr.mono (by decide)) T.g__law_take T.F__law_take.kp T.bd__law_take tk (a_cons (d_var 0) (a_cons d_int a_nil))) a_nil)) (a_cons d_int a_nil))) (b_cons (s_set 4 sc__law_great.nd (d_op op_addA sim_add d_int (d_call (ok__law_take T) (hr.mono (by decide)) T.g__law_take T.F__law_take.kp T.bd__law_take tk (a_cons (d_var 0) (a_cons (d_var 1) a_nil))))) (b_cons (s_for po rfl (i_rg1 T.b_range (a_cons d_int a_nil)) (g_name 5 sc__law_great.nd) (b_cons (s_par (i := 6) (j := 7) sc__law_great.nd (a_cons (d_or (d_cmp (op_eqD hr.units) sim_eq (d_op op_mod sim_mod (d_var 5) d_int) d_int) (d_one (d_cmp (op_eqD hr.units) sim_eq (d_call (ok__law_take T) (hr.mono (by decide)) T.g__law_take T.F__law_take.kp T.bd__law_take tk (a_cons (d_var 0) (a_cons d_int a_nil))) d_int))) (a_cons (d_op op_addA sim_add d_int (d_call (ok__law_take T) (hr.mono (by decide)) T.g__law_take T.F__law_take.kp T.bd__law_take tk (a_cons (d_var 0) (a_cons d_int a_nil)))) a_nil))) (b_one (s_for po rfl (i_rg1 T.b_range (a_cons (d_var 7) a_nil)) (g_name 8 sc__law_great.nd) (b_one (s_if (t_cmp op_lt sim_lt (d_cb call_len sim_len T.b_len PySem.boot_len (a_cons (d_var 2) a_nil)) (d_var 4)) (b_cons (s_set 9 sc__law_great.nd (d_ix (d_var 2) (d_op op_sub sim_sub (d_cb call_len sim_len T.b_len PySem.boot_len (a_cons (d_var 2) a_nil)) d_int))) (b_cons (s_set 3 sc__law_great.nd (d_ifExp (t_w (w_or (t_val (d_var 6)) (w_or1 (t_cmp (op_eqD hr.units) sim_eq (d_op op_mod sim_mod (d_op op_addA sim_add (d_var 8) (d_var 5)) d_int) d_int)))) (d_op op_addA sim_add (d_op op_addA sim_add (d_var 9) d_int) (d_call (ok__law_take T) (hr.mono (by decide)) T.g__law_take T.F__law_take.kp T.bd__law_take tk (a_cons (d_var 0) (a_cons d_int a_nil)))) (d_op op_sub sim_sub (d_op op_sub sim_sub (d_var 9) d_int) (d_call (ok__law_take T) (hr.mono (by decide)) T.g__law_take T.F__law_take.kp T.bd__law_take tk (a_cons (d_var 0) (a_cons d_int a_nil)))))) (b_one (s_expr (d_app (d_var 2) (d_var 3)))))) b_nil)))))) (b_frz 2 (b_one (s_ret (d_ct call_tuple_of sim_tuple T.b_tuple (by decide +kernel) (a_cons (d_var 2) a_nil)))))))))⟩
theorem ok__law_soft (T : Cn P w K mg base XC HC) : ∀ n : Nat, OkD P w K mg base XC (4 + n) T.f__law_soft T.fd__law_soft ["matter"] (liftP (F__law_soft n))
  | 0 => ⟨fun vs H Q E h => by
      obtain ⟨W, ds, μ, _, _, r, hl, _, _, hn⟩ := h
      exact absurd rfl hn, fun A outer s H args us vs Q E _ _ _ _ h => by
      obtain ⟨W, ds, μ, _, _, r, hl, _, _, hn⟩ := h
      exact absurd rfl hn⟩
  | n + 1 => okP (k := 4 + n) T.F__law_soft sc__law_soft <|
    have hF := ok__law_soft T n
    fun cdv A outer s H E hr => by
    have tk := takes_of (X := cxOf (L2.CX P w) P w K mg base ["matter", "bit"] "_law_soft" (defScope s__law_soft) T.f__law_soft cdv A outer s H E) (E := E) rfl rfl rfl rfl
    have po := passes_of (X := cxOf (L2.CX P w) P w K mg base ["matter", "bit"] "_law_soft" (defScope s__law_soft) T.f__law_soft cdv A outer s H E) rfl
    exact ⟨_, (show BX (cxOf (L2.CX P w) P w K mg base ["matter", "bit"] "_law_soft" (defScope s__law_soft) T.f__law_soft cdv A outer s H E) XC (fun c d _ H => E c d H) (defBody s__law_soft) _ (T__law_soft (liftP (F__law_soft n))) from (b_one (s_ret (d_ifExp (t_val (d_isi2 isi_lst isi_tup T.b_isinstance T.b_list T.b_tuple (by decide +kernel) (by decide +kernel) (d_var 0))) (d_lc (own := [ ("bit" , 1) ]) rfl sc__law_soft.nd (i_seq (d_var 0)) (blkOk_by (own := [ ("bit" , 1) ]) (N := [ "matter" , "bit" ]) (sc := defScope s__law_soft) (by decide +kernel)) (fun _ _ _ _ _ => (g_name 1 sc__law_soft.nd)) (fun _ _ _ _ _ => ts_nil) (fun _ _ _ _ _ => (d_call hF hr T.g__law_soft T.F__law_soft.kp T.bd__law_soft takes0 (a_cons (d_var 1) a_nil)))) (d_var 0)))))⟩
theorem ok_Hall_init (T : Cn P w K mg base XC HC) : OkD P w K mg base XC 4 T.f_Hall_init T.fd_Hall_init ["self", "row"] (F_Hall_init HC) :=
  okC (k := 3) T.F_Hall_init sc_Hall_init <| fun cdv A outer s H E hr => by
    have tk := takes_of (X := cxOf (L2.CX P w) P w K mg base ["self", "row"] "Hall.__init__" (defScope s_Hall_init) T.f_Hall_init cdv A outer s H E) (E := E) rfl rfl rfl rfl
    have po := passes_of (X := cxOf (L2.CX P w) P w K mg base ["self", "row"] "Hall.__init__" (defScope s_Hall_init) T.f_Hall_init cdv A outer s H E) rfl
    exact ⟨_, (show BX (cxOf (L2.CX P w) P w K mg base ["self", "row"] "Hall.__init__" (defScope s_Hall_init) T.f_Hall_init cdv A outer s H E) XC (fun c d _ H => E c d H) (defBody s_Hall_init) _ (T_Hall_init HC) from (b_cons (s_fld T.c_Hall T.na_own_rows (d_var 0) (d_lstC (a_cons (d_ct call_tuple_of sim_tuple T.b_tuple (by decide +kernel) (a_cons (d_var 1) a_nil)) a_nil))) (b_one (s_fld T.c_Hall T.na_own_log (d_var 0) (d_lstC a_nil)))))⟩
theorem ok__law_called (T : Cn P w K mg base XC HC) : OkD P w K mg base XC 4 T.f__law_called T.fd__law_called ["row", "person"] (liftP F__law_called) :=
  okP (k := 3) T.F__law_called sc__law_called <| fun cdv A outer s H E hr => by
    have tk := takes_of (X := cxOf (L2.CX P w) P w K mg base ["row", "person"] "_law_called" (defScope s__law_called) T.f__law_called cdv A outer s H E) (E := E) rfl rfl rfl rfl
    have po := passes_of (X := cxOf (L2.CX P w) P w K mg base ["row", "person"] "_law_called" (defScope s__law_called) T.f__law_called cdv A outer s H E) rfl
    exact ⟨_, (show BX (cxOf (L2.CX P w) P w K mg base ["row", "person"] "_law_called" (defScope s__law_called) T.f__law_called cdv A outer s H E) XC (fun c d _ H => E c d H) (defBody s__law_called) _ (T__law_called) from (b_cons (s_if (t_not (t_chain op_lt sim_lt op_lt sim_lt d_int (d_var 1) (d_op op_sub sim_sub (d_cb call_len sim_len T.b_len PySem.boot_len (a_cons (d_var 0) a_nil)) d_int))) (b_one (s_ret (d_var 0))) b_nil) (b_one (s_ret (d_op op_addA sim_add (d_op op_addA sim_add (d_sl (d_var 0) o_none (o_some (d_var 1))) (d_tup (a_cons (d_ix (d_cb cr_sortedA sim_sortedA T.b_sorted (by decide +kernel) (a_cons (d_sl (d_var 0) (o_some (d_op op_sub sim_sub (d_var 1) d_int)) (o_some (d_op op_addA sim_add (d_var 1) d_int))) a_nil)) d_int) a_nil))) (d_sl (d_var 0) (o_some (d_op op_addA sim_add (d_var 1) d_int)) o_none))))))⟩
theorem ok_Hall_row (T : Cn P w K mg base XC HC) : OkD P w K mg base XC 4 T.f_Hall_row T.fd_Hall_row ["self"] (F_Hall_row HC) :=
  okC (k := 3) T.F_Hall_row sc_Hall_row <| fun cdv A outer s H E hr => by
    have tk := takes_of (X := cxOf (L2.CX P w) P w K mg base ["self"] "Hall.row" (defScope s_Hall_row) T.f_Hall_row cdv A outer s H E) (E := E) rfl rfl rfl rfl
    have po := passes_of (X := cxOf (L2.CX P w) P w K mg base ["self"] "Hall.row" (defScope s_Hall_row) T.f_Hall_row cdv A outer s H E) rfl
    exact ⟨_, (show BX (cxOf (L2.CX P w) P w K mg base ["self"] "Hall.row" (defScope s_Hall_row) T.f_Hall_row cdv A outer s H E) XC (fun c d _ H => E c d H) (defBody s_Hall_row) _ (T_Hall_row HC) from (b_one (s_ret (d_ix (d_fld T.c_Hall T.na_own_rows (d_var 0)) (d_neg d_int)))))⟩
theorem ok_look_person (T : Cn P w K mg base XC HC) : OkD P w K mg base XC 4 T.f_look_person T.fd_look_person ["row", "person"] (liftP F_look_person) :=
  okP (k := 3) T.F_look_person sc_look_person <| fun cdv A outer s H E hr => by
    have tk := takes_of (X := cxOf (L2.CX P w) P w K mg base ["row", "person"] "look_person" (defScope s_look_person) T.f_look_person cdv A outer s H E) (E := E) rfl rfl rfl rfl
    have po := passes_of (X := cxOf (L2.CX P w) P w K mg base ["row", "person"] "look_person" (defScope s_look_person) T.f_look_person cdv A outer s H E) rfl
    exact ⟨_, (show BX (cxOf (L2.CX P w) P w K mg base ["row", "person"] "look_person" (defScope s_look_person) T.f_look_person cdv A outer s H E) XC (fun c d _ H => E c d H) (defBody s_look_person) _ (T_look_person) from (b_one (s_if (t_not (t_chain op_le sim_le op_lt sim_lt d_int (d_var 1) (d_cb call_len sim_len T.b_len PySem.boot_len (a_cons (d_var 0) a_nil)))) (b_one (s_raise 0 T.x_NoPerson (hr.mono (by decide)) tk (d_var 1))) b_nil)))⟩
theorem ok_middle_of (T : Cn P w K mg base XC HC) : OkD P w K mg base XC 4 T.f_middle_of T.fd_middle_of ["row", "person"] (liftP F_middle_of) :=
  okP (k := 3) T.F_middle_of sc_middle_of <| fun cdv A outer s H E hr => by
    have tk := takes_of (X := cxOf (L2.CX P w) P w K mg base ["row", "person"] "middle_of" (defScope s_middle_of) T.f_middle_of cdv A outer s H E) (E := E) rfl rfl rfl rfl
    have po := passes_of (X := cxOf (L2.CX P w) P w K mg base ["row", "person"] "middle_of" (defScope s_middle_of) T.f_middle_of cdv A outer s H E) rfl
    exact ⟨_, (show BX (cxOf (L2.CX P w) P w K mg base ["row", "person"] "middle_of" (defScope s_middle_of) T.f_middle_of cdv A outer s H E) XC (fun c d _ H => E c d H) (defBody s_middle_of) _ (T_middle_of) from (b_cons (s_if (t_cmp op_in_seq sim_in (d_var 1) (d_tup (a_cons d_int (a_cons (d_op op_sub sim_sub (d_cb call_len sim_len T.b_len PySem.boot_len (a_cons (d_var 0) a_nil)) d_int) a_nil)))) (b_one (s_ret (d_ix (d_var 0) (d_var 1)))) b_nil) (b_one (s_ret (d_ix (d_cb cr_sortedA sim_sortedA T.b_sorted (by decide +kernel) (a_cons (d_lst (a_cons (d_ix (d_var 0) (d_op op_sub sim_sub (d_var 1) d_int)) (a_cons (d_ix (d_var 0) (d_var 1)) (a_cons (d_ix (d_var 0) (d_op op_addA sim_add (d_var 1) d_int)) a_nil)))) a_nil)) d_int)))))⟩
theorem ok_called (T : Cn P w K mg base XC HC) : OkD P w K mg base XC 5 T.f_called T.fd_called ["row", "person"] (liftP F_called) :=
  okP (k := 4) T.F_called sc_called <| fun cdv A outer s H E hr => by
    have tk := takes_of (X := cxOf (L2.CX P w) P w K mg base ["row", "person", "number", "other", "own"] "called" (defScope s_called) T.f_called cdv A outer s H E) (E := E) rfl rfl rfl rfl
    have po := passes_of (X := cxOf (L2.CX P w) P w K mg base ["row", "person", "number", "other", "own"] "called" (defScope s_called) T.f_called cdv A outer s H E) rfl
    exact ⟨_, (show BX (cxOf (L2.CX P w) P w K mg base ["row", "person", "number", "other", "own"] "called" (defScope s_called) T.f_called cdv A outer s H E) XC (fun c d _ H => E c d H) (defBody s_called) _ (T_called) from (b_cons (s_expr (d_call (ok_look_person T) (hr.mono (by decide)) T.g_look_person T.F_look_person.kp T.bd_look_person tk (a_cons (d_var 0) (a_cons (d_var 1) a_nil)))) (b_cons (s_set 2 sc_called.nd (d_call (ok_middle_of T) (hr.mono (by decide)) T.g_middle_of T.F_middle_of.kp T.bd_middle_of tk (a_cons (d_var 0) (a_cons (d_var 1) a_nil)))) (b_one (s_ret (d_ct call_tuple_of sim_tuple T.b_tuple (by decide +kernel) (a_cons (d_lc (own := [ ("other" , 3) , ("own" , 4) ]) rfl sc_called.nd (i_en T.b_enumerate (d_var 0)) (blkOk_by (own := [ ("other" , 3) , ("own" , 4) ]) (N := [ "row" , "person" , "number" , "other" , "own" ]) (sc := defScope s_called) (by decide +kernel)) (fun _ _ _ _ _ => (g_tup (n := 2) rfl (gs_cons (g_name 3 sc_called.nd) (gs_cons (g_name 4 sc_called.nd) gs_nil)))) (fun _ _ _ _ _ => ts_nil) (fun _ _ _ _ _ => (d_ifExp (t_cmp (op_eqD hr.units) sim_eq (d_var 3) (d_var 1)) (d_var 2) (d_var 4)))) a_nil)))))))⟩
theorem ok_Hall_call (T : Cn P w K mg base XC HC) : OkD P w K mg base XC 6 T.f_Hall_call T.fd_Hall_call ["self", "person"] (F_Hall_call HC) :=
  okC (k := 5) T.F_Hall_call sc_Hall_call <| fun cdv A outer s H E hr => by
    have tk := takes_of (X := cxOf (L2.CX P w) P w K mg base ["self", "person"] "Hall.call" (defScope s_Hall_call) T.f_Hall_call cdv A outer s H E) (E := E) rfl rfl rfl rfl
    have po := passes_of (X := cxOf (L2.CX P w) P w K mg base ["self", "person"] "Hall.call" (defScope s_Hall_call) T.f_Hall_call cdv A outer s H E) rfl
    exact ⟨_, (show BX (cxOf (L2.CX P w) P w K mg base ["self", "person"] "Hall.call" (defScope s_Hall_call) T.f_Hall_call cdv A outer s H E) XC (fun c d _ H => E c d H) (defBody s_Hall_call) _ (T_Hall_call HC) from (b_cons (s_expr (d_app (d_fld T.c_Hall T.na_own_rows (d_var 0)) (d_call (ok_called T) (hr.mono (by decide)) T.g_called T.F_called.kp T.bd_called tk (a_cons (d_meth0 T.c_Hall ⟨⟨_, _, T.mt_Hall_row, ok_Hall_row T, T.bd_Hall_row⟩⟩ (hr.mono (by decide)) tk (d_var 0)) (a_cons (d_var 1) a_nil))))) (b_one (s_ret (d_ix (d_meth0 T.c_Hall ⟨⟨_, _, T.mt_Hall_row, ok_Hall_row T, T.bd_Hall_row⟩⟩ (hr.mono (by decide)) tk (d_var 0)) (d_var 1))))))⟩
theorem ok_middle (T : Cn P w K mg base XC HC) : OkD P w K mg base XC 5 T.f_middle T.fd_middle ["row", "person"] (liftP F_middle) :=
  okP (k := 4) T.F_middle sc_middle <| fun cdv A outer s H E hr => by
    have tk := takes_of (X := cxOf (L2.CX P w) P w K mg base ["row", "person"] "middle" (defScope s_middle) T.f_middle cdv A outer s H E) (E := E) rfl rfl rfl rfl
    have po := passes_of (X := cxOf (L2.CX P w) P w K mg base ["row", "person"] "middle" (defScope s_middle) T.f_middle cdv A outer s H E) rfl
    exact ⟨_, (show BX (cxOf (L2.CX P w) P w K mg base ["row", "person"] "middle" (defScope s_middle) T.f_middle cdv A outer s H E) XC (fun c d _ H => E c d H) (defBody s_middle) _ (T_middle) from (b_cons (s_expr (d_call (ok_look_person T) (hr.mono (by decide)) T.g_look_person T.F_look_person.kp T.bd_look_person tk (a_cons (d_var 0) (a_cons (d_var 1) a_nil)))) (b_one (s_ret (d_call (ok_middle_of T) (hr.mono (by decide)) T.g_middle_of T.F_middle_of.kp T.bd_middle_of tk (a_cons (d_var 0) (a_cons (d_var 1) a_nil)))))))⟩
theorem ok__law_same (T : Cn P w K mg base XC HC) : ∀ n : Nat, OkD P w K mg base XC (4 + n) T.f__law_same T.fd__law_same ["got", "due"] (liftP (F__law_same n))
  | 0 => ⟨fun vs H Q E h => by
      obtain ⟨W, ds, μ, _, _, r, hl, _, _, hn⟩ := h
      exact absurd rfl hn, fun A outer s H args us vs Q E _ _ _ _ h => by
      obtain ⟨W, ds, μ, _, _, r, hl, _, _, hn⟩ := h
      exact absurd rfl hn⟩
  | n + 1 => okP (k := 4 + n) T.F__law_same sc__law_same <|
    have hF := ok__law_same T n
    fun cdv A outer s H E hr => by
    have tk := takes_of (X := cxOf (L2.CX P w) P w K mg base ["got", "due", "mine", "own"] "_law_same" (defScope s__law_same) T.f__law_same cdv A outer s H E) (E := E) rfl rfl rfl rfl
    have po := passes_of (X := cxOf (L2.CX P w) P w K mg base ["got", "due", "mine", "own"] "_law_same" (defScope s__law_same) T.f__law_same cdv A outer s H E) rfl
    exact ⟨_, (show BX (cxOf (L2.CX P w) P w K mg base ["got", "due", "mine", "own"] "_law_same" (defScope s__law_same) T.f__law_same cdv A outer s H E) XC (fun c d _ H => E c d H) (defBody s__law_same) _ (T__law_same (liftP (F__law_same n))) from (b_cons (s_if (t_val (d_isi2 isi_lst isi_tup T.b_isinstance T.b_list T.b_tuple (by decide +kernel) (by decide +kernel) (d_var 1))) (b_cons (s_if (t_w (w_or (t_cmp (op_neD hr.units) sim_ne (d_isi isi_lst T.b_isinstance T.b_list (by decide +kernel) (d_var 0)) (d_isi isi_lst T.b_isinstance T.b_list (by decide +kernel) (d_var 1))) (w_or1 (t_cmp (op_neD hr.units) sim_ne (d_isi isi_tup T.b_isinstance T.b_tuple (by decide +kernel) (d_var 0)) (d_isi isi_tup T.b_isinstance T.b_tuple (by decide +kernel) (d_var 1)))))) (b_one (s_ret d_bl)) b_nil) (b_one (s_ret (d_and (d_cmp (op_eqD hr.units) sim_eq (d_cb call_len sim_len T.b_len PySem.boot_len (a_cons (d_var 0) a_nil)) (d_cb call_len sim_len T.b_len PySem.boot_len (a_cons (d_var 1) a_nil))) (d_one (d_cb (cr_all rfl) sim_all T.b_all (by decide +kernel) (a_cons (d_lc (own := [ ("mine" , 2) , ("own" , 3) ]) rfl sc__law_same.nd (i_zp T.b_zip (a_cons (d_var 0) (a_cons (d_var 1) a_nil))) (blkOk_by (own := [ ("mine" , 2) , ("own" , 3) ]) (N := [ "got" , "due" , "mine" , "own" ]) (sc := defScope s__law_same) (by decide +kernel)) (fun _ _ _ _ _ => (g_tup (n := 2) rfl (gs_cons (g_name 2 sc__law_same.nd) (gs_cons (g_name 3 sc__law_same.nd) gs_nil)))) (fun _ _ _ _ _ => ts_nil) (fun _ _ _ _ _ => (d_call hF hr T.g__law_same T.F__law_same.kp T.bd__law_same takes0 (a_cons (d_var 2) (a_cons (d_var 3) a_nil))))) a_nil))))))) b_nil) (b_cons (s_if (t_w (w_or (t_cmp op_isN sim_isN (d_var 1) d_non) (w_or1 (t_val (d_isi2 isi_bool isi_str T.b_isinstance T.b_bool T.b_str (by decide +kernel) (by decide +kernel) (d_var 1)))))) (b_one (s_ret (d_and (d_cmp (op_eqD hr.units) sim_eq (d_isi isi_str T.b_isinstance T.b_str (by decide +kernel) (d_var 0)) (d_isi isi_str T.b_isinstance T.b_str (by decide +kernel) (d_var 1))) (d_and (d_cmp (op_eqD hr.units) sim_eq (d_isi isi_bool T.b_isinstance T.b_bool (by decide +kernel) (d_var 0)) (d_isi isi_bool T.b_isinstance T.b_bool (by decide +kernel) (d_var 1))) (d_and (d_cmp (op_eqD hr.units) sim_eq (d_cmp op_isN sim_isN (d_var 0) d_non) (d_cmp op_isN sim_isN (d_var 1) d_non)) (d_one (d_cmp (op_eqD hr.units) sim_eq (d_var 0) (d_var 1)))))))) b_nil) (b_one (s_ret (d_and (d_isi isi_int T.b_isinstance T.b_int (by decide +kernel) (d_var 0)) (d_and (d_not (d_isi isi_bool T.b_isinstance T.b_bool (by decide +kernel) (d_var 0))) (d_one (d_cmp (op_eqD hr.units) sim_eq (d_var 0) (d_var 1))))))))))⟩
theorem ok_inner (T : Cn P w K mg base XC HC) : OkD P w K mg base XC 4 T.f_inner T.fd_inner ["row"] (liftP F_inner) :=
  okP (k := 3) T.F_inner sc_inner <| fun cdv A outer s H E hr => by
    have tk := takes_of (X := cxOf (L2.CX P w) P w K mg base ["row"] "inner" (defScope s_inner) T.f_inner cdv A outer s H E) (E := E) rfl rfl rfl rfl
    have po := passes_of (X := cxOf (L2.CX P w) P w K mg base ["row"] "inner" (defScope s_inner) T.f_inner cdv A outer s H E) rfl
    exact ⟨_, (show BX (cxOf (L2.CX P w) P w K mg base ["row"] "inner" (defScope s_inner) T.f_inner cdv A outer s H E) XC (fun c d _ H => E c d H) (defBody s_inner) _ (T_inner) from (b_one (s_ret (d_lstRg T.b_list (r_2 T.b_range d_int (d_op op_sub sim_sub (d_cb call_len sim_len T.b_len PySem.boot_len (a_cons (d_var 0) a_nil)) d_int))))))⟩
theorem ok_tops (T : Cn P w K mg base XC HC) : OkD P w K mg base XC 5 T.f_tops T.fd_tops ["row"] (liftP F_tops) :=
  okP (k := 4) T.F_tops sc_tops <| fun cdv A outer s H E hr => by
    have tk := takes_of (X := cxOf (L2.CX P w) P w K mg base ["row", "person"] "tops" (defScope s_tops) T.f_tops cdv A outer s H E) (E := E) rfl rfl rfl rfl
    have po := passes_of (X := cxOf (L2.CX P w) P w K mg base ["row", "person"] "tops" (defScope s_tops) T.f_tops cdv A outer s H E) rfl
    exact ⟨_, (show BX (cxOf (L2.CX P w) P w K mg base ["row", "person"] "tops" (defScope s_tops) T.f_tops cdv A outer s H E) XC (fun c d _ H => E c d H) (defBody s_tops) _ (T_tops) from (b_one (s_ret (d_lc (own := [ ("person" , 1) ]) rfl sc_tops.nd (i_seq (d_call (ok_inner T) (hr.mono (by decide)) T.g_inner T.F_inner.kp T.bd_inner tk (a_cons (d_var 0) a_nil))) (blkOk_by (own := [ ("person" , 1) ]) (N := [ "row" , "person" ]) (sc := defScope s_tops) (by decide +kernel)) (fun _ _ _ _ _ => (g_name 1 sc_tops.nd)) (fun _ _ _ _ _ => (ts_one (t_chain op_lt sim_lt op_gt sim_gt (d_ix (d_var 0) (d_op op_sub sim_sub (d_var 1) d_int)) (d_ix (d_var 0) (d_var 1)) (d_ix (d_var 0) (d_op op_addA sim_add (d_var 1) d_int))))) (fun _ _ _ _ _ => (d_var 1))))))⟩
theorem ok_dips (T : Cn P w K mg base XC HC) : OkD P w K mg base XC 5 T.f_dips T.fd_dips ["row"] (liftP F_dips) :=
  okP (k := 4) T.F_dips sc_dips <| fun cdv A outer s H E hr => by
    have tk := takes_of (X := cxOf (L2.CX P w) P w K mg base ["row", "person"] "dips" (defScope s_dips) T.f_dips cdv A outer s H E) (E := E) rfl rfl rfl rfl
    have po := passes_of (X := cxOf (L2.CX P w) P w K mg base ["row", "person"] "dips" (defScope s_dips) T.f_dips cdv A outer s H E) rfl
    exact ⟨_, (show BX (cxOf (L2.CX P w) P w K mg base ["row", "person"] "dips" (defScope s_dips) T.f_dips cdv A outer s H E) XC (fun c d _ H => E c d H) (defBody s_dips) _ (T_dips) from (b_one (s_ret (d_lc (own := [ ("person" , 1) ]) rfl sc_dips.nd (i_seq (d_call (ok_inner T) (hr.mono (by decide)) T.g_inner T.F_inner.kp T.bd_inner tk (a_cons (d_var 0) a_nil))) (blkOk_by (own := [ ("person" , 1) ]) (N := [ "row" , "person" ]) (sc := defScope s_dips) (by decide +kernel)) (fun _ _ _ _ _ => (g_name 1 sc_dips.nd)) (fun _ _ _ _ _ => (ts_one (t_chain op_gt sim_gt op_lt sim_lt (d_ix (d_var 0) (d_op op_sub sim_sub (d_var 1) d_int)) (d_ix (d_var 0) (d_var 1)) (d_ix (d_var 0) (d_op op_addA sim_add (d_var 1) d_int))))) (fun _ _ _ _ _ => (d_var 1))))))⟩
theorem ok_look_many (T : Cn P w K mg base XC HC) : OkD P w K mg base XC 4 T.f_look_many T.fd_look_many ["one", "other"] (liftP F_look_many) :=
  okP (k := 3) T.F_look_many sc_look_many <| fun cdv A outer s H E hr => by
    have tk := takes_of (X := cxOf (L2.CX P w) P w K mg base ["one", "other"] "look_many" (defScope s_look_many) T.f_look_many cdv A outer s H E) (E := E) rfl rfl rfl rfl
    have po := passes_of (X := cxOf (L2.CX P w) P w K mg base ["one", "other"] "look_many" (defScope s_look_many) T.f_look_many cdv A outer s H E) rfl
    exact ⟨_, (show BX (cxOf (L2.CX P w) P w K mg base ["one", "other"] "look_many" (defScope s_look_many) T.f_look_many cdv A outer s H E) XC (fun c d _ H => E c d H) (defBody s_look_many) _ (T_look_many) from (b_one (s_if (t_cmp (op_neD hr.units) sim_ne (d_cb call_len sim_len T.b_len PySem.boot_len (a_cons (d_var 0) a_nil)) (d_cb call_len sim_len T.b_len PySem.boot_len (a_cons (d_var 1) a_nil))) (b_one (s_raise 4 T.x_OtherPeople (hr.mono (by decide)) tk (d_cb call_len sim_len T.b_len PySem.boot_len (a_cons (d_var 1) a_nil)))) b_nil)))⟩
theorem ok_wrong_orders (T : Cn P w K mg base XC HC) : OkD P w K mg base XC 4 T.f_wrong_orders T.fd_wrong_orders ["one", "other"] (liftP F_wrong_orders) :=
  okP (k := 3) T.F_wrong_orders sc_wrong_orders <| fun cdv A outer s H E hr => by
    have tk := takes_of (X := cxOf (L2.CX P w) P w K mg base ["one", "other", "found", "person", "mine", "its"] "wrong_orders" (defScope s_wrong_orders) T.f_wrong_orders cdv A outer s H E) (E := E) rfl rfl rfl rfl
    have po := passes_of (X := cxOf (L2.CX P w) P w K mg base ["one", "other", "found", "person", "mine", "its"] "wrong_orders" (defScope s_wrong_orders) T.f_wrong_orders cdv A outer s H E) rfl
    exact ⟨_, (show BX (cxOf (L2.CX P w) P w K mg base ["one", "other", "found", "person", "mine", "its"] "wrong_orders" (defScope s_wrong_orders) T.f_wrong_orders cdv A outer s H E) XC (fun c d _ H => E c d H) (defBody s_wrong_orders) _ (T_wrong_orders) from (b_cons (s_set 2 sc_wrong_orders.nd (d_lstC a_nil)) (b_cons (s_for po rfl (i_rg1 T.b_range (a_cons (d_op op_sub sim_sub (d_cb call_len sim_len T.b_len PySem.boot_len (a_cons (d_var 0) a_nil)) d_int) a_nil)) (g_name 3 sc_wrong_orders.nd) (b_cons (s_par (i := 4) (j := 5) sc_wrong_orders.nd (a_cons (d_op op_sub sim_sub (d_ix (d_var 0) (d_op op_addA sim_add (d_var 3) d_int)) (d_ix (d_var 0) (d_var 3))) (a_cons (d_op op_sub sim_sub (d_ix (d_var 1) (d_op op_addA sim_add (d_var 3) d_int)) (d_ix (d_var 1) (d_var 3))) a_nil))) (b_one (s_if (t_w (w_or (t_chain op_lt sim_lt op_lt sim_lt (d_var 4) d_int (d_var 5)) (w_or (t_chain op_gt sim_gt op_gt sim_gt (d_var 4) d_int (d_var 5)) (w_or1 (t_chain (op_eqD hr.units) sim_eq (op_neD hr.units) sim_ne (d_var 4) d_int (d_var 5)))))) (b_one (s_expr (d_app (d_var 2) (d_var 3)))) b_nil)))) (b_frz 2 (b_one (s_ret (d_var 2)))))))⟩
theorem ok_wrong_changes (T : Cn P w K mg base XC HC) : OkD P w K mg base XC 6 T.f_wrong_changes T.fd_wrong_changes ["one", "other"] (liftP F_wrong_changes) :=
  okP (k := 5) T.F_wrong_changes sc_wrong_changes <| fun cdv A outer s H E hr => by
    have tk := takes_of (X := cxOf (L2.CX P w) P w K mg base ["one", "other", "high", "low", "found", "person", "mine", "its"] "wrong_changes" (defScope s_wrong_changes) T.f_wrong_changes cdv A outer s H E) (E := E) rfl rfl rfl rfl
    have po := passes_of (X := cxOf (L2.CX P w) P w K mg base ["one", "other", "high", "low", "found", "person", "mine", "its"] "wrong_changes" (defScope s_wrong_changes) T.f_wrong_changes cdv A outer s H E) rfl
    exact ⟨_, (show BX (cxOf (L2.CX P w) P w K mg base ["one", "other", "high", "low", "found", "person", "mine", "its"] "wrong_changes" (defScope s_wrong_changes) T.f_wrong_changes cdv A outer s H E) XC (fun c d _ H => E c d H) (defBody s_wrong_changes) _ (T_wrong_changes) from (b_cons (s_par3 (i := 2) (j := 3) (l := 4) sc_wrong_changes.nd (a_cons (d_call (ok_tops T) (hr.mono (by decide)) T.g_tops_rows T.F_tops.kp T.bd_tops tk (a_cons (d_var 0) a_nil)) (a_cons (d_call (ok_dips T) (hr.mono (by decide)) T.g_dips_rows T.F_dips.kp T.bd_dips tk (a_cons (d_var 0) a_nil)) (a_cons (d_lstC a_nil) a_nil)))) (b_cons (s_for po rfl (i_ez T.b_enumerate T.b_zip (a_cons (d_var 0) (a_cons (d_var 1) a_nil))) (g_tup (n := 2) rfl (gs_cons (g_name 5 sc_wrong_changes.nd) (gs_cons (g_tup (n := 2) rfl (gs_cons (g_name 6 sc_wrong_changes.nd) (gs_cons (g_name 7 sc_wrong_changes.nd) gs_nil))) gs_nil))) (b_one (s_if (t_not (t_w (w_or (t_cmp (op_eqD hr.units) sim_eq (d_var 6) (d_var 7)) (w_or (t_w (w_and (t_cmp op_in_seq sim_in (d_var 5) (d_var 2)) (w_and1 (t_cmp op_lt sim_lt (d_var 7) (d_var 6))))) (w_or1 (t_w (w_and (t_cmp op_in_seq sim_in (d_var 5) (d_var 3)) (w_and1 (t_cmp op_gt sim_gt (d_var 7) (d_var 6)))))))))) (b_one (s_expr (d_app (d_var 4) (d_var 5)))) b_nil))) (b_frz 4 (b_one (s_ret (d_var 4)))))))⟩
theorem ok_runs (T : Cn P w K mg base XC HC) : OkD P w K mg base XC 4 T.f_runs T.fd_runs ["row"] (liftP F_runs) :=
  okP (k := 3) T.F_runs sc_runs <| fun cdv A outer s H E hr => by
    have tk := takes_of (X := cxOf (L2.CX P w) P w K mg base ["row", "begins", "person", "first", "last"] "runs" (defScope s_runs) T.f_runs cdv A outer s H E) (E := E) rfl rfl rfl rfl
    have po := passes_of (X := cxOf (L2.CX P w) P w K mg base ["row", "begins", "person", "first", "last"] "runs" (defScope s_runs) T.f_runs cdv A outer s H E) rfl
    exact ⟨_, (show BX (cxOf (L2.CX P w) P w K mg base ["row", "begins", "person", "first", "last"] "runs" (defScope s_runs) T.f_runs cdv A outer s H E) XC (fun c d _ H => E c d H) (defBody s_runs) _ (T_runs) from (b_cons (s_setLc (i := 1) (own := [ ("person" , 2) ]) rfl sc_runs.nd rfl rfl (sw_true rfl rfl rfl (by decide +kernel)) (i_rg1 T.b_range (a_cons (d_cb call_len sim_len T.b_len PySem.boot_len (a_cons (d_var 0) a_nil)) a_nil)) (blkOk_by (own := [ ("person" , 2) ]) (N := [ "row" , "begins" , "person" , "first" , "last" ]) (sc := defScope s_runs) (by decide +kernel)) (fun _ _ _ _ _ => (g_name 2 sc_runs.nd)) (fun _ _ _ _ _ => (ts_one (t_w (w_or (t_cmp (op_eqD hr.units) sim_eq (d_var 2) d_int) (w_or1 (t_cmp (op_neD hr.units) sim_ne (d_ix (d_var 0) (d_var 2)) (d_ix (d_var 0) (d_op op_sub sim_sub (d_var 2) d_int)))))))) (fun _ _ _ _ _ => (d_var 2))) (b_one (s_ret (d_lc (own := [ ("first" , 3) , ("last" , 4) ]) rfl sc_runs.nd (i_zp T.b_zip (a_cons (d_var 1) (a_cons (d_op op_addA sim_add (d_sl (d_var 1) (o_some d_int) o_none) (d_lst (a_cons (d_cb call_len sim_len T.b_len PySem.boot_len (a_cons (d_var 0) a_nil)) a_nil))) a_nil))) (blkOk_by (own := [ ("first" , 3) , ("last" , 4) ]) (N := [ "row" , "begins" , "person" , "first" , "last" ]) (sc := defScope s_runs) (by decide +kernel)) (fun _ _ _ _ _ => (g_tup (n := 2) rfl (gs_cons (g_name 3 sc_runs.nd) (gs_cons (g_name 4 sc_runs.nd) gs_nil)))) (fun _ _ _ _ _ => ts_nil) (fun _ _ _ _ _ => (d_tup (a_cons (d_var 3) (a_cons (d_op op_sub sim_sub (d_var 4) d_int) a_nil)))))))))⟩
theorem ok_stayed (T : Cn P w K mg base XC HC) : OkD P w K mg base XC 4 T.f_stayed T.fd_stayed ["one", "other", "first", "last"] (liftP F_stayed) :=
  okP (k := 3) T.F_stayed sc_stayed <| fun cdv A outer s H E hr => by
    have tk := takes_of (X := cxOf (L2.CX P w) P w K mg base ["one", "other", "first", "last", "person"] "stayed" (defScope s_stayed) T.f_stayed cdv A outer s H E) (E := E) rfl rfl rfl rfl
    have po := passes_of (X := cxOf (L2.CX P w) P w K mg base ["one", "other", "first", "last", "person"] "stayed" (defScope s_stayed) T.f_stayed cdv A outer s H E) rfl
    exact ⟨_, (show BX (cxOf (L2.CX P w) P w K mg base ["one", "other", "first", "last", "person"] "stayed" (defScope s_stayed) T.f_stayed cdv A outer s H E) XC (fun c d _ H => E c d H) (defBody s_stayed) _ (T_stayed) from (b_one (s_ret (d_lc (own := [ ("person" , 4) ]) rfl sc_stayed.nd (i_rg2 T.b_range (a_cons (d_var 2) (a_cons (d_op op_addA sim_add (d_var 3) d_int) a_nil))) (blkOk_by (own := [ ("person" , 4) ]) (N := [ "one" , "other" , "first" , "last" , "person" ]) (sc := defScope s_stayed) (by decide +kernel)) (fun _ _ _ _ _ => (g_name 4 sc_stayed.nd)) (fun _ _ _ _ _ => (ts_one (t_cmp (op_eqD hr.units) sim_eq (d_ix (d_var 0) (d_var 4)) (d_ix (d_var 1) (d_var 4))))) (fun _ _ _ _ _ => (d_var 4))))))⟩
theorem ok_wrong_runs (T : Cn P w K mg base XC HC) : OkD P w K mg base XC 5 T.f_wrong_runs T.fd_wrong_runs ["one", "other"] (liftP F_wrong_runs) :=
  okP (k := 4) T.F_wrong_runs sc_wrong_runs <| fun cdv A outer s H E hr => by
    have tk := takes_of (X := cxOf (L2.CX P w) P w K mg base ["one", "other", "first", "last"] "wrong_runs" (defScope s_wrong_runs) T.f_wrong_runs cdv A outer s H E) (E := E) rfl rfl rfl rfl
    have po := passes_of (X := cxOf (L2.CX P w) P w K mg base ["one", "other", "first", "last"] "wrong_runs" (defScope s_wrong_runs) T.f_wrong_runs cdv A outer s H E) rfl
    exact ⟨_, (show BX (cxOf (L2.CX P w) P w K mg base ["one", "other", "first", "last"] "wrong_runs" (defScope s_wrong_runs) T.f_wrong_runs cdv A outer s H E) XC (fun c d _ H => E c d H) (defBody s_wrong_runs) _ (T_wrong_runs) from (b_one (s_ret (d_lc (own := [ ("first" , 2) , ("last" , 3) ]) rfl sc_wrong_runs.nd (i_seq (d_call (ok_runs T) (hr.mono (by decide)) T.g_runs T.F_runs.kp T.bd_runs tk (a_cons (d_var 1) a_nil))) (blkOk_by (own := [ ("first" , 2) , ("last" , 3) ]) (N := [ "one" , "other" , "first" , "last" ]) (sc := defScope s_wrong_runs) (by decide +kernel)) (fun _ _ _ _ _ => (g_tup (n := 2) rfl (gs_cons (g_name 2 sc_wrong_runs.nd) (gs_cons (g_name 3 sc_wrong_runs.nd) gs_nil)))) (fun _ _ _ _ _ => (ts_one (t_cmp (op_eqD hr.units) sim_eq (d_cb call_len sim_len T.b_len PySem.boot_len (a_cons (d_call (ok_stayed T) (hr.mono (by decide)) T.g_stayed T.F_stayed.kp T.bd_stayed takes0 (a_cons (d_var 0) (a_cons (d_var 1) (a_cons (d_var 2) (a_cons (d_var 3) a_nil))))) a_nil)) d_int))) (fun _ _ _ _ _ => (d_var 2))))))⟩
theorem ok_bar (T : Cn P w K mg base XC HC) : OkD P w K mg base XC 7 T.f_bar T.fd_bar ["one", "other"] (liftP F_bar) :=
  okP (k := 6) T.F_bar sc_bar <| fun cdv A outer s H E hr => by
    have tk := takes_of (X := cxOf (L2.CX P w) P w K mg base ["one", "other", "word", "found"] "bar" (defScope s_bar) T.f_bar cdv A outer s H E) (E := E) rfl rfl rfl rfl
    have po := passes_of (X := cxOf (L2.CX P w) P w K mg base ["one", "other", "word", "found"] "bar" (defScope s_bar) T.f_bar cdv A outer s H E) rfl
    exact ⟨_, (show BX (cxOf (L2.CX P w) P w K mg base ["one", "other", "word", "found"] "bar" (defScope s_bar) T.f_bar cdv A outer s H E) XC (fun c d _ H => E c d H) (defBody s_bar) _ (T_bar) from (b_cons (s_expr (d_call (ok_look_many T) (hr.mono (by decide)) T.g_look_many T.F_look_many.kp T.bd_look_many tk (a_cons (d_var 0) (a_cons (d_var 1) a_nil)))) (b_cons (s_for po rfl (i_seq (d_tup (a_cons (d_tup (a_cons (d_gstrE T.g_CHANGE) (a_cons (d_call (ok_wrong_changes T) (hr.mono (by decide)) T.g_wrong_changes T.F_wrong_changes.kp T.bd_wrong_changes tk (a_cons (d_var 0) (a_cons (d_var 1) a_nil))) a_nil))) (a_cons (d_tup (a_cons (d_gstrE T.g_ORDER) (a_cons (d_call (ok_wrong_orders T) (hr.mono (by decide)) T.g_wrong_orders T.F_wrong_orders.kp T.bd_wrong_orders tk (a_cons (d_var 0) (a_cons (d_var 1) a_nil))) a_nil))) a_nil)))) (g_tup (n := 2) rfl (gs_cons (g_name 2 sc_bar.nd) (gs_cons (g_name 3 sc_bar.nd) gs_nil))) (b_one (s_if (t_cmp op_gt sim_gt (d_cb call_len sim_len T.b_len PySem.boot_len (a_cons (d_var 3) a_nil)) d_int) (b_one (s_ret (d_tup (a_cons (d_var 2) (a_cons (d_ix (d_var 3) d_int) a_nil))))) b_nil))) (b_cons (s_set 3 sc_bar.nd (d_call (ok_wrong_runs T) (hr.mono (by decide)) T.g_wrong_runs T.F_wrong_runs.kp T.bd_wrong_runs tk (a_cons (d_var 0) (a_cons (d_var 1) a_nil)))) (b_one (s_ret (d_ifExp (t_cmp op_gt sim_gt (d_cb call_len sim_len T.b_len PySem.boot_len (a_cons (d_var 3) a_nil)) d_int) (d_tup (a_cons (d_gstrE T.g_RUN) (a_cons (d_ix (d_var 3) d_int) a_nil))) d_non)))))))⟩
theorem ok_look_leads (T : Cn P w K mg base XC HC) : OkD P w K mg base XC 8 T.f_look_leads T.fd_look_leads ["one", "other"] (liftP F_look_leads) :=
  okP (k := 7) T.F_look_leads sc_look_leads <| fun cdv A outer s H E hr => by
    have tk := takes_of (X := cxOf (L2.CX P w) P w K mg base ["one", "other", "reason"] "look_leads" (defScope s_look_leads) T.f_look_leads cdv A outer s H E) (E := E) rfl rfl rfl rfl
    have po := passes_of (X := cxOf (L2.CX P w) P w K mg base ["one", "other", "reason"] "look_leads" (defScope s_look_leads) T.f_look_leads cdv A outer s H E) rfl
    exact ⟨_, (show BX (cxOf (L2.CX P w) P w K mg base ["one", "other", "reason"] "look_leads" (defScope s_look_leads) T.f_look_leads cdv A outer s H E) XC (fun c d _ H => E c d H) (defBody s_look_leads) _ (T_look_leads) from (b_cons (s_set 2 sc_look_leads.nd (d_call (ok_bar T) (hr.mono (by decide)) T.g_bar T.F_bar.kp T.bd_bar tk (a_cons (d_var 0) (a_cons (d_var 1) a_nil)))) (b_one (s_if (t_cmp op_notN sim_notN (d_var 2) d_non) (b_one (s_raise 9 T.x_Barred (hr.mono (by decide)) tk (d_var 2))) b_nil))))⟩
theorem ok_changed (T : Cn P w K mg base XC HC) : OkD P w K mg base XC 9 T.f_changed T.fd_changed ["one", "other"] (liftP F_changed) :=
  okP (k := 8) T.F_changed sc_changed <| fun cdv A outer s H E hr => by
    have tk := takes_of (X := cxOf (L2.CX P w) P w K mg base ["one", "other", "person", "mine", "its"] "changed" (defScope s_changed) T.f_changed cdv A outer s H E) (E := E) rfl rfl rfl rfl
    have po := passes_of (X := cxOf (L2.CX P w) P w K mg base ["one", "other", "person", "mine", "its"] "changed" (defScope s_changed) T.f_changed cdv A outer s H E) rfl
    exact ⟨_, (show BX (cxOf (L2.CX P w) P w K mg base ["one", "other", "person", "mine", "its"] "changed" (defScope s_changed) T.f_changed cdv A outer s H E) XC (fun c d _ H => E c d H) (defBody s_changed) _ (T_changed) from (b_cons (s_expr (d_call (ok_look_leads T) (hr.mono (by decide)) T.g_look_leads T.F_look_leads.kp T.bd_look_leads tk (a_cons (d_var 0) (a_cons (d_var 1) a_nil)))) (b_one (s_ret (d_lc (own := [ ("person" , 2) , ("mine" , 3) , ("its" , 4) ]) rfl sc_changed.nd (i_ez T.b_enumerate T.b_zip (a_cons (d_var 0) (a_cons (d_var 1) a_nil))) (blkOk_by (own := [ ("person" , 2) , ("mine" , 3) , ("its" , 4) ]) (N := [ "one" , "other" , "person" , "mine" , "its" ]) (sc := defScope s_changed) (by decide +kernel)) (fun _ _ _ _ _ => (g_tup (n := 2) rfl (gs_cons (g_name 2 sc_changed.nd) (gs_cons (g_tup (n := 2) rfl (gs_cons (g_name 3 sc_changed.nd) (gs_cons (g_name 4 sc_changed.nd) gs_nil))) gs_nil)))) (fun _ _ _ _ _ => (ts_one (t_cmp (op_neD hr.units) sim_ne (d_var 3) (d_var 4)))) (fun _ _ _ _ _ => (d_var 2)))))))⟩
theorem ok_distance (T : Cn P w K mg base XC HC) : OkD P w K mg base XC 10 T.f_distance T.fd_distance ["one", "other"] (liftP F_distance) :=
  okP (k := 9) T.F_distance sc_distance <| fun cdv A outer s H E hr => by
    have tk := takes_of (X := cxOf (L2.CX P w) P w K mg base ["one", "other"] "distance" (defScope s_distance) T.f_distance cdv A outer s H E) (E := E) rfl rfl rfl rfl
    have po := passes_of (X := cxOf (L2.CX P w) P w K mg base ["one", "other"] "distance" (defScope s_distance) T.f_distance cdv A outer s H E) rfl
    exact ⟨_, (show BX (cxOf (L2.CX P w) P w K mg base ["one", "other"] "distance" (defScope s_distance) T.f_distance cdv A outer s H E) XC (fun c d _ H => E c d H) (defBody s_distance) _ (T_distance) from (b_one (s_ret (d_cb call_len sim_len T.b_len PySem.boot_len (a_cons (d_call (ok_changed T) (hr.mono (by decide)) T.g_changed T.F_changed.kp T.bd_changed tk (a_cons (d_var 0) (a_cons (d_var 1) a_nil))) a_nil)))))⟩
theorem ok_leads (T : Cn P w K mg base XC HC) : OkD P w K mg base XC 8 T.f_leads T.fd_leads ["one", "other"] (liftP F_leads) :=
  okP (k := 7) T.F_leads sc_leads <| fun cdv A outer s H E hr => by
    have tk := takes_of (X := cxOf (L2.CX P w) P w K mg base ["one", "other"] "leads" (defScope s_leads) T.f_leads cdv A outer s H E) (E := E) rfl rfl rfl rfl
    have po := passes_of (X := cxOf (L2.CX P w) P w K mg base ["one", "other"] "leads" (defScope s_leads) T.f_leads cdv A outer s H E) rfl
    exact ⟨_, (show BX (cxOf (L2.CX P w) P w K mg base ["one", "other"] "leads" (defScope s_leads) T.f_leads cdv A outer s H E) XC (fun c d _ H => E c d H) (defBody s_leads) _ (T_leads) from (b_one (s_ret (d_cmp op_isN sim_isN (d_call (ok_bar T) (hr.mono (by decide)) T.g_bar T.F_bar.kp T.bd_bar tk (a_cons (d_var 0) (a_cons (d_var 1) a_nil))) d_non))))⟩
theorem ok_run (T : Cn P w K mg base XC HC) : OkD P w K mg base XC 6 T.f_run T.fd_run ["row", "calls"] (liftP F_run) :=
  okP (k := 5) T.F_run sc_run <| fun cdv A outer s H E hr => by
    have tk := takes_of (X := cxOf (L2.CX P w) P w K mg base ["row", "calls", "found", "person"] "run" (defScope s_run) T.f_run cdv A outer s H E) (E := E) rfl rfl rfl rfl
    have po := passes_of (X := cxOf (L2.CX P w) P w K mg base ["row", "calls", "found", "person"] "run" (defScope s_run) T.f_run cdv A outer s H E) rfl
    exact ⟨_, (show BX (cxOf (L2.CX P w) P w K mg base ["row", "calls", "found", "person"] "run" (defScope s_run) T.f_run cdv A outer s H E) XC (fun c d _ H => E c d H) (defBody s_run) _ (T_run) from (b_cons (s_set 2 sc_run.nd (d_ct call_tuple_of sim_tuple T.b_tuple (by decide +kernel) (a_cons (d_var 0) a_nil))) (b_cons (s_for po rfl (i_seq (d_var 1)) (g_name 3 sc_run.nd) (b_one (s_set 2 sc_run.nd (d_call (ok_called T) (hr.mono (by decide)) T.g_called T.F_called.kp T.bd_called tk (a_cons (d_var 2) (a_cons (d_var 3) a_nil)))))) (b_one (s_ret (d_var 2))))))⟩
theorem ok_idle (T : Cn P w K mg base XC HC) : OkD P w K mg base XC 6 T.f_idle T.fd_idle ["row", "calls"] (liftP F_idle) :=
  okP (k := 5) T.F_idle sc_idle <| fun cdv A outer s H E hr => by
    have tk := takes_of (X := cxOf (L2.CX P w) P w K mg base ["row", "calls", "here", "found", "place", "person", "later"] "idle" (defScope s_idle) T.f_idle cdv A outer s H E) (E := E) rfl rfl rfl rfl
    have po := passes_of (X := cxOf (L2.CX P w) P w K mg base ["row", "calls", "here", "found", "place", "person", "later"] "idle" (defScope s_idle) T.f_idle cdv A outer s H E) rfl
    exact ⟨_, (show BX (cxOf (L2.CX P w) P w K mg base ["row", "calls", "here", "found", "place", "person", "later"] "idle" (defScope s_idle) T.f_idle cdv A outer s H E) XC (fun c d _ H => E c d H) (defBody s_idle) _ (T_idle) from (b_cons (s_par (i := 2) (j := 3) sc_idle.nd (a_cons (d_ct call_tuple_of sim_tuple T.b_tuple (by decide +kernel) (a_cons (d_var 0) a_nil)) (a_cons (d_lstC a_nil) a_nil))) (b_cons (s_for po rfl (i_en T.b_enumerate (d_var 1)) (g_tup (n := 2) rfl (gs_cons (g_name 4 sc_idle.nd) (gs_cons (g_name 5 sc_idle.nd) gs_nil))) (b_cons (s_set 6 sc_idle.nd (d_call (ok_called T) (hr.mono (by decide)) T.g_called T.F_called.kp T.bd_called tk (a_cons (d_var 2) (a_cons (d_var 5) a_nil)))) (b_cons (s_if (t_cmp (op_eqD hr.units) sim_eq (d_var 6) (d_var 2)) (b_one (s_expr (d_app (d_var 3) (d_var 4)))) b_nil) (b_one (s_set 2 sc_idle.nd (d_var 6)))))) (b_frz 3 (b_one (s_ret (d_var 3)))))))⟩
theorem ok_Hall_run (T : Cn P w K mg base XC HC) : OkD P w K mg base XC 7 T.f_Hall_run T.fd_Hall_run ["self", "calls"] (F_Hall_run HC) :=
  okC (k := 6) T.F_Hall_run sc_Hall_run <| fun cdv A outer s H E hr => by
    have tk := takes_of (X := cxOf (L2.CX P w) P w K mg base ["self", "calls", "before"] "Hall.run" (defScope s_Hall_run) T.f_Hall_run cdv A outer s H E) (E := E) rfl rfl rfl rfl
    have po := passes_of (X := cxOf (L2.CX P w) P w K mg base ["self", "calls", "before"] "Hall.run" (defScope s_Hall_run) T.f_Hall_run cdv A outer s H E) rfl
    exact ⟨_, (show BX (cxOf (L2.CX P w) P w K mg base ["self", "calls", "before"] "Hall.run" (defScope s_Hall_run) T.f_Hall_run cdv A outer s H E) XC (fun c d _ H => E c d H) (defBody s_Hall_run) _ (T_Hall_run HC) from (b_cons (s_set 2 sc_Hall_run.nd (d_meth0 T.c_Hall ⟨⟨_, _, T.mt_Hall_row, ok_Hall_row T, T.bd_Hall_row⟩⟩ (hr.mono (by decide)) tk (d_var 0))) (b_cons (s_expr (d_app (d_fld T.c_Hall T.na_own_rows (d_var 0)) (d_call (ok_run T) (hr.mono (by decide)) T.g_run_calling T.F_run.kp T.bd_run tk (a_cons (d_var 2) (a_cons (d_var 1) a_nil))))) (b_one (s_ret (d_op op_sub sim_sub (d_cb call_len sim_len T.b_len PySem.boot_len (a_cons (d_var 1) a_nil)) (d_cb call_len sim_len T.b_len PySem.boot_len (a_cons (d_call (ok_idle T) (hr.mono (by decide)) T.g_idle T.F_idle.kp T.bd_idle tk (a_cons (d_var 2) (a_cons (d_var 1) a_nil))) a_nil))))))))⟩
theorem ok_Hall_deeds (T : Cn P w K mg base XC HC) : OkD P w K mg base XC 4 T.f_Hall_deeds T.fd_Hall_deeds ["self"] (F_Hall_deeds HC) :=
  okC (k := 3) T.F_Hall_deeds sc_Hall_deeds <| fun cdv A outer s H E hr => by
    have tk := takes_of (X := cxOf (L2.CX P w) P w K mg base ["self"] "Hall.deeds" (defScope s_Hall_deeds) T.f_Hall_deeds cdv A outer s H E) (E := E) rfl rfl rfl rfl
    have po := passes_of (X := cxOf (L2.CX P w) P w K mg base ["self"] "Hall.deeds" (defScope s_Hall_deeds) T.f_Hall_deeds cdv A outer s H E) rfl
    exact ⟨_, (show BX (cxOf (L2.CX P w) P w K mg base ["self"] "Hall.deeds" (defScope s_Hall_deeds) T.f_Hall_deeds cdv A outer s H E) XC (fun c d _ H => E c d H) (defBody s_Hall_deeds) _ (T_Hall_deeds HC) from (b_one (s_ret (d_op op_sub sim_sub (d_cb call_len sim_len T.b_len PySem.boot_len (a_cons (d_fld T.c_Hall T.na_own_rows (d_var 0)) a_nil)) d_int))))⟩
theorem ok_Hall_dips (T : Cn P w K mg base XC HC) : OkD P w K mg base XC 6 T.f_Hall_dips T.fd_Hall_dips ["self"] (F_Hall_dips HC) :=
  okC (k := 5) T.F_Hall_dips sc_Hall_dips <| fun cdv A outer s H E hr => by
    have tk := takes_of (X := cxOf (L2.CX P w) P w K mg base ["self"] "Hall.dips" (defScope s_Hall_dips) T.f_Hall_dips cdv A outer s H E) (E := E) rfl rfl rfl rfl
    have po := passes_of (X := cxOf (L2.CX P w) P w K mg base ["self"] "Hall.dips" (defScope s_Hall_dips) T.f_Hall_dips cdv A outer s H E) rfl
    exact ⟨_, (show BX (cxOf (L2.CX P w) P w K mg base ["self"] "Hall.dips" (defScope s_Hall_dips) T.f_Hall_dips cdv A outer s H E) XC (fun c d _ H => E c d H) (defBody s_Hall_dips) _ (T_Hall_dips HC) from (b_one (s_ret (d_call (ok_dips T) (hr.mono (by decide)) T.g_dips_rows T.F_dips.kp T.bd_dips tk (a_cons (d_meth0 T.c_Hall ⟨⟨_, _, T.mt_Hall_row, ok_Hall_row T, T.bd_Hall_row⟩⟩ (hr.mono (by decide)) tk (d_var 0)) a_nil)))))⟩
theorem ok_Hall_tops (T : Cn P w K mg base XC HC) : OkD P w K mg base XC 6 T.f_Hall_tops T.fd_Hall_tops ["self"] (F_Hall_tops HC) :=
  okC (k := 5) T.F_Hall_tops sc_Hall_tops <| fun cdv A outer s H E hr => by
    have tk := takes_of (X := cxOf (L2.CX P w) P w K mg base ["self"] "Hall.tops" (defScope s_Hall_tops) T.f_Hall_tops cdv A outer s H E) (E := E) rfl rfl rfl rfl
    have po := passes_of (X := cxOf (L2.CX P w) P w K mg base ["self"] "Hall.tops" (defScope s_Hall_tops) T.f_Hall_tops cdv A outer s H E) rfl
    exact ⟨_, (show BX (cxOf (L2.CX P w) P w K mg base ["self"] "Hall.tops" (defScope s_Hall_tops) T.f_Hall_tops cdv A outer s H E) XC (fun c d _ H => E c d H) (defBody s_Hall_tops) _ (T_Hall_tops HC) from (b_one (s_ret (d_call (ok_tops T) (hr.mono (by decide)) T.g_tops_rows T.F_tops.kp T.bd_tops tk (a_cons (d_meth0 T.c_Hall ⟨⟨_, _, T.mt_Hall_row, ok_Hall_row T, T.bd_Hall_row⟩⟩ (hr.mono (by decide)) tk (d_var 0)) a_nil)))))⟩
theorem ok_at_rest (T : Cn P w K mg base XC HC) : OkD P w K mg base XC 6 T.f_at_rest T.fd_at_rest ["row"] (liftP F_at_rest) :=
  okP (k := 5) T.F_at_rest sc_at_rest <| fun cdv A outer s H E hr => by
    have tk := takes_of (X := cxOf (L2.CX P w) P w K mg base ["row"] "at_rest" (defScope s_at_rest) T.f_at_rest cdv A outer s H E) (E := E) rfl rfl rfl rfl
    have po := passes_of (X := cxOf (L2.CX P w) P w K mg base ["row"] "at_rest" (defScope s_at_rest) T.f_at_rest cdv A outer s H E) rfl
    exact ⟨_, (show BX (cxOf (L2.CX P w) P w K mg base ["row"] "at_rest" (defScope s_at_rest) T.f_at_rest cdv A outer s H E) XC (fun c d _ H => E c d H) (defBody s_at_rest) _ (T_at_rest) from (b_one (s_ret (d_cmp (op_eqD hr.units) sim_eq (d_op op_addA sim_add (d_cb call_len sim_len T.b_len PySem.boot_len (a_cons (d_call (ok_tops T) (hr.mono (by decide)) T.g_tops_rows T.F_tops.kp T.bd_tops tk (a_cons (d_var 0) a_nil)) a_nil)) (d_cb call_len sim_len T.b_len PySem.boot_len (a_cons (d_call (ok_dips T) (hr.mono (by decide)) T.g_dips_rows T.F_dips.kp T.bd_dips tk (a_cons (d_var 0) a_nil)) a_nil))) d_int))))⟩
theorem ok_open_parts (T : Cn P w K mg base XC HC) : OkD P w K mg base XC 5 T.f_open_parts T.fd_open_parts ["one", "other"] (liftP F_open_parts) :=
  okP (k := 4) T.F_open_parts sc_open_parts <| fun cdv A outer s H E hr => by
    have tk := takes_of (X := cxOf (L2.CX P w) P w K mg base ["one", "other", "found", "first", "last", "edges", "left", "right"] "open_parts" (defScope s_open_parts) T.f_open_parts cdv A outer s H E) (E := E) rfl rfl rfl rfl
    have po := passes_of (X := cxOf (L2.CX P w) P w K mg base ["one", "other", "found", "first", "last", "edges", "left", "right"] "open_parts" (defScope s_open_parts) T.f_open_parts cdv A outer s H E) rfl
    exact ⟨_, (show BX (cxOf (L2.CX P w) P w K mg base ["one", "other", "found", "first", "last", "edges", "left", "right"] "open_parts" (defScope s_open_parts) T.f_open_parts cdv A outer s H E) XC (fun c d _ H => E c d H) (defBody s_open_parts) _ (T_open_parts) from (b_cons (s_set 2 sc_open_parts.nd (d_lstC a_nil)) (b_cons (s_for po rfl (i_seq (d_call (ok_runs T) (hr.mono (by decide)) T.g_runs T.F_runs.kp T.bd_runs tk (a_cons (d_var 1) a_nil))) (g_tup (n := 2) rfl (gs_cons (g_name 3 sc_open_parts.nd) (gs_cons (g_name 4 sc_open_parts.nd) gs_nil))) (b_cons (s_set 5 sc_open_parts.nd (d_op op_addA sim_add (d_op op_addA sim_add (d_lst (a_cons (d_op op_sub sim_sub (d_var 3) d_int) a_nil)) (d_call (ok_stayed T) (hr.mono (by decide)) T.g_stayed T.F_stayed.kp T.bd_stayed tk (a_cons (d_var 0) (a_cons (d_var 1) (a_cons (d_var 3) (a_cons (d_var 4) a_nil)))))) (d_lst (a_cons (d_op op_addA sim_add (d_var 4) d_int) a_nil)))) (b_one (s_for po rfl (i_zp T.b_zip (a_cons (d_var 5) (a_cons (d_sl (d_var 5) (o_some d_int) o_none) a_nil))) (g_tup (n := 2) rfl (gs_cons (g_name 6 sc_open_parts.nd) (gs_cons (g_name 7 sc_open_parts.nd) gs_nil))) (b_one (s_if (t_cmp op_gt sim_gt (d_op op_sub sim_sub (d_var 7) (d_var 6)) d_int) (b_one (s_expr (d_app (d_var 2) (d_tup (a_cons (d_op op_addA sim_add (d_var 6) d_int) (a_cons (d_op op_sub sim_sub (d_var 7) d_int) (a_cons (d_cmp op_ge sim_ge (d_var 6) (d_var 3)) (a_cons (d_cmp op_le sim_le (d_var 7) (d_var 4)) a_nil)))))))) b_nil)))))) (b_frz 2 (b_one (s_ret (d_var 2)))))))⟩
theorem ok_parts (T : Cn P w K mg base XC HC) : OkD P w K mg base XC 9 T.f_parts T.fd_parts ["one", "other"] (liftP F_parts) :=
  okP (k := 8) T.F_parts sc_parts <| fun cdv A outer s H E hr => by
    have tk := takes_of (X := cxOf (L2.CX P w) P w K mg base ["one", "other", "first", "last", "left", "right"] "parts" (defScope s_parts) T.f_parts cdv A outer s H E) (E := E) rfl rfl rfl rfl
    have po := passes_of (X := cxOf (L2.CX P w) P w K mg base ["one", "other", "first", "last", "left", "right"] "parts" (defScope s_parts) T.f_parts cdv A outer s H E) rfl
    exact ⟨_, (show BX (cxOf (L2.CX P w) P w K mg base ["one", "other", "first", "last", "left", "right"] "parts" (defScope s_parts) T.f_parts cdv A outer s H E) XC (fun c d _ H => E c d H) (defBody s_parts) _ (T_parts) from (b_cons (s_expr (d_call (ok_look_leads T) (hr.mono (by decide)) T.g_look_leads T.F_look_leads.kp T.bd_look_leads tk (a_cons (d_var 0) (a_cons (d_var 1) a_nil)))) (b_one (s_ret (d_lc (own := [ ("first" , 2) , ("last" , 3) , ("left" , 4) , ("right" , 5) ]) rfl sc_parts.nd (i_seq (d_call (ok_open_parts T) (hr.mono (by decide)) T.g_open_parts T.F_open_parts.kp T.bd_open_parts tk (a_cons (d_var 0) (a_cons (d_var 1) a_nil)))) (blkOk_by (own := [ ("first" , 2) , ("last" , 3) , ("left" , 4) , ("right" , 5) ]) (N := [ "one" , "other" , "first" , "last" , "left" , "right" ]) (sc := defScope s_parts) (by decide +kernel)) (fun _ _ _ _ _ => (g_tup (n := 4) rfl (gs_cons (g_name 2 sc_parts.nd) (gs_cons (g_name 3 sc_parts.nd) (gs_cons (g_name 4 sc_parts.nd) (gs_cons (g_name 5 sc_parts.nd) gs_nil)))))) (fun _ _ _ _ _ => ts_nil) (fun _ _ _ _ _ => (d_tupRg T.b_tuple (r_2 T.b_range (d_var 2) (d_op op_addA sim_add (d_var 3) d_int)))))))))⟩
theorem ok__law_flat (T : Cn P w K mg base XC HC) : OkD P w K mg base XC 4 T.f__law_flat T.fd__law_flat ["rows"] (liftP F__law_flat) :=
  okP (k := 3) T.F__law_flat sc__law_flat <| fun cdv A outer s H E hr => by
    have tk := takes_of (X := cxOf (L2.CX P w) P w K mg base ["rows", "found", "own"] "_law_flat" (defScope s__law_flat) T.f__law_flat cdv A outer s H E) (E := E) rfl rfl rfl rfl
    have po := passes_of (X := cxOf (L2.CX P w) P w K mg base ["rows", "found", "own"] "_law_flat" (defScope s__law_flat) T.f__law_flat cdv A outer s H E) rfl
    exact ⟨_, (show BX (cxOf (L2.CX P w) P w K mg base ["rows", "found", "own"] "_law_flat" (defScope s__law_flat) T.f__law_flat cdv A outer s H E) XC (fun c d _ H => E c d H) (defBody s__law_flat) _ (T__law_flat) from (b_cons (s_set 1 sc__law_flat.nd (d_lst a_nil)) (b_cons (s_for po rfl (i_seq (d_var 0)) (g_name 2 sc__law_flat.nd) (b_one (s_set 1 sc__law_flat.nd (d_op op_addA sim_add (d_var 1) (d_ct call_list_of sim_list T.b_list (by decide +kernel) (a_cons (d_var 2) a_nil)))))) (b_one (s_ret (d_cb cr_sortedA sim_sortedA T.b_sorted (by decide +kernel) (a_cons (d_var 1) a_nil)))))))⟩
theorem ok_next_calls (T : Cn P w K mg base XC HC) : OkD P w K mg base XC 4 T.f_next_calls T.fd_next_calls ["some"] (liftP F_next_calls) :=
  okP (k := 3) T.F_next_calls sc_next_calls <| fun cdv A outer s H E hr => by
    have tk := takes_of (X := cxOf (L2.CX P w) P w K mg base ["some", "found", "first", "last", "left", "right"] "next_calls" (defScope s_next_calls) T.f_next_calls cdv A outer s H E) (E := E) rfl rfl rfl rfl
    have po := passes_of (X := cxOf (L2.CX P w) P w K mg base ["some", "found", "first", "last", "left", "right"] "next_calls" (defScope s_next_calls) T.f_next_calls cdv A outer s H E) rfl
    exact ⟨_, (show BX (cxOf (L2.CX P w) P w K mg base ["some", "found", "first", "last", "left", "right"] "next_calls" (defScope s_next_calls) T.f_next_calls cdv A outer s H E) XC (fun c d _ H => E c d H) (defBody s_next_calls) _ (T_next_calls) from (b_cons (s_setLc (i := 1) (own := [ ("first" , 2) , ("last" , 3) , ("left" , 4) , ("right" , 5) ]) rfl sc_next_calls.nd rfl rfl (sw_true rfl rfl rfl (by decide +kernel)) (i_seq (d_var 0)) (blkOk_by (own := [ ("first" , 2) , ("last" , 3) , ("left" , 4) , ("right" , 5) ]) (N := [ "some" , "found" , "first" , "last" , "left" , "right" ]) (sc := defScope s_next_calls) (by decide +kernel)) (fun _ _ _ _ _ => (g_tup (n := 4) rfl (gs_cons (g_name 2 sc_next_calls.nd) (gs_cons (g_name 3 sc_next_calls.nd) (gs_cons (g_name 4 sc_next_calls.nd) (gs_cons (g_name 5 sc_next_calls.nd) gs_nil)))))) (fun _ _ _ _ _ => (ts_one (t_val (d_var 4)))) (fun _ _ _ _ _ => (d_var 2))) (b_one (s_ret (d_sortSet T.b_sorted T.b_set (d_op op_addA sim_add (d_var 1) (d_lc (own := [ ("first" , 2) , ("last" , 3) , ("left" , 4) , ("right" , 5) ]) rfl sc_next_calls.nd (i_seq (d_var 0)) (blkOk_by (own := [ ("first" , 2) , ("last" , 3) , ("left" , 4) , ("right" , 5) ]) (N := [ "some" , "found" , "first" , "last" , "left" , "right" ]) (sc := defScope s_next_calls) (by decide +kernel)) (fun _ _ _ _ _ => (g_tup (n := 4) rfl (gs_cons (g_name 2 sc_next_calls.nd) (gs_cons (g_name 3 sc_next_calls.nd) (gs_cons (g_name 4 sc_next_calls.nd) (gs_cons (g_name 5 sc_next_calls.nd) gs_nil)))))) (fun _ _ _ _ _ => (ts_one (t_val (d_var 5)))) (fun _ _ _ _ _ => (d_var 3)))))))))⟩
theorem ok_firsts (T : Cn P w K mg base XC HC) : OkD P w K mg base XC 9 T.f_firsts T.fd_firsts ["one", "other"] (liftP F_firsts) :=
  okP (k := 8) T.F_firsts sc_firsts <| fun cdv A outer s H E hr => by
    have tk := takes_of (X := cxOf (L2.CX P w) P w K mg base ["one", "other"] "firsts" (defScope s_firsts) T.f_firsts cdv A outer s H E) (E := E) rfl rfl rfl rfl
    have po := passes_of (X := cxOf (L2.CX P w) P w K mg base ["one", "other"] "firsts" (defScope s_firsts) T.f_firsts cdv A outer s H E) rfl
    exact ⟨_, (show BX (cxOf (L2.CX P w) P w K mg base ["one", "other"] "firsts" (defScope s_firsts) T.f_firsts cdv A outer s H E) XC (fun c d _ H => E c d H) (defBody s_firsts) _ (T_firsts) from (b_cons (s_expr (d_call (ok_look_leads T) (hr.mono (by decide)) T.g_look_leads T.F_look_leads.kp T.bd_look_leads tk (a_cons (d_var 0) (a_cons (d_var 1) a_nil)))) (b_one (s_ret (d_call (ok_next_calls T) (hr.mono (by decide)) T.g_next_calls T.F_next_calls.kp T.bd_next_calls tk (a_cons (d_call (ok_open_parts T) (hr.mono (by decide)) T.g_open_parts T.F_open_parts.kp T.bd_open_parts tk (a_cons (d_var 0) (a_cons (d_var 1) a_nil))) a_nil))))))⟩
theorem ok__law_of (T : Cn P w K mg base XC HC) : OkD P w K mg base XC 5 T.f__law_of T.fd__law_of ["urn", "some"] (F__law_of) :=
  okC (k := 4) T.F__law_of sc__law_of <| fun cdv A outer s H E hr => by
    have tk := takes_of (X := cxOf (L2.CX P w) P w K mg base ["urn", "some"] "_law_of" (defScope s__law_of) T.f__law_of cdv A outer s H E) (E := E) rfl rfl rfl rfl
    have po := passes_of (X := cxOf (L2.CX P w) P w K mg base ["urn", "some"] "_law_of" (defScope s__law_of) T.f__law_of cdv A outer s H E) rfl
    exact ⟨_, (show BX (cxOf (L2.CX P w) P w K mg base ["urn", "some"] "_law_of" (defScope s__law_of) T.f__law_of cdv A outer s H E) XC (fun c d _ H => E c d H) (defBody s__law_of) _ (T__law_of) from (b_one (s_ret (d_ix (d_var 1) (d_call (ok__law_take T) (hr.mono (by decide)) T.g__law_take T.F__law_take.kp T.bd__law_take tk (a_cons (d_var 0) (a_cons (d_cb call_len sim_len T.b_len PySem.boot_len (a_cons (d_var 1) a_nil)) a_nil)))))))⟩
theorem ok__law_bar (T : Cn P w K mg base XC HC) : OkD P w K mg base XC 4 T.f__law_bar T.fd__law_bar ["one", "other"] (liftP F__law_bar) :=
  okP (k := 3) T.F__law_bar sc__law_bar <| fun cdv A outer s H E hr => by
    have tk := takes_of (X := cxOf (L2.CX P w) P w K mg base ["one", "other", "many", "person", "inner_v", "top", "dip", "near", "far", "first", "own"] "_law_bar" (defScope s__law_bar) T.f__law_bar cdv A outer s H E) (E := E) rfl rfl rfl rfl
    have po := passes_of (X := cxOf (L2.CX P w) P w K mg base ["one", "other", "many", "person", "inner_v", "top", "dip", "near", "far", "first", "own"] "_law_bar" (defScope s__law_bar) T.f__law_bar cdv A outer s H E) rfl
    exact ⟨_, (show BX (cxOf (L2.CX P w) P w K mg base ["one", "other", "many", "person", "inner_v", "top", "dip", "near", "far", "first", "own"] "_law_bar" (defScope s__law_bar) T.f__law_bar cdv A outer s H E) XC (fun c d _ H => E c d H) (defBody s__law_bar) _ (T__law_bar) from (b_cons (s_set 2 sc__law_bar.nd (d_cb call_len sim_len T.b_len PySem.boot_len (a_cons (d_var 0) a_nil))) (b_cons (s_for po rfl (i_rg1 T.b_range (a_cons (d_var 2) a_nil)) (g_name 3 sc__law_bar.nd) (b_cons (s_set 4 sc__law_bar.nd (d_chain op_lt sim_lt op_lt sim_lt d_int (d_var 3) (d_op op_sub sim_sub (d_var 2) d_int))) (b_cons (s_set 5 sc__law_bar.nd (d_and (d_var 4) (d_one (d_cmp op_gt sim_gt (d_ix (d_var 0) (d_var 3)) (d_cb (call_max2 rfl) sim_max2 T.b_max (by decide +kernel) (a_cons (d_ix (d_var 0) (d_op op_sub sim_sub (d_var 3) d_int)) (a_cons (d_ix (d_var 0) (d_op op_addA sim_add (d_var 3) d_int)) a_nil))))))) (b_cons (s_set 6 sc__law_bar.nd (d_and (d_var 4) (d_one (d_cmp op_lt sim_lt (d_ix (d_var 0) (d_var 3)) (d_cb (call_min2 rfl) sim_min2 T.b_min (by decide +kernel) (a_cons (d_ix (d_var 0) (d_op op_sub sim_sub (d_var 3) d_int)) (a_cons (d_ix (d_var 0) (d_op op_addA sim_add (d_var 3) d_int)) a_nil))))))) (b_one (s_if (t_w (w_and (t_cmp (op_neD hr.units) sim_ne (d_ix (d_var 0) (d_var 3)) (d_ix (d_var 1) (d_var 3))) (w_and (t_not (t_w (w_and (t_val (d_var 5)) (w_and1 (t_cmp op_lt sim_lt (d_ix (d_var 1) (d_var 3)) (d_ix (d_var 0) (d_var 3))))))) (w_and1 (t_not (t_w (w_and (t_val (d_var 6)) (w_and1 (t_cmp op_gt sim_gt (d_ix (d_var 1) (d_var 3)) (d_ix (d_var 0) (d_var 3))))))))))) (b_one (s_ret (d_tup (a_cons d_str (a_cons (d_var 3) a_nil))))) b_nil)))))) (b_cons (s_for po rfl (i_rg1 T.b_range (a_cons (d_op op_sub sim_sub (d_var 2) d_int) a_nil)) (g_name 3 sc__law_bar.nd) (b_cons (s_par (i := 7) (j := 8) sc__law_bar.nd (a_cons (d_op op_sub sim_sub (d_ix (d_var 0) (d_op op_addA sim_add (d_var 3) d_int)) (d_ix (d_var 0) (d_var 3))) (a_cons (d_op op_sub sim_sub (d_ix (d_var 1) (d_op op_addA sim_add (d_var 3) d_int)) (d_ix (d_var 1) (d_var 3))) a_nil))) (b_one (s_if (t_w (w_or (t_cmp op_lt sim_lt (d_op op_mulA sim_mulI (d_var 7) (d_var 8)) d_int) (w_or1 (t_w (w_and (t_cmp (op_eqD hr.units) sim_eq (d_var 7) d_int) (w_and1 (t_cmp (op_neD hr.units) sim_ne (d_var 8) d_int))))))) (b_one (s_ret (d_tup (a_cons d_str (a_cons (d_var 3) a_nil))))) b_nil)))) (b_cons (s_set 9 sc__law_bar.nd d_int) (b_cons (s_for po rfl (i_rg1 T.b_range (a_cons (d_var 2) a_nil)) (g_name 3 sc__law_bar.nd) (b_cons (s_if (t_w (w_and (t_cmp op_gt sim_gt (d_var 3) d_int) (w_and1 (t_cmp (op_neD hr.units) sim_ne (d_ix (d_var 1) (d_var 3)) (d_ix (d_var 1) (d_op op_sub sim_sub (d_var 3) d_int)))))) (b_one (s_set 9 sc__law_bar.nd (d_var 3))) b_nil) (b_one (s_if (t_w (w_and (t_w (w_or (t_cmp (op_eqD hr.units) sim_eq (d_var 3) (d_op op_sub sim_sub (d_var 2) d_int)) (w_or1 (t_cmp (op_neD hr.units) sim_ne (d_ix (d_var 1) (d_op op_addA sim_add (d_var 3) d_int)) (d_ix (d_var 1) (d_var 3)))))) (w_and1 (t_cmp (op_eqD hr.units) sim_eq (d_lc (own := [ ("own" , 10) ]) rfl sc__law_bar.nd (i_rg2 T.b_range (a_cons (d_var 9) (a_cons (d_op op_addA sim_add (d_var 3) d_int) a_nil))) (blkOk_by (own := [ ("own" , 10) ]) (N := [ "one" , "other" , "many" , "person" , "inner_v" , "top" , "dip" , "near" , "far" , "first" , "own" ]) (sc := defScope s__law_bar) (by decide +kernel)) (fun _ _ _ _ _ => (g_name 10 sc__law_bar.nd)) (fun _ _ _ _ _ => (ts_one (t_cmp (op_eqD hr.units) sim_eq (d_ix (d_var 0) (d_var 10)) (d_ix (d_var 1) (d_var 10))))) (fun _ _ _ _ _ => (d_var 10))) (d_lst a_nil))))) (b_one (s_ret (d_tup (a_cons d_str (a_cons (d_var 9) a_nil))))) b_nil)))) (b_one (s_ret d_non))))))))⟩
theorem ok_Hall_go (T : Cn P w K mg base XC HC) : OkD P w K mg base XC 11 T.f_Hall_go T.fd_Hall_go ["self", "goal"] (F_Hall_go HC) :=
  okC (k := 10) T.F_Hall_go sc_Hall_go <| fun cdv A outer s H E hr => by
    have tk := takes_of (X := cxOf (L2.CX P w) P w K mg base ["self", "goal", "far"] "Hall.go" (defScope s_Hall_go) T.f_Hall_go cdv A outer s H E) (E := E) rfl rfl rfl rfl
    have po := passes_of (X := cxOf (L2.CX P w) P w K mg base ["self", "goal", "far"] "Hall.go" (defScope s_Hall_go) T.f_Hall_go cdv A outer s H E) rfl
    exact ⟨_, (show BX (cxOf (L2.CX P w) P w K mg base ["self", "goal", "far"] "Hall.go" (defScope s_Hall_go) T.f_Hall_go cdv A outer s H E) XC (fun c d _ H => E c d H) (defBody s_Hall_go) _ (T_Hall_go HC) from (b_cons (s_set 2 sc_Hall_go.nd (d_call (ok_distance T) (hr.mono (by decide)) T.g_distance T.F_distance.kp T.bd_distance tk (a_cons (d_meth0 T.c_Hall ⟨⟨_, _, T.mt_Hall_row, ok_Hall_row T, T.bd_Hall_row⟩⟩ (hr.mono (by decide)) tk (d_var 0)) (a_cons (d_var 1) a_nil)))) (b_cons (s_expr (d_app (d_fld T.c_Hall T.na_own_rows (d_var 0)) (d_ct call_tuple_of sim_tuple T.b_tuple (by decide +kernel) (a_cons (d_var 1) a_nil)))) (b_one (s_ret (d_var 2))))))⟩
theorem ok__law_go (T : Cn P w K mg base XC HC) : OkD P w K mg base XC 12 T.f__law_go T.fd__law_go ["hall", "goal"] (F__law_go HC) :=
  okC (k := 11) T.F__law_go sc__law_go <| fun cdv A outer s H E hr => by
    have tk := takes_of (X := cxOf (L2.CX P w) P w K mg base ["hall", "goal", "told", "caught_so"] "_law_go" (defScope s__law_go) T.f__law_go cdv A outer s H E) (E := E) rfl rfl rfl rfl
    have po := passes_of (X := cxOf (L2.CX P w) P w K mg base ["hall", "goal", "told", "caught_so"] "_law_go" (defScope s__law_go) T.f__law_go cdv A outer s H E) rfl
    exact ⟨_, (show BX (cxOf (L2.CX P w) P w K mg base ["hall", "goal", "told", "caught_so"] "_law_go" (defScope s__law_go) T.f__law_go cdv A outer s H E) XC (fun c d _ H => E c d H) (defBody s__law_go) _ (T__law_go HC) from (b_cons (s_set 2 sc__law_go.nd d_non) (b_cons (s_try (c := 9) (i := 3) (j := 2) sc__law_go.nd T.gx_Barred T.xf_Barred T.xno_Barred T.xe_Barred tk (fun W pn xe tk po => (b_one (s_set 2 sc__law_go.nd (d_meth T.c_Hall ⟨⟨_, _, T.mt_Hall_go, ok_Hall_go T, T.bd_Hall_go⟩⟩ (hr.mono (by decide)) tk (d_var 0) (a_cons (d_var 1) a_nil)))))) (b_one (s_ret (d_var 2))))))⟩
theorem ok_Hall_undo (T : Cn P w K mg base XC HC) : OkD P w K mg base XC 5 T.f_Hall_undo T.fd_Hall_undo ["self"] (F_Hall_undo HC) :=
  okC (k := 4) T.F_Hall_undo sc_Hall_undo <| fun cdv A outer s H E hr => by
    have tk := takes_of (X := cxOf (L2.CX P w) P w K mg base ["self"] "Hall.undo" (defScope s_Hall_undo) T.f_Hall_undo cdv A outer s H E) (E := E) rfl rfl rfl rfl
    have po := passes_of (X := cxOf (L2.CX P w) P w K mg base ["self"] "Hall.undo" (defScope s_Hall_undo) T.f_Hall_undo cdv A outer s H E) rfl
    exact ⟨_, (show BX (cxOf (L2.CX P w) P w K mg base ["self"] "Hall.undo" (defScope s_Hall_undo) T.f_Hall_undo cdv A outer s H E) XC (fun c d _ H => E c d H) (defBody s_Hall_undo) _ (T_Hall_undo HC) from (b_cons (s_if (t_cmp (op_eqD hr.units) sim_eq (d_meth0 T.c_Hall ⟨⟨_, _, T.mt_Hall_deeds, ok_Hall_deeds T, T.bd_Hall_deeds⟩⟩ (hr.mono (by decide)) tk (d_var 0)) d_int) (b_one (s_ret d_bl)) b_nil) (b_cons (s_expr (d_pop (d_fld T.c_Hall T.na_own_rows (d_var 0)))) (b_one (s_ret d_bl)))))⟩
theorem ok_law (T : Cn P w K mg base XC HC) : OkD P w K mg base XC 13 T.f_law T.fd_law ["script"] (F_law HC) :=
  okC (k := 12) T.F_law sc_law <| fun cdv A outer s H E hr => by
    have tk := takes_of (X := cxOf (L2.CX P w) P w K mg base ["script", "urn", "row", "many", "given", "calls", "turn", "hall", "now", "still", "moved", "place", "person", "later", "got", "inner_v", "high", "low", "first", "last", "one", "other", "due", "goal", "reason", "host", "steps", "far"] "law" (defScope s_law) T.f_law cdv A outer s H E) (E := E) rfl rfl rfl rfl
    have po := passes_of (X := cxOf (L2.CX P w) P w K mg base ["script", "urn", "row", "many", "given", "calls", "turn", "hall", "now", "still", "moved", "place", "person", "later", "got", "inner_v", "high", "low", "first", "last", "one", "other", "due", "goal", "reason", "host", "steps", "far"] "law" (defScope s_law) T.f_law cdv A outer s H E) rfl
    exact ⟨_, (show BX (cxOf (L2.CX P w) P w K mg base ["script", "urn", "row", "many", "given", "calls", "turn", "hall", "now", "still", "moved", "place", "person", "later", "got", "inner_v", "high", "low", "first", "last", "one", "other", "due", "goal", "reason", "host", "steps", "far"] "law" (defScope s_law) T.f_law cdv A outer s H E) XC (fun c d _ H => E c d H) (defBody s_law) _ (T_law HC) from (b_cons (s_set 1 sc_law.nd (d_call (ok__law_box T) (hr.mono (by decide)) T.g__law_box T.F__law_box.kp T.bd__law_box tk (a_cons (d_call (ok__law_cells T) (hr.mono (by decide)) T.g__law_cells T.F__law_cells.kp T.bd__law_cells tk (a_cons (d_var 0) (a_cons d_int a_nil))) (a_cons d_int a_nil)))) (b_cons (s_set 2 sc_law.nd (d_call (ok__law_great T) (hr.mono (by decide)) T.g__law_great T.F__law_great.kp T.bd__law_great tk (a_cons (d_var 1) (a_cons d_int a_nil)))) (b_cons (s_asg (d_tup (a_cons (d_cb call_len sim_len T.b_len PySem.boot_len (a_cons (d_var 2) a_nil)) (a_cons (d_ifExp (t_cmp (op_eqD hr.units) sim_eq (d_call (ok__law_take T) (hr.mono (by decide)) T.g__law_take T.F__law_take.kp T.bd__law_take tk (a_cons (d_var 1) (a_cons d_int a_nil))) d_int) (d_call (ok__law_soft T 5) (hr.mono (by decide)) T.g__law_soft T.F__law_soft.kp T.bd__law_soft tk (a_cons (d_var 2) a_nil)) (d_var 2)) a_nil))) (g_tup (n := 2) rfl (gs_cons (g_name 3 sc_law.nd) (gs_cons (g_name 4 sc_law.nd) gs_nil)))) (b_cons (s_setLc (i := 5) (own := [ ("turn" , 6) ]) rfl sc_law.nd rfl rfl (sw_true rfl rfl rfl (by decide +kernel)) (i_rg1 T.b_range (a_cons (d_call (ok__law_take T) (hr.mono (by decide)) T.g__law_take T.F__law_take.kp T.bd__law_take tk (a_cons (d_var 1) (a_cons d_int a_nil))) a_nil)) (blkOk_by (own := [ ("turn" , 6) ]) (N := [ "script" , "urn" , "row" , "many" , "given" , "calls" , "turn" , "hall" , "now" , "still" , "moved" , "place" , "person" , "later" , "got" , "inner_v" , "high" , "low" , "first" , "last" , "one" , "other" , "due" , "goal" , "reason" , "host" , "steps" , "far" ]) (sc := defScope s_law) (by decide +kernel)) (fun _ _ _ _ _ => (g_name 6 sc_law.nd)) (fun _ _ _ _ _ => ts_nil) (fun _ _ _ _ _ => (d_call (ok__law_take T) (hr.mono (by decide)) T.g__law_take T.F__law_take.kp T.bd__law_take takes0 (a_cons (d_var 1) (a_cons (d_var 3) a_nil))))) (b_cons (s_asg (d_tup (a_cons (d_make T.mk_Hall (ok_Hall_init T) T.bd_Hall_init T.g_Hall (hr.mono (by decide)) (a_cons (d_var 4) a_nil)) (a_cons (d_var 2) (a_cons (d_lstC a_nil) (a_cons (d_lstC a_nil) a_nil))))) (g_tup (n := 4) rfl (gs_cons (g_name 7 sc_law.nd) (gs_cons (g_name 8 sc_law.nd) (gs_cons (g_name 9 sc_law.nd) (gs_cons (g_name 10 sc_law.nd) gs_nil)))))) (b_cons (s_for po rfl (i_en T.b_enumerate (d_var 5)) (g_tup (n := 2) rfl (gs_cons (g_name 11 sc_law.nd) (gs_cons (g_name 12 sc_law.nd) gs_nil))) (b_cons (s_set 13 sc_law.nd (d_call (ok__law_called T) (hr.mono (by decide)) T.g__law_called T.F__law_called.kp T.bd__law_called tk (a_cons (d_var 8) (a_cons (d_var 12) a_nil)))) (b_cons (s_if (t_not (t_val (d_call (ok__law_same T 5) (hr.mono (by decide)) T.g__law_same T.F__law_same.kp T.bd__law_same tk (a_cons (d_lst (a_cons (d_call (ok_middle T) (hr.mono (by decide)) T.g_middle T.F_middle.kp T.bd_middle tk (a_cons (d_var 8) (a_cons (d_var 12) a_nil))) (a_cons (d_call (ok_called T) (hr.mono (by decide)) T.g_called T.F_called.kp T.bd_called tk (a_cons (d_var 8) (a_cons (d_var 12) a_nil))) (a_cons (d_meth T.c_Hall ⟨⟨_, _, T.mt_Hall_call, ok_Hall_call T, T.bd_Hall_call⟩⟩ (hr.mono (by decide)) tk (d_var 7) (a_cons (d_var 12) a_nil)) (a_cons (d_meth0 T.c_Hall ⟨⟨_, _, T.mt_Hall_row, ok_Hall_row T, T.bd_Hall_row⟩⟩ (hr.mono (by decide)) tk (d_var 7)) a_nil))))) (a_cons (d_lst (a_cons (d_ix (d_var 13) (d_var 12)) (a_cons (d_var 13) (a_cons (d_ix (d_var 13) (d_var 12)) (a_cons (d_var 13) a_nil))))) a_nil))))) (b_one (s_ret d_bl)) b_nil) (b_cons (s_if (t_cmp (op_eqD hr.units) sim_eq (d_var 13) (d_var 8)) (b_one (s_expr (d_app (d_var 9) (d_var 11)))) (b_cons (s_if (t_w (w_or (t_cmp op_in_seq sim_in (d_var 12) (d_var 10)) (w_or1 (t_cmp op_notIn_seq sim_in (d_var 12) (d_op op_addA sim_add (d_call (ok_tops T) (hr.mono (by decide)) T.g_tops_rows T.F_tops.kp T.bd_tops tk (a_cons (d_var 2) a_nil)) (d_call (ok_dips T) (hr.mono (by decide)) T.g_dips_rows T.F_dips.kp T.bd_dips tk (a_cons (d_var 2) a_nil))))))) (b_one (s_ret d_bl)) b_nil) (b_one (s_expr (d_app (d_var 10) (d_var 12)))))) (b_cons (s_set 8 sc_law.nd (d_var 13)) (b_one (s_if (t_not (t_val (d_call (ok__law_same T 5) (hr.mono (by decide)) T.g__law_same T.F__law_same.kp T.bd__law_same tk (a_cons (d_lst (a_cons (d_call (ok_leads T) (hr.mono (by decide)) T.g_leads T.F_leads.kp T.bd_leads tk (a_cons (d_var 2) (a_cons (d_var 8) a_nil))) (a_cons (d_call (ok_distance T) (hr.mono (by decide)) T.g_distance T.F_distance.kp T.bd_distance tk (a_cons (d_var 4) (a_cons (d_var 8) a_nil))) (a_cons (d_call (ok_changed T) (hr.mono (by decide)) T.g_changed T.F_changed.kp T.bd_changed tk (a_cons (d_var 2) (a_cons (d_var 8) a_nil))) a_nil)))) (a_cons (d_lst (a_cons d_bl (a_cons (d_cb call_len sim_len T.b_len PySem.boot_len (a_cons (d_var 10) a_nil)) (a_cons (d_cb cr_sortedA sim_sortedA T.b_sorted (by decide +kernel) (a_cons (d_var 10) a_nil)) a_nil)))) a_nil))))) (b_one (s_ret d_bl)) b_nil))))))) (b_cons (s_set 14 sc_law.nd (d_lst (a_cons (d_call (ok_run T) (hr.mono (by decide)) T.g_run_calling T.F_run.kp T.bd_run tk (a_cons (d_var 2) (a_cons (d_var 5) a_nil))) (a_cons (d_call (ok_idle T) (hr.mono (by decide)) T.g_idle T.F_idle.kp T.bd_idle tk (a_cons (d_var 4) (a_cons (d_ct call_tuple_of sim_tuple T.b_tuple (by decide +kernel) (a_cons (d_var 5) a_nil)) a_nil))) (a_cons (d_call (ok_bar T) (hr.mono (by decide)) T.g_bar T.F_bar.kp T.bd_bar tk (a_cons (d_var 2) (a_cons (d_var 8) a_nil))) (a_cons (d_meth0 T.c_Hall ⟨⟨_, _, T.mt_Hall_deeds, ok_Hall_deeds T, T.bd_Hall_deeds⟩⟩ (hr.mono (by decide)) tk (d_var 7)) (a_cons (d_meth T.c_Hall ⟨⟨_, _, T.mt_Hall_run, ok_Hall_run T, T.bd_Hall_run⟩⟩ (hr.mono (by decide)) tk (d_make T.mk_Hall (ok_Hall_init T) T.bd_Hall_init T.g_Hall (hr.mono (by decide)) (a_cons (d_var 2) a_nil)) (a_cons (d_ct call_tuple_of sim_tuple T.b_tuple (by decide +kernel) (a_cons (d_var 5) a_nil)) a_nil)) a_nil))))))) (b_frz 9 (b_cons (s_if (t_not (t_val (d_call (ok__law_same T 5) (hr.mono (by decide)) T.g__law_same T.F__law_same.kp T.bd__law_same tk (a_cons (d_var 14) (a_cons (d_lst (a_cons (d_var 8) (a_cons (d_var 9) (a_cons d_non (a_cons (d_cb call_len sim_len T.b_len PySem.boot_len (a_cons (d_var 5) a_nil)) (a_cons (d_op op_sub sim_sub (d_cb call_len sim_len T.b_len PySem.boot_len (a_cons (d_var 5) a_nil)) (d_cb call_len sim_len T.b_len PySem.boot_len (a_cons (d_var 9) a_nil))) a_nil)))))) a_nil))))) (b_one (s_ret d_bl)) b_nil) (b_cons (s_setLc (i := 15) (own := [ ("person" , 12) ]) rfl sc_law.nd rfl rfl (sw_true rfl rfl rfl (by decide +kernel)) (i_rg2 T.b_range (a_cons d_int (a_cons (d_op op_sub sim_sub (d_var 3) d_int) a_nil))) (blkOk_by (own := [ ("person" , 12) ]) (N := [ "script" , "urn" , "row" , "many" , "given" , "calls" , "turn" , "hall" , "now" , "still" , "moved" , "place" , "person" , "later" , "got" , "inner_v" , "high" , "low" , "first" , "last" , "one" , "other" , "due" , "goal" , "reason" , "host" , "steps" , "far" ]) (sc := defScope s_law) (by decide +kernel)) (fun _ _ _ _ _ => (g_name 12 sc_law.nd)) (fun _ _ _ _ _ => ts_nil) (fun _ _ _ _ _ => (d_var 12))) (b_cons (s_setLc (i := 16) (own := [ ("person" , 12) ]) rfl sc_law.nd rfl rfl (sw_true rfl rfl rfl (by decide +kernel)) (i_seq (d_var 15)) (blkOk_by (own := [ ("person" , 12) ]) (N := [ "script" , "urn" , "row" , "many" , "given" , "calls" , "turn" , "hall" , "now" , "still" , "moved" , "place" , "person" , "later" , "got" , "inner_v" , "high" , "low" , "first" , "last" , "one" , "other" , "due" , "goal" , "reason" , "host" , "steps" , "far" ]) (sc := defScope s_law) (by decide +kernel)) (fun _ _ _ _ _ => (g_name 12 sc_law.nd)) (fun _ _ _ _ _ => (ts_one (t_cmp op_gt sim_gt (d_ix (d_var 8) (d_var 12)) (d_cb (call_max2 rfl) sim_max2 T.b_max (by decide +kernel) (a_cons (d_ix (d_var 8) (d_op op_sub sim_sub (d_var 12) d_int)) (a_cons (d_ix (d_var 8) (d_op op_addA sim_add (d_var 12) d_int)) a_nil)))))) (fun _ _ _ _ _ => (d_var 12))) (b_cons (s_setLc (i := 17) (own := [ ("person" , 12) ]) rfl sc_law.nd rfl rfl (sw_true rfl rfl rfl (by decide +kernel)) (i_seq (d_var 15)) (blkOk_by (own := [ ("person" , 12) ]) (N := [ "script" , "urn" , "row" , "many" , "given" , "calls" , "turn" , "hall" , "now" , "still" , "moved" , "place" , "person" , "later" , "got" , "inner_v" , "high" , "low" , "first" , "last" , "one" , "other" , "due" , "goal" , "reason" , "host" , "steps" , "far" ]) (sc := defScope s_law) (by decide +kernel)) (fun _ _ _ _ _ => (g_name 12 sc_law.nd)) (fun _ _ _ _ _ => (ts_one (t_cmp op_lt sim_lt (d_ix (d_var 8) (d_var 12)) (d_cb (call_min2 rfl) sim_min2 T.b_min (by decide +kernel) (a_cons (d_ix (d_var 8) (d_op op_sub sim_sub (d_var 12) d_int)) (a_cons (d_ix (d_var 8) (d_op op_addA sim_add (d_var 12) d_int)) a_nil)))))) (fun _ _ _ _ _ => (d_var 12))) (b_cons (s_if (t_not (t_val (d_call (ok__law_same T 5) (hr.mono (by decide)) T.g__law_same T.F__law_same.kp T.bd__law_same tk (a_cons (d_lst (a_cons (d_call (ok_tops T) (hr.mono (by decide)) T.g_tops_rows T.F_tops.kp T.bd_tops tk (a_cons (d_var 8) a_nil)) (a_cons (d_call (ok_dips T) (hr.mono (by decide)) T.g_dips_rows T.F_dips.kp T.bd_dips tk (a_cons (d_var 8) a_nil)) (a_cons (d_call (ok_at_rest T) (hr.mono (by decide)) T.g_at_rest T.F_at_rest.kp T.bd_at_rest tk (a_cons (d_var 8) a_nil)) (a_cons (d_meth0 T.c_Hall ⟨⟨_, _, T.mt_Hall_tops, ok_Hall_tops T, T.bd_Hall_tops⟩⟩ (hr.mono (by decide)) tk (d_var 7)) (a_cons (d_meth0 T.c_Hall ⟨⟨_, _, T.mt_Hall_dips, ok_Hall_dips T, T.bd_Hall_dips⟩⟩ (hr.mono (by decide)) tk (d_var 7)) a_nil)))))) (a_cons (d_lst (a_cons (d_var 16) (a_cons (d_var 17) (a_cons (d_cmp (op_eqD hr.units) sim_eq (d_op op_addA sim_add (d_var 16) (d_var 17)) (d_lst a_nil)) (a_cons (d_var 16) (a_cons (d_var 17) a_nil)))))) a_nil))))) (b_one (s_ret d_bl)) b_nil) (b_cons (s_if (t_w (w_or (t_cmp (op_neD hr.units) sim_ne (d_lc (own := [ ("first" , 18) , ("last" , 19) ]) rfl sc_law.nd (i_seq (d_call (ok_runs T) (hr.mono (by decide)) T.g_runs T.F_runs.kp T.bd_runs tk (a_cons (d_var 8) a_nil))) (blkOk_by (own := [ ("first" , 18) , ("last" , 19) ]) (N := [ "script" , "urn" , "row" , "many" , "given" , "calls" , "turn" , "hall" , "now" , "still" , "moved" , "place" , "person" , "later" , "got" , "inner_v" , "high" , "low" , "first" , "last" , "one" , "other" , "due" , "goal" , "reason" , "host" , "steps" , "far" ]) (sc := defScope s_law) (by decide +kernel)) (fun _ _ _ _ _ => (g_tup (n := 2) rfl (gs_cons (g_name 18 sc_law.nd) (gs_cons (g_name 19 sc_law.nd) gs_nil)))) (fun _ _ _ _ _ => (ts_one (t_cmp (op_neD hr.units) sim_ne (d_lenSet T.b_len T.b_set (d_sl (d_var 8) (o_some (d_var 18)) (o_some (d_op op_addA sim_add (d_var 19) d_int)))) d_int))) (fun _ _ _ _ _ => d_int)) (d_lst a_nil)) (w_or1 (t_cmp (op_neD hr.units) sim_ne (d_lc (own := [ ("one" , 20) , ("other" , 21) ]) rfl sc_law.nd (i_zp T.b_zip (a_cons (d_call (ok_runs T) (hr.mono (by decide)) T.g_runs T.F_runs.kp T.bd_runs tk (a_cons (d_var 8) a_nil)) (a_cons (d_sl (d_call (ok_runs T) (hr.mono (by decide)) T.g_runs T.F_runs.kp T.bd_runs tk (a_cons (d_var 8) a_nil)) (o_some d_int) o_none) a_nil))) (blkOk_by (own := [ ("one" , 20) , ("other" , 21) ]) (N := [ "script" , "urn" , "row" , "many" , "given" , "calls" , "turn" , "hall" , "now" , "still" , "moved" , "place" , "person" , "later" , "got" , "inner_v" , "high" , "low" , "first" , "last" , "one" , "other" , "due" , "goal" , "reason" , "host" , "steps" , "far" ]) (sc := defScope s_law) (by decide +kernel)) (fun _ _ _ _ _ => (g_tup (n := 2) rfl (gs_cons (g_name 20 sc_law.nd) (gs_cons (g_name 21 sc_law.nd) gs_nil)))) (fun _ _ _ _ _ => (ts_one (t_cmp (op_eqD hr.units) sim_eq (d_ix (d_var 8) (d_ix (d_var 20) d_int)) (d_ix (d_var 8) (d_ix (d_var 21) d_int))))) (fun _ _ _ _ _ => d_int)) (d_lst a_nil))))) (b_one (s_ret d_bl)) b_nil) (b_cons (s_setLc (i := 22) (own := [ ("person" , 12) ]) rfl sc_law.nd rfl rfl (sw_true rfl rfl rfl (by decide +kernel)) (i_seq (d_cb cr_sortedA sim_sortedA T.b_sorted (by decide +kernel) (a_cons (d_var 10) a_nil))) (blkOk_by (own := [ ("person" , 12) ]) (N := [ "script" , "urn" , "row" , "many" , "given" , "calls" , "turn" , "hall" , "now" , "still" , "moved" , "place" , "person" , "later" , "got" , "inner_v" , "high" , "low" , "first" , "last" , "one" , "other" , "due" , "goal" , "reason" , "host" , "steps" , "far" ]) (sc := defScope s_law) (by decide +kernel)) (fun _ _ _ _ _ => (g_name 12 sc_law.nd)) (fun _ _ _ _ _ => (ts_one (t_cmp (op_eqD hr.units) sim_eq (d_ix (d_call (ok__law_called T) (hr.mono (by decide)) T.g__law_called T.F__law_called.kp T.bd__law_called takes0 (a_cons (d_var 2) (a_cons (d_var 12) a_nil))) (d_var 12)) (d_ix (d_var 8) (d_var 12))))) (fun _ _ _ _ _ => (d_var 12))) (b_cons (s_if (t_not (t_val (d_call (ok__law_same T 5) (hr.mono (by decide)) T.g__law_same T.F__law_same.kp T.bd__law_same tk (a_cons (d_lst (a_cons (d_call (ok_firsts T) (hr.mono (by decide)) T.g_firsts T.F_firsts.kp T.bd_firsts tk (a_cons (d_var 2) (a_cons (d_var 8) a_nil))) (a_cons (d_call (ok__law_flat T) (hr.mono (by decide)) T.g__law_flat T.F__law_flat.kp T.bd__law_flat tk (a_cons (d_call (ok_parts T) (hr.mono (by decide)) T.g_parts T.F_parts.kp T.bd_parts tk (a_cons (d_var 2) (a_cons (d_var 8) a_nil))) a_nil)) a_nil))) (a_cons (d_lst (a_cons (d_var 22) (a_cons (d_cb cr_sortedA sim_sortedA T.b_sorted (by decide +kernel) (a_cons (d_var 10) a_nil)) a_nil))) a_nil))))) (b_one (s_ret d_bl)) b_nil) (b_cons (s_for po rfl (i_rg1 T.b_range (a_cons d_int a_nil)) (g_name 6 sc_law.nd) (b_cons (s_set 12 sc_law.nd (d_call (ok__law_take T) (hr.mono (by decide)) T.g__law_take T.F__law_take.kp T.bd__law_take tk (a_cons (d_var 1) (a_cons (d_var 3) a_nil)))) (b_cons (s_set 23 sc_law.nd (d_op op_addA sim_add (d_op op_addA sim_add (d_sl (d_var 8) o_none (o_some (d_var 12))) (d_tup (a_cons (d_call (ok__law_of T) (hr.mono (by decide)) T.g__law_of T.F__law_of.kp T.bd__law_of tk (a_cons (d_var 1) (a_cons (d_var 2) a_nil))) a_nil))) (d_sl (d_var 8) (o_some (d_op op_addA sim_add (d_var 12) d_int)) o_none))) (b_cons (s_set 21 sc_law.nd (d_call (ok__law_take T) (hr.mono (by decide)) T.g__law_take T.F__law_take.kp T.bd__law_take tk (a_cons (d_var 1) (a_cons (d_var 3) a_nil)))) (b_cons (s_set 23 sc_law.nd (d_ifExp (t_cmp (op_eqD hr.units) sim_eq (d_call (ok__law_take T) (hr.mono (by decide)) T.g__law_take T.F__law_take.kp T.bd__law_take tk (a_cons (d_var 1) (a_cons d_int a_nil))) d_int) (d_op op_addA sim_add (d_op op_addA sim_add (d_sl (d_var 23) o_none (o_some (d_var 21))) (d_tup (a_cons (d_call (ok__law_of T) (hr.mono (by decide)) T.g__law_of T.F__law_of.kp T.bd__law_of tk (a_cons (d_var 1) (a_cons (d_var 8) a_nil))) a_nil))) (d_sl (d_var 23) (o_some (d_op op_addA sim_add (d_var 21) d_int)) o_none)) (d_var 23))) (b_cons (s_set 24 sc_law.nd (d_call (ok__law_bar T) (hr.mono (by decide)) T.g__law_bar T.F__law_bar.kp T.bd__law_bar tk (a_cons (d_var 2) (a_cons (d_var 23) a_nil)))) (b_cons (s_set 25 sc_law.nd (d_make T.mk_Hall (ok_Hall_init T) T.bd_Hall_init T.g_Hall (hr.mono (by decide)) (a_cons (d_var 4) a_nil))) (b_cons (s_set 26 sc_law.nd (d_cb call_len sim_len T.b_len PySem.boot_len (a_cons (d_lc (own := [ ("one" , 20) , ("far" , 27) ]) rfl sc_law.nd (i_zp T.b_zip (a_cons (d_var 2) (a_cons (d_var 23) a_nil))) (blkOk_by (own := [ ("one" , 20) , ("far" , 27) ]) (N := [ "script" , "urn" , "row" , "many" , "given" , "calls" , "turn" , "hall" , "now" , "still" , "moved" , "place" , "person" , "later" , "got" , "inner_v" , "high" , "low" , "first" , "last" , "one" , "other" , "due" , "goal" , "reason" , "host" , "steps" , "far" ]) (sc := defScope s_law) (by decide +kernel)) (fun _ _ _ _ _ => (g_tup (n := 2) rfl (gs_cons (g_name 20 sc_law.nd) (gs_cons (g_name 27 sc_law.nd) gs_nil)))) (fun _ _ _ _ _ => (ts_one (t_cmp (op_neD hr.units) sim_ne (d_var 20) (d_var 27)))) (fun _ _ _ _ _ => d_int)) a_nil))) (b_cons (s_set 14 sc_law.nd (d_lst (a_cons (d_call (ok_bar T) (hr.mono (by decide)) T.g_bar T.F_bar.kp T.bd_bar tk (a_cons (d_var 2) (a_cons (d_call (ok__law_soft T 5) (hr.mono (by decide)) T.g__law_soft T.F__law_soft.kp T.bd__law_soft tk (a_cons (d_var 23) a_nil)) a_nil))) (a_cons (d_call (ok_leads T) (hr.mono (by decide)) T.g_leads T.F_leads.kp T.bd_leads tk (a_cons (d_var 2) (a_cons (d_var 23) a_nil))) (a_cons (d_call (ok__law_go T) (hr.mono (by decide)) T.g__law_go T.F__law_go.kp T.bd__law_go tk (a_cons (d_var 25) (a_cons (d_var 23) a_nil))) (a_cons (d_meth0 T.c_Hall ⟨⟨_, _, T.mt_Hall_row, ok_Hall_row T, T.bd_Hall_row⟩⟩ (hr.mono (by decide)) tk (d_var 25)) (a_cons (d_meth0 T.c_Hall ⟨⟨_, _, T.mt_Hall_deeds, ok_Hall_deeds T, T.bd_Hall_deeds⟩⟩ (hr.mono (by decide)) tk (d_var 25)) a_nil))))))) (b_one (s_if (t_not (t_val (d_call (ok__law_same T 5) (hr.mono (by decide)) T.g__law_same T.F__law_same.kp T.bd__law_same tk (a_cons (d_var 14) (a_cons (d_lst (a_cons (d_var 24) (a_cons (d_cmp op_isN sim_isN (d_var 24) d_non) (a_cons (d_ifExp (t_cmp op_isN sim_isN (d_var 24) d_non) (d_var 26) (d_tup (a_cons d_str (a_cons (d_var 24) a_nil)))) (a_cons (d_ifExp (t_cmp op_isN sim_isN (d_var 24) d_non) (d_var 23) (d_var 2)) (a_cons (d_ct call_int1 sim_int1 T.b_int (by decide +kernel) (a_cons (d_cmp op_isN sim_isN (d_var 24) d_non) a_nil)) a_nil)))))) a_nil))))) (b_one (s_ret d_bl)) b_nil))))))))))) (b_cons (s_for po rfl (i_rg1 T.b_range (a_cons (d_cb call_len sim_len T.b_len PySem.boot_len (a_cons (d_var 5) a_nil)) a_nil)) (g_name 11 sc_law.nd) (b_one (s_if (t_cmp op_notBl sim_notB (d_meth0 T.c_Hall ⟨⟨_, _, T.mt_Hall_undo, ok_Hall_undo T, T.bd_Hall_undo⟩⟩ (hr.mono (by decide)) tk (d_var 7)) d_bl) (b_one (s_ret d_bl)) b_nil))) (b_one (s_ret (d_call (ok__law_same T 5) (hr.mono (by decide)) T.g__law_same T.F__law_same.kp T.bd__law_same tk (a_cons (d_lst (a_cons (d_meth0 T.c_Hall ⟨⟨_, _, T.mt_Hall_row, ok_Hall_row T, T.bd_Hall_row⟩⟩ (hr.mono (by decide)) tk (d_var 7)) (a_cons (d_meth0 T.c_Hall ⟨⟨_, _, T.mt_Hall_undo, ok_Hall_undo T, T.bd_Hall_undo⟩⟩ (hr.mono (by decide)) tk (d_var 7)) (a_cons (d_meth0 T.c_Hall ⟨⟨_, _, T.mt_Hall_deeds, ok_Hall_deeds T, T.bd_Hall_deeds⟩⟩ (hr.mono (by decide)) tk (d_var 7)) a_nil)))) (a_cons (d_lst (a_cons (d_var 2) (a_cons d_bl (a_cons d_int a_nil)))) a_nil))))))))))))))))))))))))⟩
end
end DL
end
section
set_option maxRecDepth 100000
set_option maxHeartbeats 4000000
namespace DL
open PySem PySem.Spec PyProof.Rows L2
abbrev s_Barred_init : Stmt := inClass (topS 6) 0
theorem sc_Barred_init : FnScope ["self", "reason"] ["self", "reason"] (defScope s_Barred_init) := ⟨rfl, rfl, rfl, by decide +kernel, rfl, by decide +kernel, by decide +kernel⟩
abbrev s_NoPerson_init : Stmt := inClass (topS 2) 0
theorem sc_NoPerson_init : FnScope ["self", "person"] ["self", "person"] (defScope s_NoPerson_init) := ⟨rfl, rfl, rfl, by decide +kernel, rfl, by decide +kernel, by decide +kernel⟩
abbrev s_OtherPeople_init : Stmt := inClass (topS 4) 0
theorem sc_OtherPeople_init : FnScope ["self", "many"] ["self", "many"] (defScope s_OtherPeople_init) := ⟨rfl, rfl, rfl, by decide +kernel, rfl, by decide +kernel, by decide +kernel⟩
theorem all_mk {P : Program} {w : World} {K : PySem.W.Frag} {h : Heap} {mg : Str → Option Value} {fa HC : Addr}
  {tk_CHANGE : Tok}
  {tk_ORDER : Tok}
  {tk_RUN : Tok}
  {f__law_cells : Addr} {oc__law_cells kV__law_cells dc__law_cells pm__law_cells cd__law_cells ct__law_cells : Value} {od__law_cells an__law_cells : Option Addr} {sl__law_cells : Array (Option Value)}
  {f__law_box : Addr} {oc__law_box kV__law_box dc__law_box pm__law_box cd__law_box ct__law_box : Value} {od__law_box an__law_box : Option Addr} {sl__law_box : Array (Option Value)}
  {f__law_take : Addr} {oc__law_take kV__law_take dc__law_take pm__law_take cd__law_take ct__law_take : Value} {od__law_take an__law_take : Option Addr} {sl__law_take : Array (Option Value)}
  {f__law_great : Addr} {oc__law_great kV__law_great dc__law_great pm__law_great cd__law_great ct__law_great : Value} {od__law_great an__law_great : Option Addr} {sl__law_great : Array (Option Value)}
  {f__law_soft : Addr} {oc__law_soft kV__law_soft dc__law_soft pm__law_soft cd__law_soft ct__law_soft : Value} {od__law_soft an__law_soft : Option Addr} {sl__law_soft : Array (Option Value)}
  {t_Hall_init : Addr} {tc_Hall_init : Value} {td_Hall_init : Option Addr} {tv0_Hall_init : Value} {tn_Hall_init : Nat} {ts_Hall_init : Array (Option Value)}
  {f_Hall_init : Addr} {oc_Hall_init kV_Hall_init dc_Hall_init pm_Hall_init cd_Hall_init ct_Hall_init : Value} {od_Hall_init an_Hall_init : Option Addr} {sl_Hall_init : Array (Option Value)}
  {f__law_called : Addr} {oc__law_called kV__law_called dc__law_called pm__law_called cd__law_called ct__law_called : Value} {od__law_called an__law_called : Option Addr} {sl__law_called : Array (Option Value)}
  {f_Hall_row : Addr} {oc_Hall_row kV_Hall_row dc_Hall_row pm_Hall_row cd_Hall_row ct_Hall_row : Value} {od_Hall_row an_Hall_row : Option Addr} {sl_Hall_row : Array (Option Value)}
  {f_look_person : Addr} {oc_look_person kV_look_person dc_look_person pm_look_person cd_look_person ct_look_person : Value} {od_look_person an_look_person : Option Addr} {sl_look_person : Array (Option Value)}
  {f_middle_of : Addr} {oc_middle_of kV_middle_of dc_middle_of pm_middle_of cd_middle_of ct_middle_of : Value} {od_middle_of an_middle_of : Option Addr} {sl_middle_of : Array (Option Value)}
  {f_called : Addr} {oc_called kV_called dc_called pm_called cd_called ct_called : Value} {od_called an_called : Option Addr} {sl_called : Array (Option Value)}
  {f_Hall_call : Addr} {oc_Hall_call kV_Hall_call dc_Hall_call pm_Hall_call cd_Hall_call ct_Hall_call : Value} {od_Hall_call an_Hall_call : Option Addr} {sl_Hall_call : Array (Option Value)}
  {f_middle : Addr} {oc_middle kV_middle dc_middle pm_middle cd_middle ct_middle : Value} {od_middle an_middle : Option Addr} {sl_middle : Array (Option Value)}
  {f__law_same : Addr} {oc__law_same kV__law_same dc__law_same pm__law_same cd__law_same ct__law_same : Value} {od__law_same an__law_same : Option Addr} {sl__law_same : Array (Option Value)}
  {f_inner : Addr} {oc_inner kV_inner dc_inner pm_inner cd_inner ct_inner : Value} {od_inner an_inner : Option Addr} {sl_inner : Array (Option Value)}
  {f_tops : Addr} {oc_tops kV_tops dc_tops pm_tops cd_tops ct_tops : Value} {od_tops an_tops : Option Addr} {sl_tops : Array (Option Value)}
  {f_dips : Addr} {oc_dips kV_dips dc_dips pm_dips cd_dips ct_dips : Value} {od_dips an_dips : Option Addr} {sl_dips : Array (Option Value)}
  {f_look_many : Addr} {oc_look_many kV_look_many dc_look_many pm_look_many cd_look_many ct_look_many : Value} {od_look_many an_look_many : Option Addr} {sl_look_many : Array (Option Value)}
  {f_wrong_orders : Addr} {oc_wrong_orders kV_wrong_orders dc_wrong_orders pm_wrong_orders cd_wrong_orders ct_wrong_orders : Value} {od_wrong_orders an_wrong_orders : Option Addr} {sl_wrong_orders : Array (Option Value)}
  {f_wrong_changes : Addr} {oc_wrong_changes kV_wrong_changes dc_wrong_changes pm_wrong_changes cd_wrong_changes ct_wrong_changes : Value} {od_wrong_changes an_wrong_changes : Option Addr} {sl_wrong_changes : Array (Option Value)}
  {f_runs : Addr} {oc_runs kV_runs dc_runs pm_runs cd_runs ct_runs : Value} {od_runs an_runs : Option Addr} {sl_runs : Array (Option Value)}
  {f_stayed : Addr} {oc_stayed kV_stayed dc_stayed pm_stayed cd_stayed ct_stayed : Value} {od_stayed an_stayed : Option Addr} {sl_stayed : Array (Option Value)}
  {f_wrong_runs : Addr} {oc_wrong_runs kV_wrong_runs dc_wrong_runs pm_wrong_runs cd_wrong_runs ct_wrong_runs : Value} {od_wrong_runs an_wrong_runs : Option Addr} {sl_wrong_runs : Array (Option Value)}
  {f_bar : Addr} {oc_bar kV_bar dc_bar pm_bar cd_bar ct_bar : Value} {od_bar an_bar : Option Addr} {sl_bar : Array (Option Value)}
  {f_look_leads : Addr} {oc_look_leads kV_look_leads dc_look_leads pm_look_leads cd_look_leads ct_look_leads : Value} {od_look_leads an_look_leads : Option Addr} {sl_look_leads : Array (Option Value)}
  {f_changed : Addr} {oc_changed kV_changed dc_changed pm_changed cd_changed ct_changed : Value} {od_changed an_changed : Option Addr} {sl_changed : Array (Option Value)}
  {f_distance : Addr} {oc_distance kV_distance dc_distance pm_distance cd_distance ct_distance : Value} {od_distance an_distance : Option Addr} {sl_distance : Array (Option Value)}
  {f_leads : Addr} {oc_leads kV_leads dc_leads pm_leads cd_leads ct_leads : Value} {od_leads an_leads : Option Addr} {sl_leads : Array (Option Value)}
  {f_run : Addr} {oc_run kV_run dc_run pm_run cd_run ct_run : Value} {od_run an_run : Option Addr} {sl_run : Array (Option Value)}
  {f_idle : Addr} {oc_idle kV_idle dc_idle pm_idle cd_idle ct_idle : Value} {od_idle an_idle : Option Addr} {sl_idle : Array (Option Value)}
  {f_Hall_run : Addr} {oc_Hall_run kV_Hall_run dc_Hall_run pm_Hall_run cd_Hall_run ct_Hall_run : Value} {od_Hall_run an_Hall_run : Option Addr} {sl_Hall_run : Array (Option Value)}
  {f_Hall_deeds : Addr} {oc_Hall_deeds kV_Hall_deeds dc_Hall_deeds pm_Hall_deeds cd_Hall_deeds ct_Hall_deeds : Value} {od_Hall_deeds an_Hall_deeds : Option Addr} {sl_Hall_deeds : Array (Option Value)}
  {f_Hall_dips : Addr} {oc_Hall_dips kV_Hall_dips dc_Hall_dips pm_Hall_dips cd_Hall_dips ct_Hall_dips : Value} {od_Hall_dips an_Hall_dips : Option Addr} {sl_Hall_dips : Array (Option Value)}
  {f_Hall_tops : Addr} {oc_Hall_tops kV_Hall_tops dc_Hall_tops pm_Hall_tops cd_Hall_tops ct_Hall_tops : Value} {od_Hall_tops an_Hall_tops : Option Addr} {sl_Hall_tops : Array (Option Value)}
  {f_at_rest : Addr} {oc_at_rest kV_at_rest dc_at_rest pm_at_rest cd_at_rest ct_at_rest : Value} {od_at_rest an_at_rest : Option Addr} {sl_at_rest : Array (Option Value)}
  {f_open_parts : Addr} {oc_open_parts kV_open_parts dc_open_parts pm_open_parts cd_open_parts ct_open_parts : Value} {od_open_parts an_open_parts : Option Addr} {sl_open_parts : Array (Option Value)}
  {f_parts : Addr} {oc_parts kV_parts dc_parts pm_parts cd_parts ct_parts : Value} {od_parts an_parts : Option Addr} {sl_parts : Array (Option Value)}
  {f__law_flat : Addr} {oc__law_flat kV__law_flat dc__law_flat pm__law_flat cd__law_flat ct__law_flat : Value} {od__law_flat an__law_flat : Option Addr} {sl__law_flat : Array (Option Value)}
  {f_next_calls : Addr} {oc_next_calls kV_next_calls dc_next_calls pm_next_calls cd_next_calls ct_next_calls : Value} {od_next_calls an_next_calls : Option Addr} {sl_next_calls : Array (Option Value)}
  {f_firsts : Addr} {oc_firsts kV_firsts dc_firsts pm_firsts cd_firsts ct_firsts : Value} {od_firsts an_firsts : Option Addr} {sl_firsts : Array (Option Value)}
  {f__law_of : Addr} {oc__law_of kV__law_of dc__law_of pm__law_of cd__law_of ct__law_of : Value} {od__law_of an__law_of : Option Addr} {sl__law_of : Array (Option Value)}
  {f__law_bar : Addr} {oc__law_bar kV__law_bar dc__law_bar pm__law_bar cd__law_bar ct__law_bar : Value} {od__law_bar an__law_bar : Option Addr} {sl__law_bar : Array (Option Value)}
  {f_Hall_go : Addr} {oc_Hall_go kV_Hall_go dc_Hall_go pm_Hall_go cd_Hall_go ct_Hall_go : Value} {od_Hall_go an_Hall_go : Option Addr} {sl_Hall_go : Array (Option Value)}
  {f__law_go : Addr} {oc__law_go kV__law_go dc__law_go pm__law_go cd__law_go ct__law_go : Value} {od__law_go an__law_go : Option Addr} {sl__law_go : Array (Option Value)}
  {f_Hall_undo : Addr} {oc_Hall_undo kV_Hall_undo dc_Hall_undo pm_Hall_undo cd_Hall_undo ct_Hall_undo : Value} {od_Hall_undo an_Hall_undo : Option Addr} {sl_Hall_undo : Array (Option Value)}
  {f_law : Addr} {oc_law kV_law dc_law pm_law cd_law ct_law : Value} {od_law an_law : Option Addr} {sl_law : Array (Option Value)}
  {C_Barred f_Barred_init : Addr} {nm_Barred q_Barred : Str} {N_Barred : Addr} {bs_Barred : List Value} {sn_Barred : List Str} {sb_Barred : List Value} {ab_Barred : Bool} {co_Barred : Option Bool} {dd_Barred : Option Addr} {m0_Barred m1_Barred m2_Barred m3_Barred m5_Barred : Option Value}
  {oc_Barred_init kV_Barred_init dc_Barred_init pm_Barred_init cd_Barred_init ct_Barred_init : Value} {od_Barred_init an_Barred_init : Option Addr} {sl_Barred_init : Array (Option Value)}
  {C_NoPerson f_NoPerson_init : Addr} {nm_NoPerson q_NoPerson : Str} {N_NoPerson : Addr} {bs_NoPerson : List Value} {sn_NoPerson : List Str} {sb_NoPerson : List Value} {ab_NoPerson : Bool} {co_NoPerson : Option Bool} {dd_NoPerson : Option Addr} {m0_NoPerson m1_NoPerson m2_NoPerson m3_NoPerson m5_NoPerson : Option Value}
  {oc_NoPerson_init kV_NoPerson_init dc_NoPerson_init pm_NoPerson_init cd_NoPerson_init ct_NoPerson_init : Value} {od_NoPerson_init an_NoPerson_init : Option Addr} {sl_NoPerson_init : Array (Option Value)}
  {C_OtherPeople f_OtherPeople_init : Addr} {nm_OtherPeople q_OtherPeople : Str} {N_OtherPeople : Addr} {bs_OtherPeople : List Value} {sn_OtherPeople : List Str} {sb_OtherPeople : List Value} {ab_OtherPeople : Bool} {co_OtherPeople : Option Bool} {dd_OtherPeople : Option Addr} {m0_OtherPeople m1_OtherPeople m2_OtherPeople m3_OtherPeople m5_OtherPeople : Option Value}
  {oc_OtherPeople_init kV_OtherPeople_init dc_OtherPeople_init pm_OtherPeople_init cd_OtherPeople_init ct_OtherPeople_init : Value} {od_OtherPeople_init an_OtherPeople_init : Option Addr} {sl_OtherPeople_init : Array (Option Value)}
  (X : K.In h) (G : h.Ns mainGlobals mg) (hfa : mg "law" = some (.ref fa))
  (z_abs : PySem.W.nsIn K mainGlobals "abs" = some none)
  (z_all : PySem.W.nsIn K mainGlobals "all" = some none)
  (z_bool : PySem.W.nsIn K mainGlobals "bool" = some none)
  (z_enumerate : PySem.W.nsIn K mainGlobals "enumerate" = some none)
  (z_int : PySem.W.nsIn K mainGlobals "int" = some none)
  (z_isinstance : PySem.W.nsIn K mainGlobals "isinstance" = some none)
  (z_len : PySem.W.nsIn K mainGlobals "len" = some none)
  (z_list : PySem.W.nsIn K mainGlobals "list" = some none)
  (z_max : PySem.W.nsIn K mainGlobals "max" = some none)
  (z_min : PySem.W.nsIn K mainGlobals "min" = some none)
  (z_range : PySem.W.nsIn K mainGlobals "range" = some none)
  (z_set : PySem.W.nsIn K mainGlobals "set" = some none)
  (z_sorted : PySem.W.nsIn K mainGlobals "sorted" = some none)
  (z_str : PySem.W.nsIn K mainGlobals "str" = some none)
  (z_tuple : PySem.W.nsIn K mainGlobals "tuple" = some none)
  (z_zip : PySem.W.nsIn K mainGlobals "zip" = some none)
  (z_CHANGE : PySem.W.nsIn K mainGlobals "CHANGE" = some (some (.str "change" tk_CHANGE)))
  (z_ORDER : PySem.W.nsIn K mainGlobals "ORDER" = some (some (.str "order" tk_ORDER)))
  (z_RUN : PySem.W.nsIn K mainGlobals "RUN" = some (some (.str "run" tk_RUN)))
  (aHC : PySem.W.nsIn K mainGlobals "Hall" = some (some (.ref HC)))
  (c1 : PySem.W.plainGet K HC Str.empty = true)
  (c2 : PySem.W.hasDictIn K HC = true)
  (c3 : PySem.W.plainOver K HC = true)
  (c4 : PySem.W.findIn K (.ref HC) "__setattr__" = some (some (.builtin "object.__setattr__")))
  (n_own_log : PySem.W.findIn K (.ref HC) "own_log" = some none)
  (n_own_rows : PySem.W.findIn K (.ref HC) "own_rows" = some none)
  (a__law_cells__law_cells : PySem.W.nsIn K mainGlobals "_law_cells" = some (some (.ref f__law_cells)))
  (l__law_cells : K.lookup f__law_cells = some ⟨oc__law_cells, od__law_cells, .func (PySem.W.fnOf "_law_cells" "_law_cells" (defArgs s__law_cells) (defBody s__law_cells) (defScope s__law_cells) .none kV__law_cells dc__law_cells pm__law_cells an__law_cells cd__law_cells ct__law_cells), sl__law_cells⟩)
  (c__law_cells : PySem.W.codeIn K cd__law_cells "_law_cells" = true)
  (k__law_cells : PySem.W.keepIn K (.ref f__law_cells) = true)
  (a__law_box__law_box : PySem.W.nsIn K mainGlobals "_law_box" = some (some (.ref f__law_box)))
  (l__law_box : K.lookup f__law_box = some ⟨oc__law_box, od__law_box, .func (PySem.W.fnOf "_law_box" "_law_box" (defArgs s__law_box) (defBody s__law_box) (defScope s__law_box) .none kV__law_box dc__law_box pm__law_box an__law_box cd__law_box ct__law_box), sl__law_box⟩)
  (c__law_box : PySem.W.codeIn K cd__law_box "_law_box" = true)
  (k__law_box : PySem.W.keepIn K (.ref f__law_box) = true)
  (a__law_take__law_take : PySem.W.nsIn K mainGlobals "_law_take" = some (some (.ref f__law_take)))
  (l__law_take : K.lookup f__law_take = some ⟨oc__law_take, od__law_take, .func (PySem.W.fnOf "_law_take" "_law_take" (defArgs s__law_take) (defBody s__law_take) (defScope s__law_take) .none kV__law_take dc__law_take pm__law_take an__law_take cd__law_take ct__law_take), sl__law_take⟩)
  (c__law_take : PySem.W.codeIn K cd__law_take "_law_take" = true)
  (k__law_take : PySem.W.keepIn K (.ref f__law_take) = true)
  (a__law_great__law_great : PySem.W.nsIn K mainGlobals "_law_great" = some (some (.ref f__law_great)))
  (l__law_great : K.lookup f__law_great = some ⟨oc__law_great, od__law_great, .func (PySem.W.fnOf "_law_great" "_law_great" (defArgs s__law_great) (defBody s__law_great) (defScope s__law_great) .none kV__law_great dc__law_great pm__law_great an__law_great cd__law_great ct__law_great), sl__law_great⟩)
  (c__law_great : PySem.W.codeIn K cd__law_great "_law_great" = true)
  (k__law_great : PySem.W.keepIn K (.ref f__law_great) = true)
  (a__law_soft__law_soft : PySem.W.nsIn K mainGlobals "_law_soft" = some (some (.ref f__law_soft)))
  (l__law_soft : K.lookup f__law_soft = some ⟨oc__law_soft, od__law_soft, .func (PySem.W.fnOf "_law_soft" "_law_soft" (defArgs s__law_soft) (defBody s__law_soft) (defScope s__law_soft) .none kV__law_soft dc__law_soft pm__law_soft an__law_soft cd__law_soft ct__law_soft), sl__law_soft⟩)
  (c__law_soft : PySem.W.codeIn K cd__law_soft "_law_soft" = true)
  (k__law_soft : PySem.W.keepIn K (.ref f__law_soft) = true)
  (a_Hall_init : PySem.W.findIn K (.ref HC) "__init__" = some (some (.ref f_Hall_init)))
  (l_Hall_init : K.lookup f_Hall_init = some ⟨oc_Hall_init, od_Hall_init, .func (PySem.W.fnOf "__init__" "Hall.__init__" (defArgs s_Hall_init) (defBody s_Hall_init) (defScope s_Hall_init) (.ref t_Hall_init) kV_Hall_init dc_Hall_init pm_Hall_init an_Hall_init cd_Hall_init ct_Hall_init), sl_Hall_init⟩)
  (c_Hall_init : PySem.W.codeIn K cd_Hall_init "Hall.__init__" = true)
  (k_Hall_init : PySem.W.keepIn K (.ref f_Hall_init) = true)
  (t1_Hall_init : K.lookup t_Hall_init = some ⟨tc_Hall_init, td_Hall_init, .seq #[tv0_Hall_init] tn_Hall_init, ts_Hall_init⟩)
  (i_Hall_init : PySem.W.isFn K (.ref f_Hall_init) = true)
  (m_Hall_init : PySem.W.makesIn K HC = true)
  (kHC : PySem.W.keepIn K (.ref HC) = true)
  (a__law_called__law_called : PySem.W.nsIn K mainGlobals "_law_called" = some (some (.ref f__law_called)))
  (l__law_called : K.lookup f__law_called = some ⟨oc__law_called, od__law_called, .func (PySem.W.fnOf "_law_called" "_law_called" (defArgs s__law_called) (defBody s__law_called) (defScope s__law_called) .none kV__law_called dc__law_called pm__law_called an__law_called cd__law_called ct__law_called), sl__law_called⟩)
  (c__law_called : PySem.W.codeIn K cd__law_called "_law_called" = true)
  (k__law_called : PySem.W.keepIn K (.ref f__law_called) = true)
  (a_Hall_row : PySem.W.findIn K (.ref HC) "row" = some (some (.ref f_Hall_row)))
  (l_Hall_row : K.lookup f_Hall_row = some ⟨oc_Hall_row, od_Hall_row, .func (PySem.W.fnOf "row" "Hall.row" (defArgs s_Hall_row) (defBody s_Hall_row) (defScope s_Hall_row) .none kV_Hall_row dc_Hall_row pm_Hall_row an_Hall_row cd_Hall_row ct_Hall_row), sl_Hall_row⟩)
  (c_Hall_row : PySem.W.codeIn K cd_Hall_row "Hall.row" = true)
  (k_Hall_row : PySem.W.keepIn K (.ref f_Hall_row) = true)
  (i_Hall_row : PySem.W.isFn K (.ref f_Hall_row) = true)
  (a_look_person_look_person : PySem.W.nsIn K mainGlobals "look_person" = some (some (.ref f_look_person)))
  (l_look_person : K.lookup f_look_person = some ⟨oc_look_person, od_look_person, .func (PySem.W.fnOf "look_person" "look_person" (defArgs s_look_person) (defBody s_look_person) (defScope s_look_person) .none kV_look_person dc_look_person pm_look_person an_look_person cd_look_person ct_look_person), sl_look_person⟩)
  (c_look_person : PySem.W.codeIn K cd_look_person "look_person" = true)
  (k_look_person : PySem.W.keepIn K (.ref f_look_person) = true)
  (a_middle_of_middle_of : PySem.W.nsIn K mainGlobals "middle_of" = some (some (.ref f_middle_of)))
  (l_middle_of : K.lookup f_middle_of = some ⟨oc_middle_of, od_middle_of, .func (PySem.W.fnOf "middle_of" "middle_of" (defArgs s_middle_of) (defBody s_middle_of) (defScope s_middle_of) .none kV_middle_of dc_middle_of pm_middle_of an_middle_of cd_middle_of ct_middle_of), sl_middle_of⟩)
  (c_middle_of : PySem.W.codeIn K cd_middle_of "middle_of" = true)
  (k_middle_of : PySem.W.keepIn K (.ref f_middle_of) = true)
  (a_called_called : PySem.W.nsIn K mainGlobals "called" = some (some (.ref f_called)))
  (l_called : K.lookup f_called = some ⟨oc_called, od_called, .func (PySem.W.fnOf "called" "called" (defArgs s_called) (defBody s_called) (defScope s_called) .none kV_called dc_called pm_called an_called cd_called ct_called), sl_called⟩)
  (c_called : PySem.W.codeIn K cd_called "called" = true)
  (k_called : PySem.W.keepIn K (.ref f_called) = true)
  (a_Hall_call : PySem.W.findIn K (.ref HC) "call" = some (some (.ref f_Hall_call)))
  (l_Hall_call : K.lookup f_Hall_call = some ⟨oc_Hall_call, od_Hall_call, .func (PySem.W.fnOf "call" "Hall.call" (defArgs s_Hall_call) (defBody s_Hall_call) (defScope s_Hall_call) .none kV_Hall_call dc_Hall_call pm_Hall_call an_Hall_call cd_Hall_call ct_Hall_call), sl_Hall_call⟩)
  (c_Hall_call : PySem.W.codeIn K cd_Hall_call "Hall.call" = true)
  (k_Hall_call : PySem.W.keepIn K (.ref f_Hall_call) = true)
  (i_Hall_call : PySem.W.isFn K (.ref f_Hall_call) = true)
  (a_middle_middle : PySem.W.nsIn K mainGlobals "middle" = some (some (.ref f_middle)))
  (l_middle : K.lookup f_middle = some ⟨oc_middle, od_middle, .func (PySem.W.fnOf "middle" "middle" (defArgs s_middle) (defBody s_middle) (defScope s_middle) .none kV_middle dc_middle pm_middle an_middle cd_middle ct_middle), sl_middle⟩)
  (c_middle : PySem.W.codeIn K cd_middle "middle" = true)
  (k_middle : PySem.W.keepIn K (.ref f_middle) = true)
  (a__law_same__law_same : PySem.W.nsIn K mainGlobals "_law_same" = some (some (.ref f__law_same)))
  (l__law_same : K.lookup f__law_same = some ⟨oc__law_same, od__law_same, .func (PySem.W.fnOf "_law_same" "_law_same" (defArgs s__law_same) (defBody s__law_same) (defScope s__law_same) .none kV__law_same dc__law_same pm__law_same an__law_same cd__law_same ct__law_same), sl__law_same⟩)
  (c__law_same : PySem.W.codeIn K cd__law_same "_law_same" = true)
  (k__law_same : PySem.W.keepIn K (.ref f__law_same) = true)
  (a_inner_inner : PySem.W.nsIn K mainGlobals "inner" = some (some (.ref f_inner)))
  (l_inner : K.lookup f_inner = some ⟨oc_inner, od_inner, .func (PySem.W.fnOf "inner" "inner" (defArgs s_inner) (defBody s_inner) (defScope s_inner) .none kV_inner dc_inner pm_inner an_inner cd_inner ct_inner), sl_inner⟩)
  (c_inner : PySem.W.codeIn K cd_inner "inner" = true)
  (k_inner : PySem.W.keepIn K (.ref f_inner) = true)
  (a_tops_tops_rows : PySem.W.nsIn K mainGlobals "tops_rows" = some (some (.ref f_tops)))
  (l_tops : K.lookup f_tops = some ⟨oc_tops, od_tops, .func (PySem.W.fnOf "tops" "tops" (defArgs s_tops) (defBody s_tops) (defScope s_tops) .none kV_tops dc_tops pm_tops an_tops cd_tops ct_tops), sl_tops⟩)
  (c_tops : PySem.W.codeIn K cd_tops "tops" = true)
  (k_tops : PySem.W.keepIn K (.ref f_tops) = true)
  (a_dips_dips_rows : PySem.W.nsIn K mainGlobals "dips_rows" = some (some (.ref f_dips)))
  (l_dips : K.lookup f_dips = some ⟨oc_dips, od_dips, .func (PySem.W.fnOf "dips" "dips" (defArgs s_dips) (defBody s_dips) (defScope s_dips) .none kV_dips dc_dips pm_dips an_dips cd_dips ct_dips), sl_dips⟩)
  (c_dips : PySem.W.codeIn K cd_dips "dips" = true)
  (k_dips : PySem.W.keepIn K (.ref f_dips) = true)
  (a_look_many_look_many : PySem.W.nsIn K mainGlobals "look_many" = some (some (.ref f_look_many)))
  (l_look_many : K.lookup f_look_many = some ⟨oc_look_many, od_look_many, .func (PySem.W.fnOf "look_many" "look_many" (defArgs s_look_many) (defBody s_look_many) (defScope s_look_many) .none kV_look_many dc_look_many pm_look_many an_look_many cd_look_many ct_look_many), sl_look_many⟩)
  (c_look_many : PySem.W.codeIn K cd_look_many "look_many" = true)
  (k_look_many : PySem.W.keepIn K (.ref f_look_many) = true)
  (a_wrong_orders_wrong_orders : PySem.W.nsIn K mainGlobals "wrong_orders" = some (some (.ref f_wrong_orders)))
  (l_wrong_orders : K.lookup f_wrong_orders = some ⟨oc_wrong_orders, od_wrong_orders, .func (PySem.W.fnOf "wrong_orders" "wrong_orders" (defArgs s_wrong_orders) (defBody s_wrong_orders) (defScope s_wrong_orders) .none kV_wrong_orders dc_wrong_orders pm_wrong_orders an_wrong_orders cd_wrong_orders ct_wrong_orders), sl_wrong_orders⟩)
  (c_wrong_orders : PySem.W.codeIn K cd_wrong_orders "wrong_orders" = true)
  (k_wrong_orders : PySem.W.keepIn K (.ref f_wrong_orders) = true)
  (a_wrong_changes_wrong_changes : PySem.W.nsIn K mainGlobals "wrong_changes" = some (some (.ref f_wrong_changes)))
  (l_wrong_changes : K.lookup f_wrong_changes = some ⟨oc_wrong_changes, od_wrong_changes, .func (PySem.W.fnOf "wrong_changes" "wrong_changes" (defArgs s_wrong_changes) (defBody s_wrong_changes) (defScope s_wrong_changes) .none kV_wrong_changes dc_wrong_changes pm_wrong_changes an_wrong_changes cd_wrong_changes ct_wrong_changes), sl_wrong_changes⟩)
  (c_wrong_changes : PySem.W.codeIn K cd_wrong_changes "wrong_changes" = true)
  (k_wrong_changes : PySem.W.keepIn K (.ref f_wrong_changes) = true)
  (a_runs_runs : PySem.W.nsIn K mainGlobals "runs" = some (some (.ref f_runs)))
  (l_runs : K.lookup f_runs = some ⟨oc_runs, od_runs, .func (PySem.W.fnOf "runs" "runs" (defArgs s_runs) (defBody s_runs) (defScope s_runs) .none kV_runs dc_runs pm_runs an_runs cd_runs ct_runs), sl_runs⟩)
  (c_runs : PySem.W.codeIn K cd_runs "runs" = true)
  (k_runs : PySem.W.keepIn K (.ref f_runs) = true)
  (a_stayed_stayed : PySem.W.nsIn K mainGlobals "stayed" = some (some (.ref f_stayed)))
  (l_stayed : K.lookup f_stayed = some ⟨oc_stayed, od_stayed, .func (PySem.W.fnOf "stayed" "stayed" (defArgs s_stayed) (defBody s_stayed) (defScope s_stayed) .none kV_stayed dc_stayed pm_stayed an_stayed cd_stayed ct_stayed), sl_stayed⟩)
  (c_stayed : PySem.W.codeIn K cd_stayed "stayed" = true)
  (k_stayed : PySem.W.keepIn K (.ref f_stayed) = true)
  (a_wrong_runs_wrong_runs : PySem.W.nsIn K mainGlobals "wrong_runs" = some (some (.ref f_wrong_runs)))
  (l_wrong_runs : K.lookup f_wrong_runs = some ⟨oc_wrong_runs, od_wrong_runs, .func (PySem.W.fnOf "wrong_runs" "wrong_runs" (defArgs s_wrong_runs) (defBody s_wrong_runs) (defScope s_wrong_runs) .none kV_wrong_runs dc_wrong_runs pm_wrong_runs an_wrong_runs cd_wrong_runs ct_wrong_runs), sl_wrong_runs⟩)
  (c_wrong_runs : PySem.W.codeIn K cd_wrong_runs "wrong_runs" = true)
  (k_wrong_runs : PySem.W.keepIn K (.ref f_wrong_runs) = true)
  (a_bar_bar : PySem.W.nsIn K mainGlobals "bar" = some (some (.ref f_bar)))
  (l_bar : K.lookup f_bar = some ⟨oc_bar, od_bar, .func (PySem.W.fnOf "bar" "bar" (defArgs s_bar) (defBody s_bar) (defScope s_bar) .none kV_bar dc_bar pm_bar an_bar cd_bar ct_bar), sl_bar⟩)
  (c_bar : PySem.W.codeIn K cd_bar "bar" = true)
  (k_bar : PySem.W.keepIn K (.ref f_bar) = true)
  (a_look_leads_look_leads : PySem.W.nsIn K mainGlobals "look_leads" = some (some (.ref f_look_leads)))
  (l_look_leads : K.lookup f_look_leads = some ⟨oc_look_leads, od_look_leads, .func (PySem.W.fnOf "look_leads" "look_leads" (defArgs s_look_leads) (defBody s_look_leads) (defScope s_look_leads) .none kV_look_leads dc_look_leads pm_look_leads an_look_leads cd_look_leads ct_look_leads), sl_look_leads⟩)
  (c_look_leads : PySem.W.codeIn K cd_look_leads "look_leads" = true)
  (k_look_leads : PySem.W.keepIn K (.ref f_look_leads) = true)
  (a_changed_changed : PySem.W.nsIn K mainGlobals "changed" = some (some (.ref f_changed)))
  (l_changed : K.lookup f_changed = some ⟨oc_changed, od_changed, .func (PySem.W.fnOf "changed" "changed" (defArgs s_changed) (defBody s_changed) (defScope s_changed) .none kV_changed dc_changed pm_changed an_changed cd_changed ct_changed), sl_changed⟩)
  (c_changed : PySem.W.codeIn K cd_changed "changed" = true)
  (k_changed : PySem.W.keepIn K (.ref f_changed) = true)
  (a_distance_distance : PySem.W.nsIn K mainGlobals "distance" = some (some (.ref f_distance)))
  (l_distance : K.lookup f_distance = some ⟨oc_distance, od_distance, .func (PySem.W.fnOf "distance" "distance" (defArgs s_distance) (defBody s_distance) (defScope s_distance) .none kV_distance dc_distance pm_distance an_distance cd_distance ct_distance), sl_distance⟩)
  (c_distance : PySem.W.codeIn K cd_distance "distance" = true)
  (k_distance : PySem.W.keepIn K (.ref f_distance) = true)
  (a_leads_leads : PySem.W.nsIn K mainGlobals "leads" = some (some (.ref f_leads)))
  (l_leads : K.lookup f_leads = some ⟨oc_leads, od_leads, .func (PySem.W.fnOf "leads" "leads" (defArgs s_leads) (defBody s_leads) (defScope s_leads) .none kV_leads dc_leads pm_leads an_leads cd_leads ct_leads), sl_leads⟩)
  (c_leads : PySem.W.codeIn K cd_leads "leads" = true)
  (k_leads : PySem.W.keepIn K (.ref f_leads) = true)
  (a_run_run_calling : PySem.W.nsIn K mainGlobals "run_calling" = some (some (.ref f_run)))
  (l_run : K.lookup f_run = some ⟨oc_run, od_run, .func (PySem.W.fnOf "run" "run" (defArgs s_run) (defBody s_run) (defScope s_run) .none kV_run dc_run pm_run an_run cd_run ct_run), sl_run⟩)
  (c_run : PySem.W.codeIn K cd_run "run" = true)
  (k_run : PySem.W.keepIn K (.ref f_run) = true)
  (a_idle_idle : PySem.W.nsIn K mainGlobals "idle" = some (some (.ref f_idle)))
  (l_idle : K.lookup f_idle = some ⟨oc_idle, od_idle, .func (PySem.W.fnOf "idle" "idle" (defArgs s_idle) (defBody s_idle) (defScope s_idle) .none kV_idle dc_idle pm_idle an_idle cd_idle ct_idle), sl_idle⟩)
  (c_idle : PySem.W.codeIn K cd_idle "idle" = true)
  (k_idle : PySem.W.keepIn K (.ref f_idle) = true)
  (a_Hall_run : PySem.W.findIn K (.ref HC) "run" = some (some (.ref f_Hall_run)))
  (l_Hall_run : K.lookup f_Hall_run = some ⟨oc_Hall_run, od_Hall_run, .func (PySem.W.fnOf "run" "Hall.run" (defArgs s_Hall_run) (defBody s_Hall_run) (defScope s_Hall_run) .none kV_Hall_run dc_Hall_run pm_Hall_run an_Hall_run cd_Hall_run ct_Hall_run), sl_Hall_run⟩)
  (c_Hall_run : PySem.W.codeIn K cd_Hall_run "Hall.run" = true)
  (k_Hall_run : PySem.W.keepIn K (.ref f_Hall_run) = true)
  (i_Hall_run : PySem.W.isFn K (.ref f_Hall_run) = true)
  (a_Hall_deeds : PySem.W.findIn K (.ref HC) "deeds" = some (some (.ref f_Hall_deeds)))
  (l_Hall_deeds : K.lookup f_Hall_deeds = some ⟨oc_Hall_deeds, od_Hall_deeds, .func (PySem.W.fnOf "deeds" "Hall.deeds" (defArgs s_Hall_deeds) (defBody s_Hall_deeds) (defScope s_Hall_deeds) .none kV_Hall_deeds dc_Hall_deeds pm_Hall_deeds an_Hall_deeds cd_Hall_deeds ct_Hall_deeds), sl_Hall_deeds⟩)
  (c_Hall_deeds : PySem.W.codeIn K cd_Hall_deeds "Hall.deeds" = true)
  (k_Hall_deeds : PySem.W.keepIn K (.ref f_Hall_deeds) = true)
  (i_Hall_deeds : PySem.W.isFn K (.ref f_Hall_deeds) = true)
  (a_Hall_dips : PySem.W.findIn K (.ref HC) "dips" = some (some (.ref f_Hall_dips)))
  (l_Hall_dips : K.lookup f_Hall_dips = some ⟨oc_Hall_dips, od_Hall_dips, .func (PySem.W.fnOf "dips" "Hall.dips" (defArgs s_Hall_dips) (defBody s_Hall_dips) (defScope s_Hall_dips) .none kV_Hall_dips dc_Hall_dips pm_Hall_dips an_Hall_dips cd_Hall_dips ct_Hall_dips), sl_Hall_dips⟩)
  (c_Hall_dips : PySem.W.codeIn K cd_Hall_dips "Hall.dips" = true)
  (k_Hall_dips : PySem.W.keepIn K (.ref f_Hall_dips) = true)
  (i_Hall_dips : PySem.W.isFn K (.ref f_Hall_dips) = true)
  (a_Hall_tops : PySem.W.findIn K (.ref HC) "tops" = some (some (.ref f_Hall_tops)))
  (l_Hall_tops : K.lookup f_Hall_tops = some ⟨oc_Hall_tops, od_Hall_tops, .func (PySem.W.fnOf "tops" "Hall.tops" (defArgs s_Hall_tops) (defBody s_Hall_tops) (defScope s_Hall_tops) .none kV_Hall_tops dc_Hall_tops pm_Hall_tops an_Hall_tops cd_Hall_tops ct_Hall_tops), sl_Hall_tops⟩)
  (c_Hall_tops : PySem.W.codeIn K cd_Hall_tops "Hall.tops" = true)
  (k_Hall_tops : PySem.W.keepIn K (.ref f_Hall_tops) = true)
  (i_Hall_tops : PySem.W.isFn K (.ref f_Hall_tops) = true)
  (a_at_rest_at_rest : PySem.W.nsIn K mainGlobals "at_rest" = some (some (.ref f_at_rest)))
  (l_at_rest : K.lookup f_at_rest = some ⟨oc_at_rest, od_at_rest, .func (PySem.W.fnOf "at_rest" "at_rest" (defArgs s_at_rest) (defBody s_at_rest) (defScope s_at_rest) .none kV_at_rest dc_at_rest pm_at_rest an_at_rest cd_at_rest ct_at_rest), sl_at_rest⟩)
  (c_at_rest : PySem.W.codeIn K cd_at_rest "at_rest" = true)
  (k_at_rest : PySem.W.keepIn K (.ref f_at_rest) = true)
  (a_open_parts_open_parts : PySem.W.nsIn K mainGlobals "open_parts" = some (some (.ref f_open_parts)))
  (l_open_parts : K.lookup f_open_parts = some ⟨oc_open_parts, od_open_parts, .func (PySem.W.fnOf "open_parts" "open_parts" (defArgs s_open_parts) (defBody s_open_parts) (defScope s_open_parts) .none kV_open_parts dc_open_parts pm_open_parts an_open_parts cd_open_parts ct_open_parts), sl_open_parts⟩)
  (c_open_parts : PySem.W.codeIn K cd_open_parts "open_parts" = true)
  (k_open_parts : PySem.W.keepIn K (.ref f_open_parts) = true)
  (a_parts_parts : PySem.W.nsIn K mainGlobals "parts" = some (some (.ref f_parts)))
  (l_parts : K.lookup f_parts = some ⟨oc_parts, od_parts, .func (PySem.W.fnOf "parts" "parts" (defArgs s_parts) (defBody s_parts) (defScope s_parts) .none kV_parts dc_parts pm_parts an_parts cd_parts ct_parts), sl_parts⟩)
  (c_parts : PySem.W.codeIn K cd_parts "parts" = true)
  (k_parts : PySem.W.keepIn K (.ref f_parts) = true)
  (a__law_flat__law_flat : PySem.W.nsIn K mainGlobals "_law_flat" = some (some (.ref f__law_flat)))
  (l__law_flat : K.lookup f__law_flat = some ⟨oc__law_flat, od__law_flat, .func (PySem.W.fnOf "_law_flat" "_law_flat" (defArgs s__law_flat) (defBody s__law_flat) (defScope s__law_flat) .none kV__law_flat dc__law_flat pm__law_flat an__law_flat cd__law_flat ct__law_flat), sl__law_flat⟩)
  (c__law_flat : PySem.W.codeIn K cd__law_flat "_law_flat" = true)
  (k__law_flat : PySem.W.keepIn K (.ref f__law_flat) = true)
  (a_next_calls_next_calls : PySem.W.nsIn K mainGlobals "next_calls" = some (some (.ref f_next_calls)))
  (l_next_calls : K.lookup f_next_calls = some ⟨oc_next_calls, od_next_calls, .func (PySem.W.fnOf "next_calls" "next_calls" (defArgs s_next_calls) (defBody s_next_calls) (defScope s_next_calls) .none kV_next_calls dc_next_calls pm_next_calls an_next_calls cd_next_calls ct_next_calls), sl_next_calls⟩)
  (c_next_calls : PySem.W.codeIn K cd_next_calls "next_calls" = true)
  (k_next_calls : PySem.W.keepIn K (.ref f_next_calls) = true)
  (a_firsts_firsts : PySem.W.nsIn K mainGlobals "firsts" = some (some (.ref f_firsts)))
  (l_firsts : K.lookup f_firsts = some ⟨oc_firsts, od_firsts, .func (PySem.W.fnOf "firsts" "firsts" (defArgs s_firsts) (defBody s_firsts) (defScope s_firsts) .none kV_firsts dc_firsts pm_firsts an_firsts cd_firsts ct_firsts), sl_firsts⟩)
  (c_firsts : PySem.W.codeIn K cd_firsts "firsts" = true)
  (k_firsts : PySem.W.keepIn K (.ref f_firsts) = true)
  (a__law_of__law_of : PySem.W.nsIn K mainGlobals "_law_of" = some (some (.ref f__law_of)))
  (l__law_of : K.lookup f__law_of = some ⟨oc__law_of, od__law_of, .func (PySem.W.fnOf "_law_of" "_law_of" (defArgs s__law_of) (defBody s__law_of) (defScope s__law_of) .none kV__law_of dc__law_of pm__law_of an__law_of cd__law_of ct__law_of), sl__law_of⟩)
  (c__law_of : PySem.W.codeIn K cd__law_of "_law_of" = true)
  (k__law_of : PySem.W.keepIn K (.ref f__law_of) = true)
  (a__law_bar__law_bar : PySem.W.nsIn K mainGlobals "_law_bar" = some (some (.ref f__law_bar)))
  (l__law_bar : K.lookup f__law_bar = some ⟨oc__law_bar, od__law_bar, .func (PySem.W.fnOf "_law_bar" "_law_bar" (defArgs s__law_bar) (defBody s__law_bar) (defScope s__law_bar) .none kV__law_bar dc__law_bar pm__law_bar an__law_bar cd__law_bar ct__law_bar), sl__law_bar⟩)
  (c__law_bar : PySem.W.codeIn K cd__law_bar "_law_bar" = true)
  (k__law_bar : PySem.W.keepIn K (.ref f__law_bar) = true)
  (a_Hall_go : PySem.W.findIn K (.ref HC) "go" = some (some (.ref f_Hall_go)))
  (l_Hall_go : K.lookup f_Hall_go = some ⟨oc_Hall_go, od_Hall_go, .func (PySem.W.fnOf "go" "Hall.go" (defArgs s_Hall_go) (defBody s_Hall_go) (defScope s_Hall_go) .none kV_Hall_go dc_Hall_go pm_Hall_go an_Hall_go cd_Hall_go ct_Hall_go), sl_Hall_go⟩)
  (c_Hall_go : PySem.W.codeIn K cd_Hall_go "Hall.go" = true)
  (k_Hall_go : PySem.W.keepIn K (.ref f_Hall_go) = true)
  (i_Hall_go : PySem.W.isFn K (.ref f_Hall_go) = true)
  (a__law_go__law_go : PySem.W.nsIn K mainGlobals "_law_go" = some (some (.ref f__law_go)))
  (l__law_go : K.lookup f__law_go = some ⟨oc__law_go, od__law_go, .func (PySem.W.fnOf "_law_go" "_law_go" (defArgs s__law_go) (defBody s__law_go) (defScope s__law_go) .none kV__law_go dc__law_go pm__law_go an__law_go cd__law_go ct__law_go), sl__law_go⟩)
  (c__law_go : PySem.W.codeIn K cd__law_go "_law_go" = true)
  (k__law_go : PySem.W.keepIn K (.ref f__law_go) = true)
  (a_Hall_undo : PySem.W.findIn K (.ref HC) "undo" = some (some (.ref f_Hall_undo)))
  (l_Hall_undo : K.lookup f_Hall_undo = some ⟨oc_Hall_undo, od_Hall_undo, .func (PySem.W.fnOf "undo" "Hall.undo" (defArgs s_Hall_undo) (defBody s_Hall_undo) (defScope s_Hall_undo) .none kV_Hall_undo dc_Hall_undo pm_Hall_undo an_Hall_undo cd_Hall_undo ct_Hall_undo), sl_Hall_undo⟩)
  (c_Hall_undo : PySem.W.codeIn K cd_Hall_undo "Hall.undo" = true)
  (k_Hall_undo : PySem.W.keepIn K (.ref f_Hall_undo) = true)
  (i_Hall_undo : PySem.W.isFn K (.ref f_Hall_undo) = true)
  (a_law_law : PySem.W.nsIn K mainGlobals "law" = some (some (.ref f_law)))
  (l_law : K.lookup f_law = some ⟨oc_law, od_law, .func (PySem.W.fnOf "law" "law" (defArgs s_law) (defBody s_law) (defScope s_law) .none kV_law dc_law pm_law an_law cd_law ct_law), sl_law⟩)
  (c_law : PySem.W.codeIn K cd_law "law" = true)
  (k_law : PySem.W.keepIn K (.ref f_law) = true)
  (e0_Barred : PySem.W.nsIn K mainGlobals "Barred" = some (some (.ref C_Barred)))
  (e1_Barred : K.lookup C_Barred = some (excClassObj nm_Barred q_Barred C_Barred N_Barred bs_Barred [.type "RuntimeError", .type "Exception", .type "BaseException", .type "object"] true sn_Barred sb_Barred ab_Barred co_Barred dd_Barred m0_Barred m1_Barred m2_Barred m3_Barred m5_Barred "RuntimeError.__new__"))
  (e2_Barred : PySem.W.findIn K (.ref C_Barred) "__setattr__" = some (some (.builtin "object.__setattr__")))
  (e3_Barred : PySem.W.subIn K (.ref C_Barred) (.type "BaseException") = some true)
  (e4_Barred : PySem.W.typeIn K (.ref C_Barred) = some (.type "type"))
  (e5_Barred : PySem.W.keepIn K (.ref C_Barred) = true)
  (e6_Barred : PySem.W.findIn K (.ref C_Barred) "__init__" = some (some (.ref f_Barred_init)))
  (e7_Barred : PySem.W.typeIn K (.ref f_Barred_init) = some (.type "function"))
  (e8_Barred : K.lookup f_Barred_init = some ⟨oc_Barred_init, od_Barred_init, .func (PySem.W.fnOf "__init__" "Barred.__init__" (defArgs s_Barred_init) (defBody s_Barred_init) (defScope s_Barred_init) .none kV_Barred_init dc_Barred_init pm_Barred_init an_Barred_init cd_Barred_init ct_Barred_init), sl_Barred_init⟩)
  (e9_Barred : PySem.W.codeIn K cd_Barred_init "Barred.__init__" = true)
  (ea_Barred : PySem.W.keepIn K (.ref f_Barred_init) = true)
  (eb_Barred : PySem.W.findIn K (.ref C_Barred) (fldOf 9) = some none)
  (ec_Barred : PySem.W.nsIn K mainGlobals "RuntimeError" = some none)
  (ed_Barred : PySem.W.findCls K (.type "RuntimeError") (.type "type") "__init__" = some (.val (.builtin "RuntimeError.__init__")))
  (e0_NoPerson : PySem.W.nsIn K mainGlobals "NoPerson" = some (some (.ref C_NoPerson)))
  (e1_NoPerson : K.lookup C_NoPerson = some (excClassObj nm_NoPerson q_NoPerson C_NoPerson N_NoPerson bs_NoPerson [.type "LookupError", .type "Exception", .type "BaseException", .type "object"] true sn_NoPerson sb_NoPerson ab_NoPerson co_NoPerson dd_NoPerson m0_NoPerson m1_NoPerson m2_NoPerson m3_NoPerson m5_NoPerson "LookupError.__new__"))
  (e2_NoPerson : PySem.W.findIn K (.ref C_NoPerson) "__setattr__" = some (some (.builtin "object.__setattr__")))
  (e3_NoPerson : PySem.W.subIn K (.ref C_NoPerson) (.type "BaseException") = some true)
  (e4_NoPerson : PySem.W.typeIn K (.ref C_NoPerson) = some (.type "type"))
  (e5_NoPerson : PySem.W.keepIn K (.ref C_NoPerson) = true)
  (e6_NoPerson : PySem.W.findIn K (.ref C_NoPerson) "__init__" = some (some (.ref f_NoPerson_init)))
  (e7_NoPerson : PySem.W.typeIn K (.ref f_NoPerson_init) = some (.type "function"))
  (e8_NoPerson : K.lookup f_NoPerson_init = some ⟨oc_NoPerson_init, od_NoPerson_init, .func (PySem.W.fnOf "__init__" "NoPerson.__init__" (defArgs s_NoPerson_init) (defBody s_NoPerson_init) (defScope s_NoPerson_init) .none kV_NoPerson_init dc_NoPerson_init pm_NoPerson_init an_NoPerson_init cd_NoPerson_init ct_NoPerson_init), sl_NoPerson_init⟩)
  (e9_NoPerson : PySem.W.codeIn K cd_NoPerson_init "NoPerson.__init__" = true)
  (ea_NoPerson : PySem.W.keepIn K (.ref f_NoPerson_init) = true)
  (eb_NoPerson : PySem.W.findIn K (.ref C_NoPerson) (fldOf 0) = some none)
  (ec_NoPerson : PySem.W.nsIn K mainGlobals "LookupError" = some none)
  (ed_NoPerson : PySem.W.findCls K (.type "LookupError") (.type "type") "__init__" = some (.val (.builtin "LookupError.__init__")))
  (e0_OtherPeople : PySem.W.nsIn K mainGlobals "OtherPeople" = some (some (.ref C_OtherPeople)))
  (e1_OtherPeople : K.lookup C_OtherPeople = some (excClassObj nm_OtherPeople q_OtherPeople C_OtherPeople N_OtherPeople bs_OtherPeople [.type "ValueError", .type "Exception", .type "BaseException", .type "object"] true sn_OtherPeople sb_OtherPeople ab_OtherPeople co_OtherPeople dd_OtherPeople m0_OtherPeople m1_OtherPeople m2_OtherPeople m3_OtherPeople m5_OtherPeople "ValueError.__new__"))
  (e2_OtherPeople : PySem.W.findIn K (.ref C_OtherPeople) "__setattr__" = some (some (.builtin "object.__setattr__")))
  (e3_OtherPeople : PySem.W.subIn K (.ref C_OtherPeople) (.type "BaseException") = some true)
  (e4_OtherPeople : PySem.W.typeIn K (.ref C_OtherPeople) = some (.type "type"))
  (e5_OtherPeople : PySem.W.keepIn K (.ref C_OtherPeople) = true)
  (e6_OtherPeople : PySem.W.findIn K (.ref C_OtherPeople) "__init__" = some (some (.ref f_OtherPeople_init)))
  (e7_OtherPeople : PySem.W.typeIn K (.ref f_OtherPeople_init) = some (.type "function"))
  (e8_OtherPeople : K.lookup f_OtherPeople_init = some ⟨oc_OtherPeople_init, od_OtherPeople_init, .func (PySem.W.fnOf "__init__" "OtherPeople.__init__" (defArgs s_OtherPeople_init) (defBody s_OtherPeople_init) (defScope s_OtherPeople_init) .none kV_OtherPeople_init dc_OtherPeople_init pm_OtherPeople_init an_OtherPeople_init cd_OtherPeople_init ct_OtherPeople_init), sl_OtherPeople_init⟩)
  (e9_OtherPeople : PySem.W.codeIn K cd_OtherPeople_init "OtherPeople.__init__" = true)
  (ea_OtherPeople : PySem.W.keepIn K (.ref f_OtherPeople_init) = true)
  (eb_OtherPeople : PySem.W.findIn K (.ref C_OtherPeople) (fldOf 4) = some none)
  (ec_OtherPeople : PySem.W.nsIn K mainGlobals "ValueError" = some none)
  (ed_OtherPeople : PySem.W.findCls K (.type "ValueError") (.type "type") "__init__" = some (.val (.builtin "ValueError.__init__")))
  (g1_Barred : PySem.W.findIn K (.ref C_Barred) "__getattribute__" = some (some (.builtin "BaseException.__getattribute__")))
  (g2_Barred : PySem.W.findIn K (.ref C_Barred) "__getattr__" = some none)
  (g3_Barred : PySem.W.hasDictIn K C_Barred = true)
  (g4_Barred : PySem.W.isClsIn K C_Barred = true)
  (g5_Barred : PySem.W.subIn K (.ref C_Barred) (.ref C_Barred) = some true) :
  ∃ fd : FuncData, (∀ (s : Shared) (v : Value), BindsTo s fd ⟨[v], []⟩ [("script", v)]) ∧ ∀ base : Heap, K.In base → base.Ns mainGlobals mg → FnOk P w K mg base (L2.CX P w) 13 fa fd ["script"] (spAll F_law K) := by
  have e : f_law = fa := by
    have e := hfa.symm.trans (PySem.W.mg_of X G a_law_law)
    cases e
    rfl
  subst e
  refine ⟨PySem.W.fnOf "law" "law" (defArgs s_law) (defBody s_law) (defScope s_law) .none kV_law dc_law pm_law an_law cd_law ct_law, fun s v => .of_eq rfl, fun base _ _ => ?_⟩
  exact FnOk.imp (ok_law (({
     b_abs := PySem.W.mg_none_of X G z_abs,
     b_all := PySem.W.mg_none_of X G z_all,
     b_bool := PySem.W.mg_none_of X G z_bool,
     b_enumerate := PySem.W.mg_none_of X G z_enumerate,
     b_int := PySem.W.mg_none_of X G z_int,
     b_isinstance := PySem.W.mg_none_of X G z_isinstance,
     b_len := PySem.W.mg_none_of X G z_len,
     b_list := PySem.W.mg_none_of X G z_list,
     b_max := PySem.W.mg_none_of X G z_max,
     b_min := PySem.W.mg_none_of X G z_min,
     b_range := PySem.W.mg_none_of X G z_range,
     b_set := PySem.W.mg_none_of X G z_set,
     b_sorted := PySem.W.mg_none_of X G z_sorted,
     b_str := PySem.W.mg_none_of X G z_str,
     b_tuple := PySem.W.mg_none_of X G z_tuple,
     b_zip := PySem.W.mg_none_of X G z_zip,
     g_CHANGE := ⟨_, PySem.W.mg_of X G z_CHANGE⟩,
     g_ORDER := ⟨_, PySem.W.mg_of X G z_ORDER⟩,
     g_RUN := ⟨_, PySem.W.mg_of X G z_RUN⟩,
     c_Hall := ⟨c1, c2, c3, c4⟩,
     g_Hall := PySem.W.mg_of X G aHC,
     na_own_log := n_own_log,
     na_own_rows := n_own_rows,
     g__law_cells := PySem.W.mg_of X G a__law_cells__law_cells,
     f__law_cells := f__law_cells,
     fd__law_cells := PySem.W.fnOf "_law_cells" "_law_cells" (defArgs s__law_cells) (defBody s__law_cells) (defScope s__law_cells) .none kV__law_cells dc__law_cells pm__law_cells an__law_cells cd__law_cells ct__law_cells,
     F__law_cells := funV_mk l__law_cells c__law_cells k__law_cells,
     bd__law_cells := (fun_mk (st := s__law_cells) l__law_cells c__law_cells k__law_cells).binds (ps := ["script", "many"]) fun _ _ _ _ _ _ us hl => match us, hl with | [_, _], _ => rfl,
     g__law_box := PySem.W.mg_of X G a__law_box__law_box,
     f__law_box := f__law_box,
     fd__law_box := PySem.W.fnOf "_law_box" "_law_box" (defArgs s__law_box) (defBody s__law_box) (defScope s__law_box) .none kV__law_box dc__law_box pm__law_box an__law_box cd__law_box ct__law_box,
     F__law_box := funV_mk l__law_box c__law_box k__law_box,
     bd__law_box := (fun_mk (st := s__law_box) l__law_box c__law_box k__law_box).binds (ps := ["script", "k"]) fun _ _ _ _ _ _ us hl => match us, hl with | [_, _], _ => rfl,
     g__law_take := PySem.W.mg_of X G a__law_take__law_take,
     f__law_take := f__law_take,
     fd__law_take := PySem.W.fnOf "_law_take" "_law_take" (defArgs s__law_take) (defBody s__law_take) (defScope s__law_take) .none kV__law_take dc__law_take pm__law_take an__law_take cd__law_take ct__law_take,
     F__law_take := funV_mk l__law_take c__law_take k__law_take,
     bd__law_take := (fun_mk (st := s__law_take) l__law_take c__law_take k__law_take).binds (ps := ["urn", "below"]) fun _ _ _ _ _ _ us hl => match us, hl with | [_, _], _ => rfl,
     g__law_great := PySem.W.mg_of X G a__law_great__law_great,
     f__law_great := f__law_great,
     fd__law_great := PySem.W.fnOf "_law_great" "_law_great" (defArgs s__law_great) (defBody s__law_great) (defScope s__law_great) .none kV__law_great dc__law_great pm__law_great an__law_great cd__law_great ct__law_great,
     F__law_great := funV_mk l__law_great c__law_great k__law_great,
     bd__law_great := (fun_mk (st := s__law_great) l__law_great c__law_great k__law_great).binds (ps := ["urn", "most"]) fun _ _ _ _ _ _ us hl => match us, hl with | [_, _], _ => rfl,
     g__law_soft := PySem.W.mg_of X G a__law_soft__law_soft,
     f__law_soft := f__law_soft,
     fd__law_soft := PySem.W.fnOf "_law_soft" "_law_soft" (defArgs s__law_soft) (defBody s__law_soft) (defScope s__law_soft) .none kV__law_soft dc__law_soft pm__law_soft an__law_soft cd__law_soft ct__law_soft,
     F__law_soft := funV_mk l__law_soft c__law_soft k__law_soft,
     bd__law_soft := (fun_mk (st := s__law_soft) l__law_soft c__law_soft k__law_soft).binds (ps := ["matter"]) fun _ _ _ _ _ _ us hl => match us, hl with | [_], _ => rfl,
     f_Hall_init := f_Hall_init,
     fd_Hall_init := PySem.W.fnOf "__init__" "Hall.__init__" (defArgs s_Hall_init) (defBody s_Hall_init) (defScope s_Hall_init) (.ref t_Hall_init) kV_Hall_init dc_Hall_init pm_Hall_init an_Hall_init cd_Hall_init ct_Hall_init,
     F_Hall_init := funV_mk l_Hall_init c_Hall_init k_Hall_init,
     bd_Hall_init := binds_dfl t1_Hall_init rfl fun us hl => match us, hl with | [_, _], _ => ⟨_, rfl, rfl⟩,
     mk_Hall := ⟨m_Hall_init, a_Hall_init, i_Hall_init, kHC⟩,
     g__law_called := PySem.W.mg_of X G a__law_called__law_called,
     f__law_called := f__law_called,
     fd__law_called := PySem.W.fnOf "_law_called" "_law_called" (defArgs s__law_called) (defBody s__law_called) (defScope s__law_called) .none kV__law_called dc__law_called pm__law_called an__law_called cd__law_called ct__law_called,
     F__law_called := funV_mk l__law_called c__law_called k__law_called,
     bd__law_called := (fun_mk (st := s__law_called) l__law_called c__law_called k__law_called).binds (ps := ["row", "person"]) fun _ _ _ _ _ _ us hl => match us, hl with | [_, _], _ => rfl,
     f_Hall_row := f_Hall_row,
     fd_Hall_row := PySem.W.fnOf "row" "Hall.row" (defArgs s_Hall_row) (defBody s_Hall_row) (defScope s_Hall_row) .none kV_Hall_row dc_Hall_row pm_Hall_row an_Hall_row cd_Hall_row ct_Hall_row,
     F_Hall_row := funV_mk l_Hall_row c_Hall_row k_Hall_row,
     bd_Hall_row := (fun_mk (st := s_Hall_row) l_Hall_row c_Hall_row k_Hall_row).binds (ps := ["self"]) fun _ _ _ _ _ _ us hl => match us, hl with | [_], _ => rfl,
     mt_Hall_row := ⟨a_Hall_row, i_Hall_row, k_Hall_row⟩,
     g_look_person := PySem.W.mg_of X G a_look_person_look_person,
     f_look_person := f_look_person,
     fd_look_person := PySem.W.fnOf "look_person" "look_person" (defArgs s_look_person) (defBody s_look_person) (defScope s_look_person) .none kV_look_person dc_look_person pm_look_person an_look_person cd_look_person ct_look_person,
     F_look_person := funV_mk l_look_person c_look_person k_look_person,
     bd_look_person := (fun_mk (st := s_look_person) l_look_person c_look_person k_look_person).binds (ps := ["row", "person"]) fun _ _ _ _ _ _ us hl => match us, hl with | [_, _], _ => rfl,
     g_middle_of := PySem.W.mg_of X G a_middle_of_middle_of,
     f_middle_of := f_middle_of,
     fd_middle_of := PySem.W.fnOf "middle_of" "middle_of" (defArgs s_middle_of) (defBody s_middle_of) (defScope s_middle_of) .none kV_middle_of dc_middle_of pm_middle_of an_middle_of cd_middle_of ct_middle_of,
     F_middle_of := funV_mk l_middle_of c_middle_of k_middle_of,
     bd_middle_of := (fun_mk (st := s_middle_of) l_middle_of c_middle_of k_middle_of).binds (ps := ["row", "person"]) fun _ _ _ _ _ _ us hl => match us, hl with | [_, _], _ => rfl,
     g_called := PySem.W.mg_of X G a_called_called,
     f_called := f_called,
     fd_called := PySem.W.fnOf "called" "called" (defArgs s_called) (defBody s_called) (defScope s_called) .none kV_called dc_called pm_called an_called cd_called ct_called,
     F_called := funV_mk l_called c_called k_called,
     bd_called := (fun_mk (st := s_called) l_called c_called k_called).binds (ps := ["row", "person"]) fun _ _ _ _ _ _ us hl => match us, hl with | [_, _], _ => rfl,
     f_Hall_call := f_Hall_call,
     fd_Hall_call := PySem.W.fnOf "call" "Hall.call" (defArgs s_Hall_call) (defBody s_Hall_call) (defScope s_Hall_call) .none kV_Hall_call dc_Hall_call pm_Hall_call an_Hall_call cd_Hall_call ct_Hall_call,
     F_Hall_call := funV_mk l_Hall_call c_Hall_call k_Hall_call,
     bd_Hall_call := (fun_mk (st := s_Hall_call) l_Hall_call c_Hall_call k_Hall_call).binds (ps := ["self", "person"]) fun _ _ _ _ _ _ us hl => match us, hl with | [_, _], _ => rfl,
     mt_Hall_call := ⟨a_Hall_call, i_Hall_call, k_Hall_call⟩,
     g_middle := PySem.W.mg_of X G a_middle_middle,
     f_middle := f_middle,
     fd_middle := PySem.W.fnOf "middle" "middle" (defArgs s_middle) (defBody s_middle) (defScope s_middle) .none kV_middle dc_middle pm_middle an_middle cd_middle ct_middle,
     F_middle := funV_mk l_middle c_middle k_middle,
     bd_middle := (fun_mk (st := s_middle) l_middle c_middle k_middle).binds (ps := ["row", "person"]) fun _ _ _ _ _ _ us hl => match us, hl with | [_, _], _ => rfl,
     g__law_same := PySem.W.mg_of X G a__law_same__law_same,
     f__law_same := f__law_same,
     fd__law_same := PySem.W.fnOf "_law_same" "_law_same" (defArgs s__law_same) (defBody s__law_same) (defScope s__law_same) .none kV__law_same dc__law_same pm__law_same an__law_same cd__law_same ct__law_same,
     F__law_same := funV_mk l__law_same c__law_same k__law_same,
     bd__law_same := (fun_mk (st := s__law_same) l__law_same c__law_same k__law_same).binds (ps := ["got", "due"]) fun _ _ _ _ _ _ us hl => match us, hl with | [_, _], _ => rfl,
     g_inner := PySem.W.mg_of X G a_inner_inner,
     f_inner := f_inner,
     fd_inner := PySem.W.fnOf "inner" "inner" (defArgs s_inner) (defBody s_inner) (defScope s_inner) .none kV_inner dc_inner pm_inner an_inner cd_inner ct_inner,
     F_inner := funV_mk l_inner c_inner k_inner,
     bd_inner := (fun_mk (st := s_inner) l_inner c_inner k_inner).binds (ps := ["row"]) fun _ _ _ _ _ _ us hl => match us, hl with | [_], _ => rfl,
     g_tops_rows := PySem.W.mg_of X G a_tops_tops_rows,
     f_tops := f_tops,
     fd_tops := PySem.W.fnOf "tops" "tops" (defArgs s_tops) (defBody s_tops) (defScope s_tops) .none kV_tops dc_tops pm_tops an_tops cd_tops ct_tops,
     F_tops := funV_mk l_tops c_tops k_tops,
     bd_tops := (fun_mk (st := s_tops) l_tops c_tops k_tops).binds (ps := ["row"]) fun _ _ _ _ _ _ us hl => match us, hl with | [_], _ => rfl,
     g_dips_rows := PySem.W.mg_of X G a_dips_dips_rows,
     f_dips := f_dips,
     fd_dips := PySem.W.fnOf "dips" "dips" (defArgs s_dips) (defBody s_dips) (defScope s_dips) .none kV_dips dc_dips pm_dips an_dips cd_dips ct_dips,
     F_dips := funV_mk l_dips c_dips k_dips,
     bd_dips := (fun_mk (st := s_dips) l_dips c_dips k_dips).binds (ps := ["row"]) fun _ _ _ _ _ _ us hl => match us, hl with | [_], _ => rfl,
     g_look_many := PySem.W.mg_of X G a_look_many_look_many,
     f_look_many := f_look_many,
     fd_look_many := PySem.W.fnOf "look_many" "look_many" (defArgs s_look_many) (defBody s_look_many) (defScope s_look_many) .none kV_look_many dc_look_many pm_look_many an_look_many cd_look_many ct_look_many,
     F_look_many := funV_mk l_look_many c_look_many k_look_many,
     bd_look_many := (fun_mk (st := s_look_many) l_look_many c_look_many k_look_many).binds (ps := ["one", "other"]) fun _ _ _ _ _ _ us hl => match us, hl with | [_, _], _ => rfl,
     g_wrong_orders := PySem.W.mg_of X G a_wrong_orders_wrong_orders,
     f_wrong_orders := f_wrong_orders,
     fd_wrong_orders := PySem.W.fnOf "wrong_orders" "wrong_orders" (defArgs s_wrong_orders) (defBody s_wrong_orders) (defScope s_wrong_orders) .none kV_wrong_orders dc_wrong_orders pm_wrong_orders an_wrong_orders cd_wrong_orders ct_wrong_orders,
     F_wrong_orders := funV_mk l_wrong_orders c_wrong_orders k_wrong_orders,
     bd_wrong_orders := (fun_mk (st := s_wrong_orders) l_wrong_orders c_wrong_orders k_wrong_orders).binds (ps := ["one", "other"]) fun _ _ _ _ _ _ us hl => match us, hl with | [_, _], _ => rfl,
     g_wrong_changes := PySem.W.mg_of X G a_wrong_changes_wrong_changes,
     f_wrong_changes := f_wrong_changes,
     fd_wrong_changes := PySem.W.fnOf "wrong_changes" "wrong_changes" (defArgs s_wrong_changes) (defBody s_wrong_changes) (defScope s_wrong_changes) .none kV_wrong_changes dc_wrong_changes pm_wrong_changes an_wrong_changes cd_wrong_changes ct_wrong_changes,
     F_wrong_changes := funV_mk l_wrong_changes c_wrong_changes k_wrong_changes,
     bd_wrong_changes := (fun_mk (st := s_wrong_changes) l_wrong_changes c_wrong_changes k_wrong_changes).binds (ps := ["one", "other"]) fun _ _ _ _ _ _ us hl => match us, hl with | [_, _], _ => rfl,
     g_runs := PySem.W.mg_of X G a_runs_runs,
     f_runs := f_runs,
     fd_runs := PySem.W.fnOf "runs" "runs" (defArgs s_runs) (defBody s_runs) (defScope s_runs) .none kV_runs dc_runs pm_runs an_runs cd_runs ct_runs,
     F_runs := funV_mk l_runs c_runs k_runs,
     bd_runs := (fun_mk (st := s_runs) l_runs c_runs k_runs).binds (ps := ["row"]) fun _ _ _ _ _ _ us hl => match us, hl with | [_], _ => rfl,
     g_stayed := PySem.W.mg_of X G a_stayed_stayed,
     f_stayed := f_stayed,
     fd_stayed := PySem.W.fnOf "stayed" "stayed" (defArgs s_stayed) (defBody s_stayed) (defScope s_stayed) .none kV_stayed dc_stayed pm_stayed an_stayed cd_stayed ct_stayed,
     F_stayed := funV_mk l_stayed c_stayed k_stayed,
     bd_stayed := (fun_mk (st := s_stayed) l_stayed c_stayed k_stayed).binds (ps := ["one", "other", "first", "last"]) fun _ _ _ _ _ _ us hl => match us, hl with | [_, _, _, _], _ => rfl,
     g_wrong_runs := PySem.W.mg_of X G a_wrong_runs_wrong_runs,
     f_wrong_runs := f_wrong_runs,
     fd_wrong_runs := PySem.W.fnOf "wrong_runs" "wrong_runs" (defArgs s_wrong_runs) (defBody s_wrong_runs) (defScope s_wrong_runs) .none kV_wrong_runs dc_wrong_runs pm_wrong_runs an_wrong_runs cd_wrong_runs ct_wrong_runs,
     F_wrong_runs := funV_mk l_wrong_runs c_wrong_runs k_wrong_runs,
     bd_wrong_runs := (fun_mk (st := s_wrong_runs) l_wrong_runs c_wrong_runs k_wrong_runs).binds (ps := ["one", "other"]) fun _ _ _ _ _ _ us hl => match us, hl with | [_, _], _ => rfl,
     g_bar := PySem.W.mg_of X G a_bar_bar,
     f_bar := f_bar,
     fd_bar := PySem.W.fnOf "bar" "bar" (defArgs s_bar) (defBody s_bar) (defScope s_bar) .none kV_bar dc_bar pm_bar an_bar cd_bar ct_bar,
     F_bar := funV_mk l_bar c_bar k_bar,
     bd_bar := (fun_mk (st := s_bar) l_bar c_bar k_bar).binds (ps := ["one", "other"]) fun _ _ _ _ _ _ us hl => match us, hl with | [_, _], _ => rfl,
     g_look_leads := PySem.W.mg_of X G a_look_leads_look_leads,
     f_look_leads := f_look_leads,
     fd_look_leads := PySem.W.fnOf "look_leads" "look_leads" (defArgs s_look_leads) (defBody s_look_leads) (defScope s_look_leads) .none kV_look_leads dc_look_leads pm_look_leads an_look_leads cd_look_leads ct_look_leads,
     F_look_leads := funV_mk l_look_leads c_look_leads k_look_leads,
     bd_look_leads := (fun_mk (st := s_look_leads) l_look_leads c_look_leads k_look_leads).binds (ps := ["one", "other"]) fun _ _ _ _ _ _ us hl => match us, hl with | [_, _], _ => rfl,
     g_changed := PySem.W.mg_of X G a_changed_changed,
     f_changed := f_changed,
     fd_changed := PySem.W.fnOf "changed" "changed" (defArgs s_changed) (defBody s_changed) (defScope s_changed) .none kV_changed dc_changed pm_changed an_changed cd_changed ct_changed,
     F_changed := funV_mk l_changed c_changed k_changed,
     bd_changed := (fun_mk (st := s_changed) l_changed c_changed k_changed).binds (ps := ["one", "other"]) fun _ _ _ _ _ _ us hl => match us, hl with | [_, _], _ => rfl,
     g_distance := PySem.W.mg_of X G a_distance_distance,
     f_distance := f_distance,
     fd_distance := PySem.W.fnOf "distance" "distance" (defArgs s_distance) (defBody s_distance) (defScope s_distance) .none kV_distance dc_distance pm_distance an_distance cd_distance ct_distance,
     F_distance := funV_mk l_distance c_distance k_distance,
     bd_distance := (fun_mk (st := s_distance) l_distance c_distance k_distance).binds (ps := ["one", "other"]) fun _ _ _ _ _ _ us hl => match us, hl with | [_, _], _ => rfl,
     g_leads := PySem.W.mg_of X G a_leads_leads,
     f_leads := f_leads,
     fd_leads := PySem.W.fnOf "leads" "leads" (defArgs s_leads) (defBody s_leads) (defScope s_leads) .none kV_leads dc_leads pm_leads an_leads cd_leads ct_leads,
     F_leads := funV_mk l_leads c_leads k_leads,
     bd_leads := (fun_mk (st := s_leads) l_leads c_leads k_leads).binds (ps := ["one", "other"]) fun _ _ _ _ _ _ us hl => match us, hl with | [_, _], _ => rfl,
     g_run_calling := PySem.W.mg_of X G a_run_run_calling,
     f_run := f_run,
     fd_run := PySem.W.fnOf "run" "run" (defArgs s_run) (defBody s_run) (defScope s_run) .none kV_run dc_run pm_run an_run cd_run ct_run,
     F_run := funV_mk l_run c_run k_run,
     bd_run := (fun_mk (st := s_run) l_run c_run k_run).binds (ps := ["row", "calls"]) fun _ _ _ _ _ _ us hl => match us, hl with | [_, _], _ => rfl,
     g_idle := PySem.W.mg_of X G a_idle_idle,
     f_idle := f_idle,
     fd_idle := PySem.W.fnOf "idle" "idle" (defArgs s_idle) (defBody s_idle) (defScope s_idle) .none kV_idle dc_idle pm_idle an_idle cd_idle ct_idle,
     F_idle := funV_mk l_idle c_idle k_idle,
     bd_idle := (fun_mk (st := s_idle) l_idle c_idle k_idle).binds (ps := ["row", "calls"]) fun _ _ _ _ _ _ us hl => match us, hl with | [_, _], _ => rfl,
     f_Hall_run := f_Hall_run,
     fd_Hall_run := PySem.W.fnOf "run" "Hall.run" (defArgs s_Hall_run) (defBody s_Hall_run) (defScope s_Hall_run) .none kV_Hall_run dc_Hall_run pm_Hall_run an_Hall_run cd_Hall_run ct_Hall_run,
     F_Hall_run := funV_mk l_Hall_run c_Hall_run k_Hall_run,
     bd_Hall_run := (fun_mk (st := s_Hall_run) l_Hall_run c_Hall_run k_Hall_run).binds (ps := ["self", "calls"]) fun _ _ _ _ _ _ us hl => match us, hl with | [_, _], _ => rfl,
     mt_Hall_run := ⟨a_Hall_run, i_Hall_run, k_Hall_run⟩,
     f_Hall_deeds := f_Hall_deeds,
     fd_Hall_deeds := PySem.W.fnOf "deeds" "Hall.deeds" (defArgs s_Hall_deeds) (defBody s_Hall_deeds) (defScope s_Hall_deeds) .none kV_Hall_deeds dc_Hall_deeds pm_Hall_deeds an_Hall_deeds cd_Hall_deeds ct_Hall_deeds,
     F_Hall_deeds := funV_mk l_Hall_deeds c_Hall_deeds k_Hall_deeds,
     bd_Hall_deeds := (fun_mk (st := s_Hall_deeds) l_Hall_deeds c_Hall_deeds k_Hall_deeds).binds (ps := ["self"]) fun _ _ _ _ _ _ us hl => match us, hl with | [_], _ => rfl,
     mt_Hall_deeds := ⟨a_Hall_deeds, i_Hall_deeds, k_Hall_deeds⟩,
     f_Hall_dips := f_Hall_dips,
     fd_Hall_dips := PySem.W.fnOf "dips" "Hall.dips" (defArgs s_Hall_dips) (defBody s_Hall_dips) (defScope s_Hall_dips) .none kV_Hall_dips dc_Hall_dips pm_Hall_dips an_Hall_dips cd_Hall_dips ct_Hall_dips,
     F_Hall_dips := funV_mk l_Hall_dips c_Hall_dips k_Hall_dips,
     bd_Hall_dips := (fun_mk (st := s_Hall_dips) l_Hall_dips c_Hall_dips k_Hall_dips).binds (ps := ["self"]) fun _ _ _ _ _ _ us hl => match us, hl with | [_], _ => rfl,
     mt_Hall_dips := ⟨a_Hall_dips, i_Hall_dips, k_Hall_dips⟩,
     f_Hall_tops := f_Hall_tops,
     fd_Hall_tops := PySem.W.fnOf "tops" "Hall.tops" (defArgs s_Hall_tops) (defBody s_Hall_tops) (defScope s_Hall_tops) .none kV_Hall_tops dc_Hall_tops pm_Hall_tops an_Hall_tops cd_Hall_tops ct_Hall_tops,
     F_Hall_tops := funV_mk l_Hall_tops c_Hall_tops k_Hall_tops,
     bd_Hall_tops := (fun_mk (st := s_Hall_tops) l_Hall_tops c_Hall_tops k_Hall_tops).binds (ps := ["self"]) fun _ _ _ _ _ _ us hl => match us, hl with | [_], _ => rfl,
     mt_Hall_tops := ⟨a_Hall_tops, i_Hall_tops, k_Hall_tops⟩,
     g_at_rest := PySem.W.mg_of X G a_at_rest_at_rest,
     f_at_rest := f_at_rest,
     fd_at_rest := PySem.W.fnOf "at_rest" "at_rest" (defArgs s_at_rest) (defBody s_at_rest) (defScope s_at_rest) .none kV_at_rest dc_at_rest pm_at_rest an_at_rest cd_at_rest ct_at_rest,
     F_at_rest := funV_mk l_at_rest c_at_rest k_at_rest,
     bd_at_rest := (fun_mk (st := s_at_rest) l_at_rest c_at_rest k_at_rest).binds (ps := ["row"]) fun _ _ _ _ _ _ us hl => match us, hl with | [_], _ => rfl,
     g_open_parts := PySem.W.mg_of X G a_open_parts_open_parts,
     f_open_parts := f_open_parts,
     fd_open_parts := PySem.W.fnOf "open_parts" "open_parts" (defArgs s_open_parts) (defBody s_open_parts) (defScope s_open_parts) .none kV_open_parts dc_open_parts pm_open_parts an_open_parts cd_open_parts ct_open_parts,
     F_open_parts := funV_mk l_open_parts c_open_parts k_open_parts,
     bd_open_parts := (fun_mk (st := s_open_parts) l_open_parts c_open_parts k_open_parts).binds (ps := ["one", "other"]) fun _ _ _ _ _ _ us hl => match us, hl with | [_, _], _ => rfl,
     g_parts := PySem.W.mg_of X G a_parts_parts,
     f_parts := f_parts,
     fd_parts := PySem.W.fnOf "parts" "parts" (defArgs s_parts) (defBody s_parts) (defScope s_parts) .none kV_parts dc_parts pm_parts an_parts cd_parts ct_parts,
     F_parts := funV_mk l_parts c_parts k_parts,
     bd_parts := (fun_mk (st := s_parts) l_parts c_parts k_parts).binds (ps := ["one", "other"]) fun _ _ _ _ _ _ us hl => match us, hl with | [_, _], _ => rfl,
     g__law_flat := PySem.W.mg_of X G a__law_flat__law_flat,
     f__law_flat := f__law_flat,
     fd__law_flat := PySem.W.fnOf "_law_flat" "_law_flat" (defArgs s__law_flat) (defBody s__law_flat) (defScope s__law_flat) .none kV__law_flat dc__law_flat pm__law_flat an__law_flat cd__law_flat ct__law_flat,
     F__law_flat := funV_mk l__law_flat c__law_flat k__law_flat,
     bd__law_flat := (fun_mk (st := s__law_flat) l__law_flat c__law_flat k__law_flat).binds (ps := ["rows"]) fun _ _ _ _ _ _ us hl => match us, hl with | [_], _ => rfl,
     g_next_calls := PySem.W.mg_of X G a_next_calls_next_calls,
     f_next_calls := f_next_calls,
     fd_next_calls := PySem.W.fnOf "next_calls" "next_calls" (defArgs s_next_calls) (defBody s_next_calls) (defScope s_next_calls) .none kV_next_calls dc_next_calls pm_next_calls an_next_calls cd_next_calls ct_next_calls,
     F_next_calls := funV_mk l_next_calls c_next_calls k_next_calls,
     bd_next_calls := (fun_mk (st := s_next_calls) l_next_calls c_next_calls k_next_calls).binds (ps := ["some"]) fun _ _ _ _ _ _ us hl => match us, hl with | [_], _ => rfl,
     g_firsts := PySem.W.mg_of X G a_firsts_firsts,
     f_firsts := f_firsts,
     fd_firsts := PySem.W.fnOf "firsts" "firsts" (defArgs s_firsts) (defBody s_firsts) (defScope s_firsts) .none kV_firsts dc_firsts pm_firsts an_firsts cd_firsts ct_firsts,
     F_firsts := funV_mk l_firsts c_firsts k_firsts,
     bd_firsts := (fun_mk (st := s_firsts) l_firsts c_firsts k_firsts).binds (ps := ["one", "other"]) fun _ _ _ _ _ _ us hl => match us, hl with | [_, _], _ => rfl,
     g__law_of := PySem.W.mg_of X G a__law_of__law_of,
     f__law_of := f__law_of,
     fd__law_of := PySem.W.fnOf "_law_of" "_law_of" (defArgs s__law_of) (defBody s__law_of) (defScope s__law_of) .none kV__law_of dc__law_of pm__law_of an__law_of cd__law_of ct__law_of,
     F__law_of := funV_mk l__law_of c__law_of k__law_of,
     bd__law_of := (fun_mk (st := s__law_of) l__law_of c__law_of k__law_of).binds (ps := ["urn", "some"]) fun _ _ _ _ _ _ us hl => match us, hl with | [_, _], _ => rfl,
     g__law_bar := PySem.W.mg_of X G a__law_bar__law_bar,
     f__law_bar := f__law_bar,
     fd__law_bar := PySem.W.fnOf "_law_bar" "_law_bar" (defArgs s__law_bar) (defBody s__law_bar) (defScope s__law_bar) .none kV__law_bar dc__law_bar pm__law_bar an__law_bar cd__law_bar ct__law_bar,
     F__law_bar := funV_mk l__law_bar c__law_bar k__law_bar,
     bd__law_bar := (fun_mk (st := s__law_bar) l__law_bar c__law_bar k__law_bar).binds (ps := ["one", "other"]) fun _ _ _ _ _ _ us hl => match us, hl with | [_, _], _ => rfl,
     f_Hall_go := f_Hall_go,
     fd_Hall_go := PySem.W.fnOf "go" "Hall.go" (defArgs s_Hall_go) (defBody s_Hall_go) (defScope s_Hall_go) .none kV_Hall_go dc_Hall_go pm_Hall_go an_Hall_go cd_Hall_go ct_Hall_go,
     F_Hall_go := funV_mk l_Hall_go c_Hall_go k_Hall_go,
     bd_Hall_go := (fun_mk (st := s_Hall_go) l_Hall_go c_Hall_go k_Hall_go).binds (ps := ["self", "goal"]) fun _ _ _ _ _ _ us hl => match us, hl with | [_, _], _ => rfl,
     mt_Hall_go := ⟨a_Hall_go, i_Hall_go, k_Hall_go⟩,
     g__law_go := PySem.W.mg_of X G a__law_go__law_go,
     f__law_go := f__law_go,
     fd__law_go := PySem.W.fnOf "_law_go" "_law_go" (defArgs s__law_go) (defBody s__law_go) (defScope s__law_go) .none kV__law_go dc__law_go pm__law_go an__law_go cd__law_go ct__law_go,
     F__law_go := funV_mk l__law_go c__law_go k__law_go,
     bd__law_go := (fun_mk (st := s__law_go) l__law_go c__law_go k__law_go).binds (ps := ["hall", "goal"]) fun _ _ _ _ _ _ us hl => match us, hl with | [_, _], _ => rfl,
     f_Hall_undo := f_Hall_undo,
     fd_Hall_undo := PySem.W.fnOf "undo" "Hall.undo" (defArgs s_Hall_undo) (defBody s_Hall_undo) (defScope s_Hall_undo) .none kV_Hall_undo dc_Hall_undo pm_Hall_undo an_Hall_undo cd_Hall_undo ct_Hall_undo,
     F_Hall_undo := funV_mk l_Hall_undo c_Hall_undo k_Hall_undo,
     bd_Hall_undo := (fun_mk (st := s_Hall_undo) l_Hall_undo c_Hall_undo k_Hall_undo).binds (ps := ["self"]) fun _ _ _ _ _ _ us hl => match us, hl with | [_], _ => rfl,
     mt_Hall_undo := ⟨a_Hall_undo, i_Hall_undo, k_Hall_undo⟩,
     f_law := f_law,
     fd_law := PySem.W.fnOf "law" "law" (defArgs s_law) (defBody s_law) (defScope s_law) .none kV_law dc_law pm_law an_law cd_law ct_law,
     F_law := funV_mk l_law c_law k_law,
     bd_law := (fun_mk (st := s_law) l_law c_law k_law).binds (ps := ["script"]) fun _ _ _ _ _ _ us hl => match us, hl with | [_], _ => rfl,
     x_Barred := excC_mk (st := s_Barred_init) bb_runtime (PySem.W.mg_of X G e0_Barred) ⟨⟨_, _, _, _, _, _, _, _, _, _, _, _, _, _, e1_Barred⟩, e2_Barred, e3_Barred, e4_Barred, e5_Barred⟩ e6_Barred e7_Barred (fun_mk e8_Barred e9_Barred ea_Barred) sc_Barred_init eb_Barred ((fun_mk (st := s_Barred_init) e8_Barred e9_Barred ea_Barred).binds (ps := ["self", "reason"]) fun _ _ _ _ _ _ us hl => match us, hl with | [_, _], _ => rfl) fun cdv A outer s H E => pss_cons (ps_expr (pe_binit bb_runtime (by decide +kernel) (by decide +kernel) (by decide +kernel) (by decide) (by decide) rfl (PySem.W.mg_none_of X G ec_Barred) ed_Barred (pa_cons (pv 0) (pa_cons (pv 1) pa_nil)))) (pss_one (ps_ostB bb_runtime (pv 0) (pv 1))),
     x_NoPerson := excC_mk (st := s_NoPerson_init) bb_lookup (PySem.W.mg_of X G e0_NoPerson) ⟨⟨_, _, _, _, _, _, _, _, _, _, _, _, _, _, e1_NoPerson⟩, e2_NoPerson, e3_NoPerson, e4_NoPerson, e5_NoPerson⟩ e6_NoPerson e7_NoPerson (fun_mk e8_NoPerson e9_NoPerson ea_NoPerson) sc_NoPerson_init eb_NoPerson ((fun_mk (st := s_NoPerson_init) e8_NoPerson e9_NoPerson ea_NoPerson).binds (ps := ["self", "person"]) fun _ _ _ _ _ _ us hl => match us, hl with | [_, _], _ => rfl) fun cdv A outer s H E => pss_cons (ps_expr (pe_binit bb_lookup (by decide +kernel) (by decide +kernel) (by decide +kernel) (by decide) (by decide) rfl (PySem.W.mg_none_of X G ec_NoPerson) ed_NoPerson (pa_cons (pv 0) (pa_cons (pv 1) pa_nil)))) (pss_one (ps_ostB bb_lookup (pv 0) (pv 1))),
     x_OtherPeople := excC_mk (st := s_OtherPeople_init) bb_value (PySem.W.mg_of X G e0_OtherPeople) ⟨⟨_, _, _, _, _, _, _, _, _, _, _, _, _, _, e1_OtherPeople⟩, e2_OtherPeople, e3_OtherPeople, e4_OtherPeople, e5_OtherPeople⟩ e6_OtherPeople e7_OtherPeople (fun_mk e8_OtherPeople e9_OtherPeople ea_OtherPeople) sc_OtherPeople_init eb_OtherPeople ((fun_mk (st := s_OtherPeople_init) e8_OtherPeople e9_OtherPeople ea_OtherPeople).binds (ps := ["self", "many"]) fun _ _ _ _ _ _ us hl => match us, hl with | [_, _], _ => rfl) fun cdv A outer s H E => pss_cons (ps_expr (pe_binit bb_value (by decide +kernel) (by decide +kernel) (by decide +kernel) (by decide) (by decide) rfl (PySem.W.mg_none_of X G ec_OtherPeople) ed_OtherPeople (pa_cons (pv 0) (pa_cons (pv 1) pa_nil)))) (pss_one (ps_ostB bb_value (pv 0) (pv 1))),
     gx_Barred := PySem.W.mg_of X G e0_Barred,
     xf_Barred := ⟨g1_Barred, g2_Barred, e3_Barred, g3_Barred⟩,
     xno_Barred := eb_Barred,
     xe_Barred := exm_self e3_Barred g4_Barred e4_Barred g5_Barred } : Cn P w K mg base (fun c => if c = 9 then C_Barred else if c = 0 then C_NoPerson else if c = 4 then C_OtherPeople else 0) HC))) fun vs H Q E q => q HC _
end DL
end
section
set_option maxRecDepth 100000
set_option maxHeartbeats 400000
/-! DE1: how the terms of the data layer are reckoned: one equation a form; loops and comprehensions by what holds between two turns. -/
namespace DL
open PySem PySem.Spec PyProof.Rows L2
/-! ### continuations without binders -/
def seqO (o : Out) (B : TSd) : Out := match o with
  | .nx ρ1 μ1 => B ρ1 μ1
  | o => o
def asgR (r : Res D) (G : D → En → Mu → Res En) (ρ : En) : Out := match r with
  | .ok d μ1 => asgO (G d ρ μ1) ρ
  | .exc c d μ1 => .exc c d ρ μ1
  | .no => .no
def gB (r : Res En) (Gr : List D → En → Mu → Res En) (ds : List D) : Res En := match r with
  | .ok ρ1 μ1 => Gr ds ρ1 μ1
  | .exc c d μ => .exc c d μ
  | .no => .no
def dropO (r : Res D) (ρ : En) : Out := match r with
  | .ok _ μ1 => .nx ρ μ1
  | .exc c d μ1 => .exc c d ρ μ1
  | .no => .no
def retO (r : Res D) (ρ : En) : Out := match r with
  | .ok d μ1 => .rt d μ1
  | .exc c d μ1 => .exc c d ρ μ1
  | .no => .no
def raiO (c : Nat) (r : Res D) (ρ : En) : Out := match r with
  | .ok d μ1 => .exc c d ρ μ1
  | .exc c' d μ1 => .exc c' d ρ μ1
  | .no => .no
def ifsB (b : Bool) (A B : TSd) (ρ : En) (μ : Mu) : Out := match b with
  | true => A ρ μ
  | false => B ρ μ
def ifsO (r : Res Bool) (A B : TSd) (ρ : En) : Out := match r with
  | .ok b μ1 => ifsB b A B ρ μ1
  | .exc c d μ1 => .exc c d ρ μ1
  | .no => .no
def par2O (i j : Nat) (ρ : En) (r : Res (List D)) : Out := match r with
  | .ok [x, y] μ1 => .nx ((ρ.set i (some x)).set j (some y)) μ1
  | .ok _ _ => .no
  | .exc c d μ1 => .exc c d ρ μ1
  | .no => .no
def par3O (i j l : Nat) (ρ : En) (r : Res (List D)) : Out := match r with
  | .ok [x, y, z] μ1 => .nx (((ρ.set i (some x)).set j (some y)).set l (some z)) μ1
  | .ok _ _ => .no
  | .exc c d μ1 => .exc c d ρ μ1
  | .no => .no
def augC (i : Nat) (ρ : En) (r : Res D) : Out := match r with
  | .ok z μ2 => .nx (ρ.set i (some z)) μ2
  | _ => .no
def augB (x : D) (i : Nat) (f : D → D → Mu → Res D) (ρ : En) (r : Res D) : Out := match r with
  | .ok y μ1 => augC i ρ (f x y μ1)
  | .exc c d μ1 => .exc c d ρ μ1
  | .no => .no
def augA (v : Res D) (i : Nat) (f : D → D → Mu → Res D) (ρ : En) (r : Res D) : Out := match v with
  | .ok x _ => augB x i f ρ r
  | _ => .no
def ifeB (b : Bool) (A B : TEd) (ρ : En) (μ : Mu) : Res D := match b with
  | true => A ρ μ
  | false => B ρ μ
def ifeO (r : Res Bool) (A B : TEd) (ρ : En) : Res D := match r with
  | .ok b μ1 => ifeB b A B ρ μ1
  | .exc c d μ1 => .exc c d μ1
  | .no => .no
def andB (b : Bool) (B : TTd) (ρ : En) (μ : Mu) : Res Bool := match b with
  | true => B ρ μ
  | false => .ok false μ
def andO (r : Res Bool) (B : TTd) (ρ : En) : Res Bool := match r with
  | .ok b μ1 => andB b B ρ μ1
  | .exc c d μ1 => .exc c d μ1
  | .no => .no
def orB (b : Bool) (B : TTd) (ρ : En) (μ : Mu) : Res Bool := match b with
  | true => .ok true μ
  | false => B ρ μ
def orO (r : Res Bool) (B : TTd) (ρ : En) : Res Bool := match r with
  | .ok b μ1 => orB b B ρ μ1
  | .exc c d μ1 => .exc c d μ1
  | .no => .no
def notO (r : Res Bool) : Res Bool := match r with
  | .ok b μ1 => .ok (!b) μ1
  | .exc c d μ1 => .exc c d μ1
  | .no => .no
def andvB (b : Bool) (B : TEd) (ρ : En) (μ : Mu) : Res D := match b with
  | true => B ρ μ
  | false => .ok (.bl false) μ
def andvO (r : Res Bool) (B : TEd) (ρ : En) : Res D := match r with
  | .ok b μ1 => andvB b B ρ μ1
  | .exc c d μ1 => .exc c d μ1
  | .no => .no
def orvB (b : Bool) (B : TEd) (ρ : En) (μ : Mu) : Res D := match b with
  | true => .ok (.bl true) μ
  | false => B ρ μ
def orvO (r : Res Bool) (B : TEd) (ρ : En) : Res D := match r with
  | .ok b μ1 => orvB b B ρ μ1
  | .exc c d μ1 => .exc c d μ1
  | .no => .no
def notvO (r : Res Bool) : Res D := match r with
  | .ok b μ1 => .ok (.bl (!b)) μ1
  | .exc c d μ1 => .exc c d μ1
  | .no => .no
def tstO (r : Res D) : Res Bool := match r with
  | .ok d μ1 => asB d μ1
  | .exc c d μ1 => .exc c d μ1
  | .no => .no
def opB (f : D → D → Mu → Res D) (x : D) (r : Res D) : Res D := match r with
  | .ok y μ2 => okR (f x y μ2)
  | .exc c d μ1 => .exc c d μ1
  | .no => .no
def opA (f : D → D → Mu → Res D) (B : TEd) (ρ : En) (r : Res D) : Res D := match r with
  | .ok x μ1 => opB f x (B ρ μ1)
  | .exc c d μ1 => .exc c d μ1
  | .no => .no
def unA (f : D → Mu → Res D) (r : Res D) : Res D := match r with
  | .ok x μ1 => okR (f x μ1)
  | .exc c d μ1 => .exc c d μ1
  | .no => .no
def consB (x : D) (r : Res (List D)) : Res (List D) := match r with
  | .ok ys μ2 => .ok (x :: ys) μ2
  | .exc c d μ1 => .exc c d μ1
  | .no => .no
def consA (R : TAd) (ρ : En) (r : Res D) : Res (List D) := match r with
  | .ok x μ1 => consB x (R ρ μ1)
  | .exc c d μ1 => .exc c d μ1
  | .no => .no
def bnd {α β : Type} (f : α → Mu → Res β) (r : Res α) : Res β := match r with
  | .ok a μ => f a μ
  | .exc c d μ => .exc c d μ
  | .no => .no
def cbA (f : List D → Mu → Res D) (r : Res (List D)) : Res D := match r with
  | .ok xs μ1 => okR (f xs μ1)
  | .exc c d μ1 => .exc c d μ1
  | .no => .no
def callA (n : Nat) (F : FD) (r : Res (List D)) : Res D := match r with
  | .ok ds μ1 => if ds.length = n then F ds μ1 else .no
  | .exc c d μ1 => .exc c d μ1
  | .no => .no
def pRes (r : PR) (μ : Mu) : Res D := match r with
  | .ok d => .ok d μ
  | .exc c d => .exc c d μ
  | .no => .no
def chB (b : Res Bool) (g : D → D → Mu → Res D) (y : D) (C : TEd) (ρ : En) : Res D := match b with
  | .ok true μ3 => opB g y (C ρ μ3)
  | .ok false μ3 => .ok (.bl false) μ3
  | .exc c d μ1 => .exc c d μ1
  | .no => .no
def chA2 (f g : D → D → Mu → Res D) (x : D) (C : TEd) (ρ : En) (r : Res D) : Res D := match r with
  | .ok y μ2 => chB (tstO (okR (f x y μ2))) g y C ρ
  | .exc c d μ1 => .exc c d μ1
  | .no => .no
def chA (f g : D → D → Mu → Res D) (B C : TEd) (ρ : En) (r : Res D) : Res D := match r with
  | .ok x μ1 => chA2 f g x C ρ (B ρ μ1)
  | .exc c d μ1 => .exc c d μ1
  | .no => .no
def forA (G : D → En → Mu → Res En) (B : TSd) (ρ : En) (r : Res (List D)) : Out := match r with
  | .ok items μ1 => forD G B items ρ μ1
  | .exc c d μ1 => .exc c d ρ μ1
  | .no => .no
def lcB (r : Res (List D)) : Res D := match r with
  | .ok l μ2 => .ok (.lst l) μ2
  | .exc c d μ1 => .exc c d μ1
  | .no => .no
def lcA (G : D → En → Mu → Res En) (C : TTd) (B : TEd) (vs : List Nat) (ρ : En) (r : Res (List D)) : Res D := match r with
  | .ok items μ1 => lcB (compD G C B vs ρ items [] μ1)
  | .exc c d μ1 => .exc c d μ1
  | .no => .no
def s1B (o : Option (List D)) (μ : Mu) : Res (List D) := match o with
  | some ds => .ok ds μ
  | none => .no
def s1A (r : Res D) : Res (List D) := match r with
  | .ok d μ1 => s1B (seqD d) μ1
  | .exc c d μ1 => .exc c d μ1
  | .no => .no
def slC (x : D) (lo : Option Int) (r : Res (Option Int)) : Res D := match r with
  | .ok hi μ3 => okR (fSl x lo hi μ3)
  | .exc c d μ1 => .exc c d μ1
  | .no => .no
def slB (x : D) (U : En → Mu → Res (Option Int)) (ρ : En) (r : Res (Option Int)) : Res D := match r with
  | .ok lo μ2 => slC x lo (U ρ μ2)
  | .exc c d μ1 => .exc c d μ1
  | .no => .no
def slA (L U : En → Mu → Res (Option Int)) (ρ : En) (r : Res D) : Res D := match r with
  | .ok x μ1 => slB x U ρ (L ρ μ1)
  | .exc c d μ1 => .exc c d μ1
  | .no => .no
def lstcA (r : Res (List D)) : Res D := match r with
  | .ok xs μ1 => if xs.length ≤ lim then .ok (.cel μ1.length) (μ1 ++ [.lst xs]) else .no
  | .exc c d μ1 => .exc c d μ1
  | .no => .no
def mtB (f : List D → List D → Option (D × List D)) (x : D) (r : Res (List D)) : Res D := match r with
  | .ok xs μ2 => okR (onCel f x xs μ2)
  | .exc c d μ1 => .exc c d μ1
  | .no => .no
def mtA (f : List D → List D → Option (D × List D)) (T : TAd) (ρ : En) (r : Res D) : Res D := match r with
  | .ok x μ1 => if isCelL x μ1 = true then mtB f x (T ρ μ1) else .no
  | .exc c d μ1 => .exc c d μ1
  | .no => .no
def mt0A (f : List D → List D → Option (D × List D)) (r : Res D) : Res D := match r with
  | .ok x μ1 => okR (onCel f x [] μ1)
  | .exc c d μ1 => .exc c d μ1
  | .no => .no
def isiA (p : D → Bool) (r : Res D) : Res D := match r with
  | .ok d μ1 => if tyOk μ1 d = true then .ok (.bl (p d)) μ1 else .no
  | .exc c d μ1 => .exc c d μ1
  | .no => .no
def frzB (i : Nat) (k : Nat) (c : Option Cell) (T : TSd) (ρ : En) (μ : Mu) : Out := match c with
  | some (.lst ds) => T (ρ.set i (some (.lst ds))) (μ.set k .dead)
  | _ => .no
def frzA (i : Nat) (v : Res D) (T : TSd) (ρ : En) (μ : Mu) : Out := match v with
  | .ok (.cel k) _ => frzB i k μ[k]? T ρ μ
  | _ => .no
def orTB (b : Option Bool) (x : D) (B : TEd) (ρ : En) (μ : Mu) : Res D := match b with
  | some true => .ok x μ
  | some false => B ρ μ
  | none => .no
def orTA (B : TEd) (ρ : En) (r : Res D) : Res D := match r with
  | .ok x μ1 => orTB (truD μ1 x) x B ρ μ1
  | .exc c d μ1 => .exc c d μ1
  | .no => .no
def sub4 (o : Option Nat) (k : Nat) (ds : List D) (d : D) (ρ : En) (μ : Mu) : Res En := match o with
  | some j => .ok ρ (μ.set k (.lst (ds.set j d)))
  | none => .no
def sub3 (c : Option Cell) (k : Nat) (i : Int) (d : D) (ρ : En) (μ : Mu) : Res En := match c with
  | some (.lst ds) => sub4 (ixN ds.length i) k ds d ρ μ
  | _ => .no
def sub2 (x : D) (d : D) (ρ : En) (r : Res D) : Res En := match r with
  | .ok (.int i) μ2 => (match x with
    | .cel k => sub3 μ2[k]? k i d ρ μ2
    | _ => .no)
  | _ => .no
def sub1 (Ti : TEd) (d : D) (ρ : En) (r : Res D) : Res En := match r with
  | .ok x μ1 => sub2 x d ρ (Ti ρ μ1)
  | _ => .no
def rglB (tup : Bool) (o : Option (List D)) (μ : Mu) : Res D := match o with
  | some ds => .ok (if tup = true then .tup ds else .lst ds) μ
  | none => .no
def rglA (tup : Bool) (r : Res (List D)) : Res D := match r with
  | .ok [.int i, .int j] μ1 => rglB tup (rgList i j) μ1
  | .ok _ _ => .no
  | .exc c d μ1 => .exc c d μ1
  | .no => .no
def ssB (o : Option (List Int)) (μ : Mu) : Res D := match o with
  | some ns => if ns.length < 64 then .ok (.lst (nums (sset ns))) μ else .no
  | none => .no
def ssA (r : Res D) : Res D := match r with
  | .ok d μ1 => ssB (numsM μ1 d) μ1
  | .exc c d μ1 => .exc c d μ1
  | .no => .no
def lsB (o : Option (List Int)) (μ : Mu) : Res D := match o with
  | some ns => if ns.length ≤ 4000 then .ok (.int (sset ns).length) μ else .no
  | none => .no
def lsA (r : Res D) : Res D := match r with
  | .ok d μ1 => lsB (numsM μ1 d) μ1
  | .exc c d μ1 => .exc c d μ1
  | .no => .no
section
variable {ρ : En} {μ μ1 : Mu} {i j l n : Nat} {a b x y z d : D} {ds r : List D} {T A B C : TEd} {S U : TSd} {R P : TAd} {M N : TTd} {c : Nat} {o : Option D} {G : D → En → Mu → Res En} {Gr : List D → En → Mu → Res En} {f g : D → D → Mu → Res D}
theorem ev_var0 : xVar 0 (some d :: ρ) μ = .ok d μ := rfl
theorem ev_varS : xVar (i + 1) (o :: ρ) μ = xVar i ρ μ := rfl
theorem ev_c : xC d ρ μ = .ok d μ := rfl
theorem ev_seq : xSeq S U ρ μ = seqO (S ρ μ) U := rfl
theorem ev_asg : xAsg T G ρ μ = asgR (T ρ μ) G ρ := rfl
theorem ev_gname : xgName i d ρ μ = .ok (ρ.set i (some d)) μ := rfl
theorem ev_gnil : xgNil [] ρ μ = .ok ρ μ := rfl
theorem ev_gcons : xgCons G Gr (d :: r) ρ μ = gB (G d ρ μ) Gr r := by
  unfold xgCons gB
  dsimp only
  cases G d ρ μ <;> rfl
theorem ev_gtup1 : xgTup 1 Gr (.tup [a]) ρ μ = Gr [a] ρ μ := rfl
theorem ev_gtup2 : xgTup 2 Gr (.tup [a, b]) ρ μ = Gr [a, b] ρ μ := rfl
theorem ev_gtup3 : xgTup 3 Gr (.tup [a, b, x]) ρ μ = Gr [a, b, x] ρ μ := rfl
theorem ev_gtup4 : xgTup 4 Gr (.tup [a, b, x, y]) ρ μ = Gr [a, b, x, y] ρ μ := rfl
theorem ev_drop : xDrop T ρ μ = dropO (T ρ μ) ρ := rfl
theorem ev_ret : xRet T ρ μ = retO (T ρ μ) ρ := rfl
theorem ev_retN : xRetN ρ μ = .rt .non μ := rfl
theorem ev_next : xNext ρ μ = .nx ρ μ := rfl
theorem ev_brk : xBreak ρ μ = .bk ρ μ := rfl
theorem ev_cont : xCont ρ μ = .ct ρ μ := rfl
theorem ev_raise : xRaise c T ρ μ = raiO c (T ρ μ) ρ := rfl
theorem ev_ifs : xIfS M S U ρ μ = ifsO (M ρ μ) S U ρ := by
  unfold xIfS ifsO
  cases M ρ μ with
  | ok b μ1 => cases b <;> rfl
  | _ => rfl
theorem ev_par2 : xPar i j R ρ μ = par2O i j ρ (R ρ μ) := rfl
theorem ev_par3 : xPar3 i j l R ρ μ = par3O i j l ρ (R ρ μ) := rfl
theorem ev_aug : xAug i f T ρ μ = augA (xVar i ρ μ) i f ρ (T ρ μ) := by
  unfold xAug xVar
  cases ρ[i]? with
  | none => rfl
  | some o =>
    cases o with
    | none => rfl
    | some x =>
      show _ = augB x i f ρ (T ρ μ)
      cases T ρ μ <;> rfl
theorem ev_if : xIf M A B ρ μ = ifeO (M ρ μ) A B ρ := by
  unfold xIf ifeO
  cases M ρ μ with
  | ok b μ1 => cases b <;> rfl
  | _ => rfl
theorem ev_test : xTest T ρ μ = tstO (T ρ μ) := by
  unfold xTest tstO
  cases T ρ μ <;> rfl
theorem ev_and : xAnd M N ρ μ = andO (M ρ μ) N ρ := by
  unfold xAnd andO
  cases M ρ μ with
  | ok b μ1 => cases b <;> rfl
  | _ => rfl
theorem ev_or : xOr M N ρ μ = orO (M ρ μ) N ρ := by
  unfold xOr orO
  cases M ρ μ with
  | ok b μ1 => cases b <;> rfl
  | _ => rfl
theorem ev_not : xNot M ρ μ = notO (M ρ μ) := by
  unfold xNot notO
  cases M ρ μ <;> rfl
theorem ev_andv : xAndV A B ρ μ = andvO (xTest A ρ μ) B ρ := by
  unfold xAndV andvO
  cases xTest A ρ μ with
  | ok b μ1 => cases b <;> rfl
  | _ => rfl
theorem ev_orv : xOrV A B ρ μ = orvO (xTest A ρ μ) B ρ := by
  unfold xOrV orvO
  cases xTest A ρ μ with
  | ok b μ1 => cases b <;> rfl
  | _ => rfl
theorem ev_notv : xNotV A ρ μ = notvO (xTest A ρ μ) := by
  unfold xNotV notvO
  cases xTest A ρ μ <;> rfl
theorem ev_op : xOp f A B ρ μ = opA f B ρ (A ρ μ) := by
  unfold xOp opA
  cases A ρ μ with
  | ok x μ1 =>
    show (B ρ μ1).bind _ = opB f x (B ρ μ1)
    cases B ρ μ1 <;> rfl
  | _ => rfl
theorem ev_un {f : D → Mu → Res D} : xUn f A ρ μ = unA f (A ρ μ) := by
  unfold xUn unA
  cases A ρ μ <;> rfl
theorem ev_nil : xNil ρ μ = .ok [] μ := rfl
theorem ev_cons : xCons A R ρ μ = consA R ρ (A ρ μ) := by
  unfold xCons consA
  cases A ρ μ with
  | ok x μ1 =>
    show (R ρ μ1).bind _ = consB x (R ρ μ1)
    cases R ρ μ1 <;> rfl
  | _ => rfl
theorem ev_tup : xTup R ρ μ = bnd mkTup (R ρ μ) := by
  unfold xTup bnd
  cases R ρ μ <;> rfl
theorem ev_lst : xLst R ρ μ = bnd mkLst (R ρ μ) := by
  unfold xLst bnd
  cases R ρ μ <;> rfl
theorem ev_lstC : xLstC R ρ μ = lstcA (R ρ μ) := by
  unfold xLstC lstcA
  cases R ρ μ <;> rfl
theorem ev_cb {f : List D → Mu → Res D} : xCB f R ρ μ = cbA f (R ρ μ) := by
  unfold xCB cbA
  cases R ρ μ <;> rfl
theorem ev_call {F : FD} : xCall n F R ρ μ = callA n F (R ρ μ) := by
  unfold xCall callA
  cases R ρ μ <;> rfl
theorem ev_chain : xChain f g A B C ρ μ = chA f g B C ρ (A ρ μ) := by
  unfold xChain chA
  cases A ρ μ with
  | ok x μ1 =>
    show (B ρ μ1).bind _ = chA2 f g x C ρ (B ρ μ1)
    cases B ρ μ1 with
    | ok y μ2 =>
      show ((okR (f x y μ2)).bind asB).bind _ = chB (tstO (okR (f x y μ2))) g y C ρ
      have e : (okR (f x y μ2)).bind asB = tstO (okR (f x y μ2)) := by cases okR (f x y μ2) <;> rfl
      rw [e]
      cases tstO (okR (f x y μ2)) with
      | ok b μ3 =>
        cases b with
        | true =>
          show (C ρ μ3).bind _ = opB g y (C ρ μ3)
          cases C ρ μ3 <;> rfl
        | false => rfl
      | _ => rfl
    | _ => rfl
  | _ => rfl
theorem ev_for {I : En → Mu → Res (List D)} : xFor I G S ρ μ = forA G S ρ (I ρ μ) := by
  unfold xFor forA
  cases I ρ μ <;> rfl
theorem ev_lc {I : En → Mu → Res (List D)} {vs : List Nat} : xLc I G M B vs ρ μ = lcA G M B vs ρ (I ρ μ) := by
  unfold xLc lcA
  cases I ρ μ with
  | ok items μ1 =>
    show (compD G M B vs ρ items [] μ1).bind _ = lcB (compD G M B vs ρ items [] μ1)
    cases compD G M B vs ρ items [] μ1 <;> rfl
  | _ => rfl
theorem ev_s1 : xSeq1 T ρ μ = s1A (T ρ μ) := by
  unfold xSeq1 s1A
  cases T ρ μ with
  | ok d μ1 =>
    show (match seqD d with | some ds => Res.ok ds μ1 | none => .no) = s1B (seqD d) μ1
    cases seqD d <;> rfl
  | _ => rfl
theorem ev_rg1 : xRg1 R ρ μ = bnd rg1 (R ρ μ) := by
  unfold xRg1 bnd
  cases R ρ μ <;> rfl
theorem ev_rg2 : xRg2 R ρ μ = bnd rg2 (R ρ μ) := by
  unfold xRg2 bnd
  cases R ρ μ <;> rfl
def enA (ds : List D) (μ : Mu) : Res (List D) := .ok (enD ds) μ
theorem ev_en : xEn T ρ μ = bnd enA (xSeq1 T ρ μ) := by
  unfold xEn bnd
  cases xSeq1 T ρ μ <;> rfl
theorem ev_zp : xZp R ρ μ = bnd zp2 (R ρ μ) := by
  unfold xZp bnd
  cases R ρ μ <;> rfl
theorem ev_ez : xEz R ρ μ = bnd enA (bnd zp2 (R ρ μ)) := by
  unfold xEz bnd
  cases R ρ μ with
  | ok ds μ1 =>
    show (zp2 ds μ1).bind _ = _
    dsimp only
    cases zp2 ds μ1 <;> rfl
  | _ => rfl
theorem ev_sl {L U : En → Mu → Res (Option Int)} : xSl T L U ρ μ = slA L U ρ (T ρ μ) := by
  unfold xSl slA
  cases T ρ μ with
  | ok x μ1 =>
    show (L ρ μ1).bind _ = slB x U ρ (L ρ μ1)
    cases L ρ μ1 with
    | ok lo μ2 =>
      show (U ρ μ2).bind _ = slC x lo (U ρ μ2)
      cases U ρ μ2 <;> rfl
    | _ => rfl
  | _ => rfl
theorem ev_noPart : xNoPart ρ μ = .ok none μ := rfl
theorem ev_part : xPart T ρ μ = bnd asPart (T ρ μ) := by
  unfold xPart bnd
  cases T ρ μ <;> rfl
theorem ev_mt {f : List D → List D → Option (D × List D)} : xMt f T R ρ μ = mtA f R ρ (T ρ μ) := by
  unfold xMt mtA
  cases T ρ μ with
  | ok x μ1 =>
    show (if isCelL x μ1 = true then (R ρ μ1).bind _ else Res.no) = if isCelL x μ1 = true then mtB f x (R ρ μ1) else .no
    have e : ((R ρ μ1).bind fun xs μ2 => okR (onCel f x xs μ2)) = mtB f x (R ρ μ1) := by cases R ρ μ1 <;> rfl
    rw [e]
  | _ => rfl
theorem ev_mt0 {f : List D → List D → Option (D × List D)} : xMt0 f T ρ μ = mt0A f (T ρ μ) := by
  unfold xMt0 mt0A
  cases T ρ μ <;> rfl
theorem ev_isi {p : D → Bool} : xIsi p T ρ μ = isiA p (T ρ μ) := by
  unfold xIsi isiA
  cases T ρ μ <;> rfl
theorem ev_frz : xFrz i S ρ μ = frzA i (xVar i ρ μ) S ρ μ := by
  unfold xFrz xVar
  cases ρ[i]? with
  | none => rfl
  | some o =>
    cases o with
    | none => rfl
    | some x =>
      cases x with
      | cel k =>
        show (match μ[k]? with | some (.lst ds) => _ | _ => _) = frzB i k μ[k]? S ρ μ
        cases μ[k]? with
        | none => rfl
        | some c => cases c <;> rfl
      | _ => rfl
theorem ev_orT : xOrT A B ρ μ = orTA B ρ (A ρ μ) := by
  unfold xOrT orTA
  cases A ρ μ with
  | ok x μ1 =>
    show (match truD μ1 x with | some b => (if b = true then Res.ok x μ1 else B ρ μ1) | none => Res.no) = orTB (truD μ1 x) x B ρ μ1
    cases truD μ1 x with
    | none => rfl
    | some b => cases b <;> rfl
  | _ => rfl
theorem ev_gsub : xgSub A B d ρ μ = sub1 B d ρ (A ρ μ) := by
  unfold xgSub sub1
  cases A ρ μ with
  | ok x μ1 =>
    dsimp only
    unfold sub2
    cases B ρ μ1 with
    | ok e μ2 =>
      cases e with
      | int i =>
        cases x with
        | cel k =>
          dsimp only
          unfold sub3 sub4
          cases μ2[k]? with
          | none => rfl
          | some c =>
            cases c with
            | lst ds =>
              first
                | rfl
                | (dsimp only; cases ixN ds.length i <;> rfl)
            | _ => rfl
        | _ => rfl
      | _ => rfl
    | _ => rfl
  | _ => rfl
theorem ev_rgl {tup : Bool} : xRgL tup R ρ μ = rglA tup (R ρ μ) := by
  unfold xRgL rglA
  cases R ρ μ with
  | ok ds μ1 =>
    show (match ds with | [.int i, .int j] => _ | _ => _) = _
    split
    · rename_i i j
      show (match rgList i j with | some ds => _ | none => _) = rglB tup (rgList i j) μ1
      cases rgList i j <;> rfl
    · rename_i h
      split
      · rename_i q
        cases q
        exact absurd rfl (h _ _)
      · rfl
      · rename_i q
        cases q
      · rename_i q
        cases q
  | _ => rfl
theorem ev_sortSet : xSortSet A ρ μ = ssA (A ρ μ) := by
  unfold xSortSet ssA
  cases A ρ μ with
  | ok d μ1 =>
    show (match numsM μ1 d with | some ns => _ | none => _) = ssB (numsM μ1 d) μ1
    cases numsM μ1 d <;> rfl
  | _ => rfl
theorem ev_lenSet : xLenSet A ρ μ = lsA (A ρ μ) := by
  unfold xLenSet lsA
  cases A ρ μ with
  | ok d μ1 =>
    show (match numsM μ1 d with | some ns => _ | none => _) = lsB (numsM μ1 d) μ1
    cases numsM μ1 d <;> rfl
  | _ => rfl
theorem ev_yes : xYes ρ μ = .ok true μ := rfl
theorem ev_call1 {F : FD} : callA 1 F (.ok [a] μ) = F [a] μ := rfl
theorem ev_call2 {F : FD} : callA 2 F (.ok [a, b] μ) = F [a, b] μ := rfl
theorem ev_call3 {F : FD} : callA 3 F (.ok [a, b, x] μ) = F [a, b, x] μ := rfl
theorem ev_call4 {F : FD} : callA 4 F (.ok [a, b, x, y] μ) = F [a, b, x, y] μ := rfl
theorem ev_call5 {F : FD} : callA 5 F (.ok [a, b, x, y, z] μ) = F [a, b, x, y, z] μ := rfl
theorem ev_call6 {F : FD} {u : D} : callA 6 F (.ok [a, b, x, y, z, u] μ) = F [a, b, x, y, z, u] μ := rfl
theorem ev_lift {F : List D → PR} : liftP F ds μ = pRes (F ds) μ := by
  unfold liftP pRes
  cases F ds <;> rfl
theorem ev_lstc {xs : List D} (h : xs.length ≤ lim) : lstcA (.ok xs μ) = .ok (.cel μ.length) (μ ++ [.lst xs]) := by
  show (if xs.length ≤ lim then _ else _) = _
  rw [if_pos h]
end
end DL
end
section
set_option maxRecDepth 100000
set_option maxHeartbeats 400000
/-! DE2: equations of the continuations; sequences of ints; loops and comprehensions by what holds between two turns. -/
namespace DL
open PySem PySem.Spec PyProof.Rows L2
def andP (t : Bool) (r : Res Bool) (μ : Mu) : Res Bool := match t with
  | true => r
  | false => .ok false μ
def orP (t : Bool) (r : Res Bool) (μ : Mu) : Res Bool := match t with
  | true => .ok true μ
  | false => r
def andvP (t : Bool) (r : Res D) (μ : Mu) : Res D := match t with
  | true => r
  | false => .ok (.bl false) μ
def orvP (t : Bool) (r : Res D) (μ : Mu) : Res D := match t with
  | true => .ok (.bl true) μ
  | false => r
section
variable {ρ ρ1 : En} {μ μ1 μ2 : Mu} {i j l n k m : Nat} {a b x y z d u : D} {ds xs ys r : List D} {T A B C : TEd} {S U : TSd} {R P : TAd} {M N : TTd} {c : Nat} {o : Option D} {G : D → En → Mu → Res En} {Gr : List D → En → Mu → Res En} {f g : D → D → Mu → Res D} {p q : Int} {L H : En → Mu → Res (Option Int)}
theorem c_seq : seqO (.nx ρ μ) S = S ρ μ := rfl
theorem c_seqR : seqO (.rt d μ) S = .rt d μ := rfl
theorem c_seqX : seqO (.exc c d ρ μ) S = .exc c d ρ μ := rfl
theorem c_seqB : seqO (.bk ρ μ) S = .bk ρ μ := rfl
theorem c_seqC : seqO (.ct ρ μ) S = .ct ρ μ := rfl
theorem c_asg : asgR (.ok d μ) G ρ = asgO (G d ρ μ) ρ := rfl
theorem c_asgX : asgR (.exc c d μ) G ρ = .exc c d ρ μ := rfl
theorem c_asgo : asgO (.ok ρ1 μ) ρ = .nx ρ1 μ := rfl
theorem c_gB : gB (.ok ρ μ) Gr ds = Gr ds ρ μ := rfl
theorem c_drop : dropO (.ok d μ) ρ = .nx ρ μ := rfl
theorem c_dropX : dropO (.exc c d μ) ρ = .exc c d ρ μ := rfl
theorem c_ret : retO (.ok d μ) ρ = .rt d μ := rfl
theorem c_retX : retO (.exc c d μ) ρ = .exc c d ρ μ := rfl
theorem c_rai : raiO c (.ok d μ) ρ = .exc c d ρ μ := rfl
theorem c_ifs : ifsO (.ok true μ) S U ρ = S ρ μ := rfl
theorem c_ifsF : ifsO (.ok false μ) S U ρ = U ρ μ := rfl
theorem c_par2 : par2O i j ρ (.ok [x, y] μ) = .nx ((ρ.set i (some x)).set j (some y)) μ := rfl
theorem c_par3 : par3O i j l ρ (.ok [x, y, z] μ) = .nx (((ρ.set i (some x)).set j (some y)).set l (some z)) μ := rfl
theorem c_augA : augA (.ok x μ1) i f ρ (.ok y μ) = augC i ρ (f x y μ) := rfl
theorem c_augC : augC i ρ (.ok z μ) = .nx (ρ.set i (some z)) μ := rfl
theorem c_ife : ifeO (.ok true μ) A B ρ = A ρ μ := rfl
theorem c_ifeF : ifeO (.ok false μ) A B ρ = B ρ μ := rfl
theorem c_and {t : Bool} : andO (.ok t μ) N ρ = andP t (N ρ μ) μ := by cases t <;> rfl
theorem c_andP {t v : Bool} : andP t (.ok v μ) μ = .ok (t && v) μ := by cases t <;> rfl
theorem c_andPt {r : Res Bool} : andP true r μ = r := rfl
theorem c_andPf {r : Res Bool} : andP false r μ = .ok false μ := rfl
theorem c_or {t : Bool} : orO (.ok t μ) N ρ = orP t (N ρ μ) μ := by cases t <;> rfl
theorem c_orP {t v : Bool} : orP t (.ok v μ) μ = .ok (t || v) μ := by cases t <;> rfl
theorem c_orPt {r : Res Bool} : orP true r μ = .ok true μ := rfl
theorem c_orPf {r : Res Bool} : orP false r μ = r := rfl
theorem c_not {t : Bool} : notO (.ok t μ) = .ok (!t) μ := rfl
theorem c_andv {t : Bool} : andvO (.ok t μ) B ρ = andvP t (B ρ μ) μ := by cases t <;> rfl
theorem c_andvP {t v : Bool} : andvP t (.ok (.bl v) μ) μ = .ok (.bl (t && v)) μ := by cases t <;> rfl
theorem c_andvPt {r : Res D} : andvP true r μ = r := rfl
theorem c_andvPf {r : Res D} : andvP false r μ = .ok (.bl false) μ := rfl
theorem c_orv {t : Bool} : orvO (.ok t μ) B ρ = orvP t (B ρ μ) μ := by cases t <;> rfl
theorem c_orvP {t v : Bool} : orvP t (.ok (.bl v) μ) μ = .ok (.bl (t || v)) μ := by cases t <;> rfl
theorem c_orvPt {r : Res D} : orvP true r μ = .ok (.bl true) μ := rfl
theorem c_orvPf {r : Res D} : orvP false r μ = r := rfl
theorem c_notv {t : Bool} : notvO (.ok t μ) = .ok (.bl (!t)) μ := rfl
theorem c_tst {t : Bool} : tstO (.ok (.bl t) μ) = .ok t μ := rfl
theorem c_tstX : tstO (.exc c d μ) = .exc c d μ := rfl
theorem c_opA : opA f B ρ (.ok x μ) = opB f x (B ρ μ) := rfl
theorem c_opB : opB f x (.ok y μ) = okR (f x y μ) := rfl
theorem c_opAX : opA f B ρ (.exc c d μ) = .exc c d μ := rfl
theorem c_opBX : opB f x (.exc c d μ) = .exc c d μ := rfl
theorem c_unA {f : D → Mu → Res D} : unA f (.ok x μ) = okR (f x μ) := rfl
theorem c_okR : okR (.ok x μ) = .ok x μ := rfl
theorem c_consA : consA R ρ (.ok x μ) = consB x (R ρ μ) := rfl
theorem c_consB : consB x (.ok ys μ) = .ok (x :: ys) μ := rfl
theorem c_consAX : consA R ρ (.exc c d μ) = .exc c d μ := rfl
theorem c_consBX : consB x (.exc c d μ) = .exc c d μ := rfl
theorem c_bnd {α β : Type} {f : α → Mu → Res β} {v : α} : bnd f (.ok v μ) = f v μ := rfl
theorem c_bndX {α β : Type} {f : α → Mu → Res β} : bnd f (.exc c d μ) = .exc c d μ := rfl
theorem c_cbA {f : List D → Mu → Res D} : cbA f (.ok xs μ) = okR (f xs μ) := rfl
theorem c_cbAX {f : List D → Mu → Res D} : cbA f (.exc c d μ) = .exc c d μ := rfl
theorem c_pRes : pRes (.ok d) μ = .ok d μ := rfl
theorem c_pResX : pRes (.exc c d) μ = .exc c d μ := rfl
theorem c_chA : chA f g B C ρ (.ok x μ) = chA2 f g x C ρ (B ρ μ) := rfl
theorem c_chA2 : chA2 f g x C ρ (.ok y μ) = chB (tstO (okR (f x y μ))) g y C ρ := rfl
theorem c_chB {t : Bool} : chB (.ok t μ) g y C ρ = andvP t (opB g y (C ρ μ)) μ := by cases t <;> rfl
theorem c_forA : forA G S ρ (.ok xs μ) = forD G S xs ρ μ := rfl
theorem c_forAX : forA G S ρ (.exc c d μ) = .exc c d ρ μ := rfl
theorem c_lcA {vs : List Nat} : lcA G M B vs ρ (.ok xs μ) = lcB (compD G M B vs ρ xs [] μ) := rfl
theorem c_lcB : lcB (.ok xs μ) = .ok (.lst xs) μ := rfl
theorem c_s1A : s1A (.ok d μ) = s1B (seqD d) μ := rfl
theorem c_s1AX : s1A (.exc c d μ) = .exc c d μ := rfl
theorem c_s1B : s1B (some ds) μ = .ok ds μ := rfl
theorem c_seqDt : seqD (.tup ds) = some ds := rfl
theorem c_seqDl : seqD (.lst ds) = some ds := rfl
theorem c_enA : enA ds μ = .ok (enD ds) μ := rfl
theorem c_zp {x y : D} (h1 : seqD x = some xs) (h2 : seqD y = some ys) : zp2 [x, y] μ = .ok (zpD xs ys) μ := by
  unfold zp2
  dsimp only
  rw [h1, h2]
theorem c_slA : slA L H ρ (.ok x μ) = slB x H ρ (L ρ μ) := rfl
theorem c_slB {t : Option Int} : slB x H ρ (.ok t μ) = slC x t (H ρ μ) := rfl
theorem c_slC {t v : Option Int} : slC x t (.ok v μ) = okR (fSl x t v μ) := rfl
theorem c_asPart : asPart (.int p) μ = .ok (some p) μ := rfl
theorem c_rg1 (h : rgOk p = true) : rg1 [.int p] μ = .ok (rgD 0 p.toNat) μ := by
  unfold rg1
  dsimp only
  rw [if_pos h]
theorem c_rg2 (h1 : rgOk p = true) (h2 : rgOk q = true) : rg2 [.int p, .int q] μ = .ok (rgD p (q - p).toNat) μ := by
  unfold rg2
  dsimp only
  rw [if_pos ⟨h1, h2⟩]
theorem rgOk_i (h1 : -1000000 ≤ p) (h2 : p ≤ 1000000) : rgOk p = true := by
  unfold rgOk
  rw [Bool.and_eq_true]
  exact ⟨decide_eq_true (by omega), decide_eq_true (by omega)⟩
theorem c_tup0 : mkTup [] μ = .ok (.tup []) μ := rfl
theorem c_tup1 : mkTup [a] μ = .ok (.tup [a]) μ := rfl
theorem c_tup2 : mkTup [a, b] μ = .ok (.tup [a, b]) μ := rfl
theorem c_tup3 : mkTup [a, b, x] μ = .ok (.tup [a, b, x]) μ := rfl
theorem c_tup4 : mkTup [a, b, x, y] μ = .ok (.tup [a, b, x, y]) μ := rfl
theorem c_mkLst (h : xs.length ≤ lim) : mkLst xs μ = .ok (.lst xs) μ := by
  unfold mkLst
  rw [if_pos h]
theorem c_lst0 : mkLst [] μ = .ok (.lst []) μ := rfl
theorem c_lst1 : mkLst [a] μ = .ok (.lst [a]) μ := rfl
theorem c_lst2 : mkLst [a, b] μ = .ok (.lst [a, b]) μ := rfl
theorem c_lst3 : mkLst [a, b, x] μ = .ok (.lst [a, b, x]) μ := rfl
theorem c_lst4 : mkLst [a, b, x, y] μ = .ok (.lst [a, b, x, y]) μ := rfl
theorem c_lst5 : mkLst [a, b, x, y, z] μ = .ok (.lst [a, b, x, y, z]) μ := rfl
theorem c_lst6 : mkLst [a, b, x, y, z, u] μ = .ok (.lst [a, b, x, y, z, u]) μ := rfl
theorem c_lstC0 : lstcA (.ok [] μ) = .ok (.cel μ.length) (μ ++ [.lst []]) := rfl
theorem c_lstC1 : lstcA (.ok [a] μ) = .ok (.cel μ.length) (μ ++ [.lst [a]]) := rfl
theorem c_lstC3 : lstcA (.ok [a, b, x] μ) = .ok (.cel μ.length) (μ ++ [.lst [a, b, x]]) := rfl
/-! ### ints -/
theorem c_fI {g : Int → Int → D} : fI cT g (.int p) (.int q) μ = .ok (g p q) μ := rfl
theorem c_fI' {c : Int → Int → Bool} {g : Int → Int → D} (h : c p q = true) : fI c g (.int p) (.int q) μ = .ok (g p q) μ := by
  show (if c p q = true then _ else _) = _
  rw [if_pos h]
theorem c_mod (h : 0 < q) : fMod (.int p) (.int q) μ = .ok (.int (p % q)) μ := c_fI' (decide_eq_true h)
theorem c_mulL (h1 : -(2 ^ 64) < p) (h2 : p < 2 ^ 64) : fMulI (.int p) (.int q) μ = .ok (.int (p * q)) μ := c_fI' (by
  unfold cMul
  rw [decide_eq_true (⟨h1, h2⟩ : -(2 ^ 64) < p ∧ p < 2 ^ 64)]
  rfl)
theorem c_mulR (h1 : -(2 ^ 64) < q) (h2 : q < 2 ^ 64) : fMulI (.int p) (.int q) μ = .ok (.int (p * q)) μ := c_fI' (by
  unfold cMul
  rw [decide_eq_true (⟨h1, h2⟩ : -(2 ^ 64) < q ∧ q < 2 ^ 64), Bool.or_true]
  rfl)
theorem log_lt {j : Int} (h0 : 0 < j) (h : j < 2 ^ 1000) : j.natAbs.log2 < 9000 := by
  have h1 : j.natAbs < 2 ^ 1000 := by omega
  have h2 := (Nat.log2_lt (n := j.natAbs) (k := 1000) (by omega)).mpr h1
  omega
theorem c_div (h0 : 0 < q) (h : q < 2 ^ 1000) : fDiv (.int p) (.int q) μ = .ok (.int (p / q)) μ := c_fI' (by
  unfold cDivW
  rw [decide_eq_true h0, decide_eq_true (log_lt h0 h)]
  rfl)
theorem c_addI : fAdd (.int p) (.int q) μ = .ok (.int (p + q)) μ := rfl
theorem c_neg : fNeg (.int p) μ = .ok (.int (-p)) μ := rfl
theorem c_abs : fAbs [.int p] μ = .ok (.int (if p < 0 then -p else p)) μ := rfl
theorem c_int1 : fInt1 [.int p] μ = .ok (.int p) μ := rfl
theorem c_int1b {t : Bool} : fInt1 [.bl t] μ = .ok (.int (if t then 1 else 0)) μ := rfl
theorem c_int1T : fInt1 [.bl true] μ = .ok (.int 1) μ := rfl
theorem c_int1F : fInt1 [.bl false] μ = .ok (.int 0) μ := rfl
theorem c_max2 : fMax2 [.int p, .int q] μ = .ok (.int (max p q)) μ := by
  show Res.ok (D.int (if q > p then q else p)) μ = _
  rw [show (if q > p then q else p) = max p q by
    by_cases h : q > p
    · rw [if_pos h]; omega
    · rw [if_neg h]; omega]
theorem c_min2 : fMin2 [.int p, .int q] μ = .ok (.int (min p q)) μ := by
  show Res.ok (D.int (if q < p then q else p)) μ = _
  rw [show (if q < p then q else p) = min p q by
    by_cases h : q < p
    · rw [if_pos h]; omega
    · rw [if_neg h]; omega]
/-! ### None, is -/
theorem c_isN : fIsN x .non μ = .ok (.bl (isNon x)) μ := rfl
theorem c_notN : fNotN x .non μ = .ok (.bl (!isNon x)) μ := rfl
theorem c_isNn : isNon .non = true := rfl
theorem c_isNi : isNon (.int p) = false := rfl
theorem c_isNb {t : Bool} : isNon (.bl t) = false := rfl
theorem c_isNt : isNon (.tup ds) = false := rfl
theorem c_isNl : isNon (.lst ds) = false := rfl
theorem c_isNs {t : Str} : isNon (.str t) = false := rfl
theorem c_isB {t v : Bool} : fIsB (.bl t) (.bl v) μ = .ok (.bl (decide (t = v))) μ := rfl
theorem c_notB {t v : Bool} : fNotB (.bl t) (.bl v) μ = .ok (.bl (!decide (t = v))) μ := rfl
end
/-! ### sequences of ints -/
/-- a tuple (true) or a list (false) of ints -/
def sq (b : Bool) (r : List Int) : D := match b with
  | true => .tup (nums r)
  | false => .lst (nums r)
/-- an item by its place -/
def gN (r : List Int) (p : Nat) : Int := r.getD p 0
def gi (r : List Int) (i : Int) : Int := r.getD i.toNat 0
theorem gi_nat {r : List Int} {p : Nat} : gi r (p : Int) = gN r p := by simp [gi, gN]
theorem gi_pred {r : List Int} {p : Nat} : gi r ((p : Int) - 1) = gN r (p - 1) := by
  unfold gi gN
  rw [show ((p : Int) - 1).toNat = p - 1 by omega]
theorem gi_succ {r : List Int} {p : Nat} : gi r ((p : Int) + 1) = gN r (p + 1) := by
  unfold gi gN
  rw [show ((p : Int) + 1).toNat = p + 1 by omega]
theorem gi_zero {r : List Int} : gi r 0 = gN r 0 := rfl
theorem gN_lt {r : List Int} {p : Nat} (h : p < r.length) : r[p]? = some (gN r p) := by
  simp [gN, List.getD, h]
section
variable {b c : Bool} {r s : List Int} {μ : Mu} {i j p : Int}
theorem noCels_nums : ∀ r : List Int, noCels (nums r) = true
  | [] => rfl
  | x :: r => by
    show noCels (.int x :: nums r) = true
    unfold noCels noCel
    rw [noCels_nums r]
    rfl
theorem noCel_sq : noCel (sq b r) = true := by
  cases b <;> (unfold sq noCel; exact noCels_nums r)
theorem seqD_sq : seqD (sq b r) = some (nums r) := by cases b <;> rfl
theorem seqM_sq : seqM μ (sq b r) = some (nums r) := by cases b <;> rfl
theorem intsD_nums : ∀ r : List Int, intsD (nums r) = some r
  | [] => rfl
  | x :: r => by
    show (intsD (nums r)).map (x :: ·) = some (x :: r)
    rw [intsD_nums r]
    rfl
theorem len_sq : fLen [sq b r] μ = .ok (.int r.length) μ := by
  cases b <;> (show Res.ok (D.int ((nums r).length : Nat)) μ = _; rw [List.length_map])
theorem atI_nums (h0 : 0 ≤ i) (h1 : i < r.length) : atI (nums r) i = some (.int (gi r i)) := by
  have h2 : i < (nums r).length := by rw [List.length_map]; exact h1
  have e : ixN (nums r).length i = some i.toNat := by
    unfold ixN
    rw [if_pos h0, if_pos h2]
  unfold atI
  rw [e]
  show (nums r)[i.toNat]? = _
  have h3 : i.toNat < r.length := by omega
  rw [List.getElem?_map, gN_lt h3]
  rfl
theorem ix_sq (h0 : 0 ≤ i) (h1 : i < r.length) : fIx (sq b r) (.int i) μ = .ok (.int (gi r i)) μ := by
  cases b <;> (unfold fIx sq; dsimp only; unfold seqM; dsimp only; rw [atI_nums h0 h1])
theorem atI_last (h : 0 < r.length) : atI (nums r) (-1) = some (.int (gN r (r.length - 1))) := by
  have e : ixN (nums r).length (-1) = some (r.length - 1) := by
    unfold ixN
    rw [if_neg (by omega), if_pos (by rw [List.length_map]; omega), List.length_map]
    rw [show (-1 + (r.length : Int)).toNat = r.length - 1 by omega]
  unfold atI
  rw [e]
  show (nums r)[r.length - 1]? = _
  rw [List.getElem?_map, gN_lt (by omega)]
  rfl
theorem tuple_sq : fTuple [sq b r] μ = .ok (sq true r) μ := by cases b <;> rfl
theorem list_sq : fList [sq b r] μ = .ok (sq false r) μ := by cases b <;> rfl
theorem listC_sq : fListC [sq b r] μ = .ok (.cel μ.length) (μ ++ [.lst (nums r)]) := by cases b <;> rfl
theorem numsM_sq : numsM μ (sq b r) = some r := by
  unfold numsM
  rw [seqM_sq]
  exact intsD_nums r
theorem sorted_sq : fSortedA [sq b r] μ = .ok (sq false (isort r)) μ := by
  unfold fSortedA
  dsimp only
  rw [numsM_sq]
  rfl
theorem ss_sq (h : r.length < 64) : ssA (.ok (sq b r) μ) = .ok (sq false (sset r)) μ := by
  show ssB (numsM μ (sq b r)) μ = _
  rw [numsM_sq]
  show (if r.length < 64 then _ else _) = _
  rw [if_pos h]
  rfl
theorem ls_sq (h : r.length ≤ 4000) : lsA (.ok (sq b r) μ) = .ok (.int (sset r).length) μ := by
  show lsB (numsM μ (sq b r)) μ = _
  rw [numsM_sq]
  show (if r.length ≤ 4000 then _ else _) = _
  rw [if_pos h]
theorem onInts_sq {f : List Int → Option D} {d : D} (h : f r = some d) : fOnInts f [sq false r] μ = .ok d μ := by
  show (if false = true then Res.no else match intsD (nums r) with
      | some ns => (match f ns with
        | some z => Res.ok z μ
        | none => .no)
      | none => .no) = _
  rw [if_neg (by decide), intsD_nums]
  dsimp only
  rw [h]
theorem sum_sq : fSumL [sq false r] μ = .ok (.int r.sum) μ := onInts_sq rfl
def cutL (r : List Int) (lo hi : Option Int) : List Int := (r.drop (HT.sIx r.length 0 lo)).take (HT.sIx r.length r.length hi - HT.sIx r.length 0 lo)
theorem cut_nums (lo hi : Option Int) : cutD (nums r) lo hi = nums (cutL r lo hi) := by
  unfold cutD cutL
  simp only [List.length_map, nums, List.map_take, List.map_drop]
theorem sl_sq {lo hi : Option Int} : fSl (sq b r) lo hi μ = .ok (sq b (cutL r lo hi)) μ := by
  cases b
  · show Res.ok (if isTup (.lst (nums r)) = true then D.tup (cutD (nums r) lo hi) else .lst (cutD (nums r) lo hi)) μ = _
    rw [if_neg (fun z => Bool.noConfusion z), cut_nums]
    rfl
  · show Res.ok (if isTup (.tup (nums r)) = true then D.tup (cutD (nums r) lo hi) else .lst (cutD (nums r) lo hi)) μ = _
    rw [if_pos (show isTup (D.tup (nums r)) = true from rfl), cut_nums]
    rfl
theorem cutL_to (h : 0 ≤ i) : cutL r none (some i) = r.take i.toNat := by
  unfold cutL HT.sIx
  dsimp only
  rw [if_neg (by omega), List.drop_zero]
  by_cases z : i.toNat ≤ r.length
  · rw [Nat.min_eq_left z]; rfl
  · rw [Nat.min_eq_right (by omega), Nat.sub_zero, List.take_length, List.take_of_length_le (by omega)]
theorem cutL_from (h : 0 ≤ i) : cutL r (some i) none = r.drop i.toNat := by
  unfold cutL HT.sIx
  dsimp only
  rw [if_neg (by omega)]
  by_cases z : i.toNat ≤ r.length
  · rw [Nat.min_eq_left z]
    exact List.take_of_length_le (by rw [List.length_drop]; omega)
  · rw [Nat.min_eq_right (by omega), Nat.sub_self, List.take_zero, List.drop_of_length_le (by omega)]
theorem cutL_mid (h : 0 ≤ i) (h2 : 0 ≤ j) : cutL r (some i) (some j) = (r.drop i.toNat).take (j.toNat - i.toNat) := by
  unfold cutL HT.sIx
  dsimp only
  rw [if_neg (by omega), if_neg (by omega)]
  by_cases z : i.toNat ≤ r.length
  · rw [Nat.min_eq_left z]
    by_cases z2 : j.toNat ≤ r.length
    · rw [Nat.min_eq_left z2]
    · rw [Nat.min_eq_right (by omega), List.take_of_length_le (by rw [List.length_drop]; omega), List.take_of_length_le (by rw [List.length_drop]; omega)]
  · rw [Nat.min_eq_right (a := i.toNat) (by omega), List.drop_of_length_le (Nat.le_refl _), List.drop_of_length_le (by omega)]
    simp
theorem add_sqT (h : r.length + s.length ≤ lim) : fAdd (sq true r) (sq true s) μ = .ok (sq true (r ++ s)) μ := by
  show (if (nums r).length + (nums s).length ≤ lim then Res.ok (D.tup (nums r ++ nums s)) μ else .no) = _
  rw [if_pos (by rw [List.length_map, List.length_map]; exact h)]
  show _ = Res.ok (D.tup (nums (r ++ s))) μ
  simp only [nums, List.map_append]
theorem add_sqL (h : r.length + s.length ≤ lim) : fAdd (sq false r) (sq false s) μ = .ok (sq false (r ++ s)) μ := by
  show (if isTup (D.lst (nums r)) = false ∧ isTup (D.lst (nums s)) = false ∧ (nums r).length + (nums s).length ≤ lim then Res.ok (D.lst (nums r ++ nums s)) μ else .no) = _
  rw [if_pos ⟨rfl, rfl, by rw [List.length_map, List.length_map]; exact h⟩]
  show _ = Res.ok (D.lst (nums (r ++ s))) μ
  simp only [nums, List.map_append]
theorem flat_nums : ∀ r : List Int, (nums r).all flatD = true
  | [] => rfl
  | x :: r => by
    show (flatD (.int x) && (nums r).all flatD) = true
    rw [flat_nums r]
    rfl
theorem inF_nums : ∀ r : List Int, inF (.int i) (nums r) = decide (i ∈ r)
  | [] => rfl
  | x :: r => by
    show (eqF (.int x) (.int i) || inF (.int i) (nums r)) = _
    rw [inF_nums r]
    show (x == i || decide (i ∈ r)) = _
    by_cases h : i = x
    · subst h
      simp
    · simp [h, Ne.symm h]
theorem in_sq : fIn false (.int i) (sq b r) μ = .ok (.bl (decide (i ∈ r))) μ := by
  unfold fIn
  rw [seqM_sq]
  dsimp only
  rw [flat_nums, inF_nums, if_pos (show (flatD (D.int i) && true) = true from rfl), if_neg (by decide)]
theorem notin_sq : fIn true (.int i) (sq b r) μ = .ok (.bl (!decide (i ∈ r))) μ := by
  unfold fIn
  rw [seqM_sq]
  dsimp only
  rw [flat_nums, inF_nums, if_pos (show (flatD (D.int i) && true) = true from rfl), if_pos rfl]
theorem isTup_sq : isTup (sq b r) = b := by cases b <;> rfl
theorem isNon_sq : isNon (sq b r) = false := by cases b <;> rfl
/-! equality of plain things -/
theorem toPys_nums : ∀ r : List Int, toPys (nums r) = some (r.map PyData.int)
  | [] => by
    show toPys [] = _
    unfold toPys
    rfl
  | x :: r => by
    show toPys (.int x :: nums r) = _
    unfold toPys toPy
    rw [toPys_nums r]
    rfl
theorem canLay_ints : ∀ r : List Int, PyData.canLayAll0 (r.map PyData.int) = true
  | [] => by
    show PyData.canLayAll0 [] = true
    unfold PyData.canLayAll0
    rfl
  | x :: r => by
    show PyData.canLayAll0 (.int x :: r.map PyData.int) = true
    unfold PyData.canLayAll0 PyData.canLay0
    rw [canLay_ints r]
    rfl
theorem eqvAll_ints : ∀ r s : List Int, PyData.eqvAll (r.map PyData.int) (s.map PyData.int) = decide (r = s)
  | [], [] => by
    show PyData.eqvAll [] [] = _
    unfold PyData.eqvAll
    rfl
  | x :: r, [] => by
    show PyData.eqvAll (_ :: _) [] = _
    unfold PyData.eqvAll
    simp
  | [], x :: r => by
    show PyData.eqvAll [] (_ :: _) = _
    unfold PyData.eqvAll
    simp
  | x :: r, y :: s => by
    show PyData.eqvAll (.int x :: r.map PyData.int) (.int y :: s.map PyData.int) = _
    unfold PyData.eqvAll PyData.eqv
    rw [eqvAll_ints r s]
    by_cases h : x = y <;> by_cases h2 : r = s <;> simp [h, h2]
end
end DL
end
section
set_option maxRecDepth 100000
set_option maxHeartbeats 400000
/-! DE3: codes of typed values as data; loops and comprehensions. -/
namespace DL
open PySem PySem.Spec PyProof.Rows L2
/-- how the values of a type stand as data, told apart by == -/
structure Co (α : Type) [DecidableEq α] where
  en : α → D
  py : α → PyData
  dep : Nat
  toPy : ∀ a, toPy (en a) = some (py a)
  lay : ∀ a, PyData.canLay0 (py a) = true
  depth : ∀ a, (py a).depth ≤ dep
  eqv : ∀ a b, PyData.eqv (py a) (py b) = decide (a = b)
  noc : ∀ a, noCel (en a) = true
section
variable {α β : Type} [DecidableEq α] [DecidableEq β]
theorem toPyM_of {μ : Mu} {d : D} {p : PyData} (h : toPy d = some p) : toPyM μ d = some p := by
  cases d <;> first | exact h | (unfold DL.toPy at h; cases h)
theorem Co.shaped (c : Co α) (h : c.dep ≤ 64) (a : α) : SeqAt.shaped (c.py a) = true := by
  unfold SeqAt.shaped
  rw [c.lay a, decide_eq_true (Nat.le_trans (c.depth a) h)]
  rfl
theorem Co.eq (c : Co α) (a b : α) {μ : Mu} (h : c.dep ≤ 64 := by decide) : fEq (c.en a) (c.en b) μ = .ok (.bl (decide (a = b))) μ := by
  unfold fEq eqM
  rw [toPyM_of (c.toPy a), toPyM_of (c.toPy b)]
  dsimp only
  rw [c.shaped h a, c.shaped h b, if_pos (show (true && true) = true from rfl), c.eqv a b]
theorem Co.ne (c : Co α) (a b : α) {μ : Mu} (h : c.dep ≤ 64 := by decide) : fNe (c.en a) (c.en b) μ = .ok (.bl (!decide (a = b))) μ := by
  unfold fNe eqM
  rw [toPyM_of (c.toPy a), toPyM_of (c.toPy b)]
  dsimp only
  rw [c.shaped h a, c.shaped h b, if_pos (show (true && true) = true from rfl), c.eqv a b]
theorem Co.toPys (c : Co α) : ∀ xs : List α, DL.toPys (xs.map c.en) = some (xs.map c.py)
  | [] => by
    show DL.toPys [] = _
    unfold DL.toPys
    rfl
  | x :: r => by
    show DL.toPys (c.en x :: r.map c.en) = _
    unfold DL.toPys
    rw [c.toPy x, Co.toPys c r]
    rfl
theorem Co.lays (c : Co α) : ∀ xs : List α, PyData.canLayAll0 (xs.map c.py) = true
  | [] => by
    show PyData.canLayAll0 [] = true
    unfold PyData.canLayAll0
    rfl
  | x :: r => by
    show PyData.canLayAll0 (c.py x :: r.map c.py) = true
    unfold PyData.canLayAll0
    rw [c.lay x, Co.lays c r]
    rfl
theorem Co.depths (c : Co α) : ∀ xs : List α, PyData.depthAll (xs.map c.py) ≤ c.dep
  | [] => by
    show PyData.depthAll [] ≤ _
    unfold PyData.depthAll
    exact Nat.zero_le _
  | x :: r => by
    show PyData.depthAll (c.py x :: r.map c.py) ≤ _
    unfold PyData.depthAll
    exact Nat.max_le.mpr ⟨c.depth x, Co.depths c r⟩
theorem Co.eqvs (c : Co α) : ∀ xs ys : List α, PyData.eqvAll (xs.map c.py) (ys.map c.py) = decide (xs = ys)
  | [], [] => by
    show PyData.eqvAll [] [] = _
    unfold PyData.eqvAll
    rfl
  | x :: r, [] => by
    show PyData.eqvAll (_ :: _) [] = _
    unfold PyData.eqvAll
    simp
  | [], x :: r => by
    show PyData.eqvAll [] (_ :: _) = _
    unfold PyData.eqvAll
    simp
  | x :: r, y :: s => by
    show PyData.eqvAll (c.py x :: r.map c.py) (c.py y :: s.map c.py) = _
    unfold PyData.eqvAll
    rw [c.eqv x y, Co.eqvs c r s]
    by_cases h : x = y <;> by_cases h2 : r = s <;> simp [h, h2]
theorem Co.nocs (c : Co α) : ∀ xs : List α, noCels (xs.map c.en) = true
  | [] => rfl
  | x :: r => by
    show noCels (c.en x :: r.map c.en) = true
    unfold noCels
    rw [c.noc x, Co.nocs c r]
    rfl
def coI : Co Int := ⟨.int, .int, 0, fun _ => by unfold DL.toPy; rfl, fun _ => by unfold PyData.canLay0; rfl, fun _ => by unfold PyData.depth; exact Nat.le_refl _, fun a b => by
  unfold PyData.eqv
  by_cases h : a = b <;> simp [h], fun _ => rfl⟩
def coB : Co Bool := ⟨.bl, .bool, 0, fun _ => by unfold DL.toPy; rfl, fun _ => by unfold PyData.canLay0; rfl, fun _ => by unfold PyData.depth; exact Nat.le_refl _, fun a b => by
  unfold PyData.eqv
  cases a <;> cases b <;> rfl, fun _ => rfl⟩
def coL (c : Co α) : Co (List α) := ⟨fun xs => .lst (xs.map c.en), fun xs => .list (xs.map c.py), c.dep + 1, fun xs => by
  unfold DL.toPy
  rw [c.toPys xs]
  rfl, fun xs => by
  unfold PyData.canLay0
  exact c.lays xs, fun xs => by
  unfold PyData.depth
  exact Nat.succ_le_succ (c.depths xs), fun xs ys => by
  unfold PyData.eqv
  exact c.eqvs xs ys, fun xs => by
  unfold noCel
  exact c.nocs xs⟩
def coT (c : Co α) : Co (List α) := ⟨fun xs => .tup (xs.map c.en), fun xs => .tuple (xs.map c.py), c.dep + 1, fun xs => by
  unfold DL.toPy
  rw [c.toPys xs]
  rfl, fun xs => by
  unfold PyData.canLay0
  exact c.lays xs, fun xs => by
  unfold PyData.depth
  exact Nat.succ_le_succ (c.depths xs), fun xs ys => by
  unfold PyData.eqv
  exact c.eqvs xs ys, fun xs => by
  unfold noCel
  exact c.nocs xs⟩
def coP (c : Co α) (e : Co β) : Co (α × β) := ⟨fun x => .tup [c.en x.1, e.en x.2], fun x => .tuple [c.py x.1, e.py x.2], max c.dep e.dep + 1, fun x => by
  unfold DL.toPy DL.toPys DL.toPys DL.toPys
  rw [c.toPy, e.toPy]
  rfl, fun x => by
  unfold PyData.canLay0 PyData.canLayAll0 PyData.canLayAll0 PyData.canLayAll0
  rw [c.lay, e.lay]
  rfl, fun x => by
  unfold PyData.depth PyData.depthAll PyData.depthAll PyData.depthAll
  have h1 := c.depth x.1
  have h2 := e.depth x.2
  omega, fun x y => by
  unfold PyData.eqv PyData.eqvAll PyData.eqvAll PyData.eqvAll
  rw [c.eqv, e.eqv]
  obtain ⟨x1, x2⟩ := x
  obtain ⟨y1, y2⟩ := y
  by_cases h : x1 = y1 <;> by_cases h2 : x2 = y2 <;> simp [h, h2], fun x => by
  unfold noCel noCels noCels noCels
  rw [c.noc, e.noc]
  rfl⟩
/-- None, or a value that is never None -/
def coO (c : Co α) (hn : ∀ a, PyData.eqv .none (c.py a) = false ∧ PyData.eqv (c.py a) .none = false) : Co (Option α) := ⟨fun o => match o with | none => .non | some a => c.en a, fun o => match o with | none => .none | some a => c.py a, c.dep, fun o => by
  cases o with
  | none => unfold DL.toPy; rfl
  | some a => exact c.toPy a, fun o => by
  cases o with
  | none => unfold PyData.canLay0; rfl
  | some a => exact c.lay a, fun o => by
  cases o with
  | none =>
    show PyData.depth .none ≤ c.dep
    unfold PyData.depth
    exact Nat.zero_le _
  | some a => exact c.depth a, fun o p => by
  cases o with
  | none =>
    cases p with
    | none => unfold PyData.eqv; rfl
    | some a =>
      show PyData.eqv .none (c.py a) = _
      rw [(hn a).1]
      simp
  | some a =>
    cases p with
    | none =>
      show PyData.eqv (c.py a) .none = _
      rw [(hn a).2]
      simp
    | some b =>
      show PyData.eqv (c.py a) (c.py b) = _
      rw [c.eqv]
      simp, fun o => by
  cases o with
  | none => rfl
  | some a => exact c.noc a⟩
theorem eqv_non_int (a : Int) : PyData.eqv .none (coI.py a) = false ∧ PyData.eqv (coI.py a) .none = false := by
  constructor
  · show PyData.eqv .none (.int a) = false
    unfold PyData.eqv
    rfl
  · show PyData.eqv (.int a) .none = false
    unfold PyData.eqv
    rfl
def coOI : Co (Option Int) := coO coI eqv_non_int
theorem eq_int (a b : Int) {μ : Mu} : fEq (.int a) (.int b) μ = .ok (.bl (decide (a = b))) μ := coI.eq a b
theorem ne_int (a b : Int) {μ : Mu} : fNe (.int a) (.int b) μ = .ok (.bl (!decide (a = b))) μ := coI.ne a b
theorem eq_bl (a b : Bool) {μ : Mu} : fEq (.bl a) (.bl b) μ = .ok (.bl (decide (a = b))) μ := coB.eq a b
theorem ne_bl (a b : Bool) {μ : Mu} : fNe (.bl a) (.bl b) μ = .ok (.bl (!decide (a = b))) μ := coB.ne a b
theorem eq_sq {b : Bool} (r s : List Int) {μ : Mu} : fEq (sq b r) (sq b s) μ = .ok (.bl (decide (r = s))) μ := by
  cases b
  · exact (coL coI).eq r s
  · exact (coT coI).eq r s
theorem ne_sq {b : Bool} (r s : List Int) {μ : Mu} : fNe (sq b r) (sq b s) μ = .ok (.bl (!decide (r = s))) μ := by
  cases b
  · exact (coL coI).ne r s
  · exact (coT coI).ne r s
end
/-! ### a list that is gone through -/
theorem compD_map {α β : Type} {G : D → En → Mu → Res En} {C : TTd} {B : TEd} {vs : List Nat} {ρ : En} {μ : Mu} (e : α → D) (c : α → Bool) (w : α → β) (q : β → D) :
    ∀ (xs : List α) (acc : List D), (∀ x ∈ xs, ∃ ρ1, G (e x) (wipeD ρ vs) μ = .ok ρ1 μ ∧ C ρ1 μ = .ok (c x) μ ∧ (c x = true → B ρ1 μ = .ok (q (w x)) μ)) → acc.length + xs.length ≤ lim →
    compD G C B vs ρ (xs.map e) acc μ = .ok (acc ++ ((xs.filter c).map w).map q) μ
  | [], acc, _, _ => by
    show Res.ok acc μ = _
    simp
  | x :: r, acc, h, hl => by
    obtain ⟨ρ1, h1, h2, h3⟩ := h x (by simp)
    show compD G C B vs ρ (e x :: r.map e) acc μ = _
    unfold compD
    rw [h1]
    dsimp only
    rw [h2]
    dsimp only
    have ht := fun y hy => h y (List.mem_cons_of_mem x hy)
    rw [List.length_cons] at hl
    by_cases hc : c x = true
    · rw [if_pos hc, h3 hc]
      dsimp only
      rw [if_pos (by omega), compD_map e c w q r (acc ++ [q (w x)]) ht (by rw [List.length_append]; simp; omega), List.filter_cons_of_pos hc]
      simp
    · rw [if_neg hc, compD_map e c w q r acc ht (by omega), List.filter_cons_of_neg hc]
/-- the whole comprehension -/
theorem lc_map {α β : Type} {G : D → En → Mu → Res En} {C : TTd} {B : TEd} {vs : List Nat} {ρ : En} {μ : Mu} {xs : List α} {e : α → D} (c : α → Bool) (w : α → β) (q : β → D)
    (h : ∀ x ∈ xs, ∃ ρ1, G (e x) (wipeD ρ vs) μ = .ok ρ1 μ ∧ C ρ1 μ = .ok (c x) μ ∧ (c x = true → B ρ1 μ = .ok (q (w x)) μ)) (hl : xs.length ≤ lim) :
    compD G C B vs ρ (xs.map e) [] μ = .ok (((xs.filter c).map w).map q) μ := by
  rw [compD_map e c w q xs [] h (by simpa using hl)]
  rfl
/-- without a test -/
theorem lc_all {α β : Type} {G : D → En → Mu → Res En} {B : TEd} {vs : List Nat} {ρ : En} {μ : Mu} {xs : List α} {e : α → D} (w : α → β) (q : β → D)
    (h : ∀ x ∈ xs, ∃ ρ1, G (e x) (wipeD ρ vs) μ = .ok ρ1 μ ∧ B ρ1 μ = .ok (q (w x)) μ) (hl : xs.length ≤ lim) :
    compD G xYes B vs ρ (xs.map e) [] μ = .ok ((xs.map w).map q) μ := by
  rw [lc_map (fun _ => true) w q (fun x hx => by
    obtain ⟨ρ1, h1, h2⟩ := h x hx
    exact ⟨ρ1, h1, rfl, fun _ => h2⟩) hl, List.filter_eq_self.mpr (fun _ _ => rfl)]
/-- a comprehension whose element changes what may change: S k before the k-th turn, w tells the items -/
theorem compD_run {α : Type} {G : D → En → Mu → Res En} {B : TEd} {vs : List Nat} {ρ : En} (e : α → D) (S : Nat → List D → Mu → Prop) :
    ∀ (xs : List α) (k : Nat) (acc : List D) (μ : Mu), S k acc μ → (∀ i acc μ, (h : i < xs.length) → S (k + i) acc μ → ∃ ρ1 y μ', G (e xs[i]) (wipeD ρ vs) μ = .ok ρ1 μ ∧ B ρ1 μ = .ok y μ' ∧ acc.length < lim ∧ S (k + i + 1) (acc ++ [y]) μ') →
    ∃ acc' μ', compD G xYes B vs ρ (xs.map e) acc μ = .ok acc' μ' ∧ S (k + xs.length) acc' μ'
  | [], k, acc, μ, h, _ => ⟨acc, μ, rfl, h⟩
  | x :: r, k, acc, μ, h, st => by
    obtain ⟨ρ1, y, μ', h1, h2, h3, h4⟩ := st 0 acc μ (by simp) h
    obtain ⟨acc', μ'', h5, h6⟩ := compD_run e S r (k + 1) (acc ++ [y]) μ' h4 (fun i a m hi hs => by
      have := st (i + 1) a m (by simpa using hi) (by rw [show k + (i + 1) = k + 1 + i by omega]; exact hs)
      rw [show k + (i + 1) + 1 = k + 1 + i + 1 by omega] at this
      simpa using this)
    refine ⟨acc', μ'', ?_, by rw [List.length_cons, show k + (r.length + 1) = k + 1 + r.length by omega]; exact h6⟩
    show compD G xYes B vs ρ (e x :: r.map e) acc μ = _
    have h1' : G (e x) (wipeD ρ vs) μ = .ok ρ1 μ := h1
    unfold compD
    rw [h1']
    dsimp only
    rw [ev_yes]
    dsimp only
    rw [if_pos rfl, h2]
    dsimp only
    rw [if_pos h3]
    exact h5
/-- a loop: what holds before turn k; a turn may also end it -/
theorem forD_post {α : Type} {G : D → En → Mu → Res En} {B : TSd} (e : α → D) (I : Nat → En → Mu → Prop) (Q : Out → Prop) :
    ∀ (xs : List α) (k : Nat) (ρ : En) (μ : Mu), I k ρ μ → (∀ i ρ μ, (h : i < xs.length) → I (k + i) ρ μ → ∃ ρ1 μ1, G (e xs[i]) ρ μ = .ok ρ1 μ1 ∧ (match B ρ1 μ1 with
      | .nx ρ2 μ2 => I (k + i + 1) ρ2 μ2
      | .ct ρ2 μ2 => I (k + i + 1) ρ2 μ2
      | .bk ρ2 μ2 => Q (.nx ρ2 μ2)
      | o => Q o)) → (∀ ρ μ, I (k + xs.length) ρ μ → Q (.nx ρ μ)) → Q (forD G B (xs.map e) ρ μ)
  | [], k, ρ, μ, h, _, q => q ρ μ h
  | x :: r, k, ρ, μ, h, st, q => by
    obtain ⟨ρ1, μ1, h1, h2⟩ := st 0 ρ μ (by simp) h
    have h1' : G (e x) ρ μ = .ok ρ1 μ1 := h1
    show Q (forD G B (e x :: r.map e) ρ μ)
    unfold forD
    rw [h1']
    dsimp only
    have ih := fun ρ2 μ2 (h4 : I (k + 1) ρ2 μ2) => forD_post e I Q r (k + 1) ρ2 μ2 h4 (fun i a m hi hs => by
      have := st (i + 1) a m (by simpa using hi) (by rw [show k + (i + 1) = k + 1 + i by omega]; exact hs)
      rw [show k + (i + 1) + 1 = k + 1 + i + 1 by omega] at this
      simpa using this) (fun a m hs => q a m (by rw [List.length_cons, show k + (r.length + 1) = k + 1 + r.length by omega]; exact hs))
    cases e2 : B ρ1 μ1 with
    | nx ρ2 μ2 =>
      rw [e2] at h2
      exact ih ρ2 μ2 h2
    | ct ρ2 μ2 =>
      rw [e2] at h2
      exact ih ρ2 μ2 h2
    | bk ρ2 μ2 =>
      rw [e2] at h2
      exact h2
    | rt d μ2 =>
      rw [e2] at h2
      exact h2
    | exc c d ρ2 μ2 =>
      rw [e2] at h2
      exact h2
    | no =>
      rw [e2] at h2
      exact h2
/-- what a turn leaves behind -/
def Turn (I : En → Mu → Prop) (Q : Out → Prop) (o : Out) : Prop := match o with
  | .nx ρ2 μ2 => I ρ2 μ2
  | .ct ρ2 μ2 => I ρ2 μ2
  | .bk ρ2 μ2 => Q (.nx ρ2 μ2)
  | o => Q o
theorem turn_nx {I : En → Mu → Prop} {Q : Out → Prop} {ρ : En} {μ : Mu} : Turn I Q (.nx ρ μ) = I ρ μ := rfl
theorem turn_ct {I : En → Mu → Prop} {Q : Out → Prop} {ρ : En} {μ : Mu} : Turn I Q (.ct ρ μ) = I ρ μ := rfl
theorem turn_bk {I : En → Mu → Prop} {Q : Out → Prop} {ρ : En} {μ : Mu} : Turn I Q (.bk ρ μ) = Q (.nx ρ μ) := rfl
theorem turn_rt {I : En → Mu → Prop} {Q : Out → Prop} {d : D} {μ : Mu} : Turn I Q (.rt d μ) = Q (.rt d μ) := rfl
theorem turn_xc {I : En → Mu → Prop} {Q : Out → Prop} {c : Nat} {d : D} {ρ : En} {μ : Mu} : Turn I Q (.exc c d ρ μ) = Q (.exc c d ρ μ) := rfl
/-- over 0, 1, .., n - 1 -/
theorem for_range {G : D → En → Mu → Res En} {B : TSd} {e : Nat → D} {n : Nat} {ρ : En} {μ : Mu} {Q : Out → Prop} (I : Nat → En → Mu → Prop) (h0 : I 0 ρ μ) (st : ∀ i ρ μ, i < n → I i ρ μ → ∃ ρ1 μ1, G (e i) ρ μ = .ok ρ1 μ1 ∧ Turn (I (i + 1)) Q (B ρ1 μ1)) (q : ∀ ρ μ, I n ρ μ → Q (.nx ρ μ)) : Q (forD G B ((List.range n).map e) ρ μ) :=
  forD_post e I Q (List.range n) 0 ρ μ h0 (fun i ρ μ hi h => by
    rw [List.length_range] at hi
    rw [Nat.zero_add] at h ⊢
    have := st i ρ μ hi h
    unfold Turn at this
    simpa using this) fun ρ μ h => q ρ μ (by
    rw [List.length_range, Nat.zero_add] at h
    exact h)
theorem for_list {α : Type} {G : D → En → Mu → Res En} {B : TSd} {e : α → D} {xs : List α} {ρ : En} {μ : Mu} {Q : Out → Prop} (I : Nat → En → Mu → Prop) (h0 : I 0 ρ μ) (st : ∀ i ρ μ, (h : i < xs.length) → I i ρ μ → ∃ ρ1 μ1, G (e xs[i]) ρ μ = .ok ρ1 μ1 ∧ Turn (I (i + 1)) Q (B ρ1 μ1)) (q : ∀ ρ μ, I xs.length ρ μ → Q (.nx ρ μ)) : Q (forD G B (xs.map e) ρ μ) :=
  forD_post e I Q xs 0 ρ μ h0 (fun i ρ μ hi h => by
    rw [Nat.zero_add] at h ⊢
    exact st i ρ μ hi h) fun ρ μ h => q ρ μ (by
    rw [Nat.zero_add] at h
    exact h)
/-! what is gone through, as a map of places -/
theorem rg_map (lo : Int) (n : Nat) : rgD lo n = (List.range n).map fun (i : Nat) => D.int (lo + (i : Int)) := rfl
theorem nums_range (r : List Int) : nums r = (List.range r.length).map fun i => D.int (gN r i) := by
  apply List.ext_getElem?
  intro i
  rw [List.getElem?_map, List.getElem?_map]
  by_cases h : i < r.length
  · rw [List.getElem?_range h, gN_lt h]
    rfl
  · rw [List.getElem?_eq_none (by omega), List.getElem?_eq_none (by simpa using h)]
    rfl
theorem en_nums (r : List Int) : enD (nums r) = (List.range r.length).map fun (i : Nat) => D.tup [.int (i : Int), .int (gN r i)] := by
  apply List.ext_getElem?
  intro i
  unfold enD
  rw [List.getElem?_map, List.getElem?_map, List.getElem?_zipIdx, List.getElem?_map]
  by_cases h : i < r.length
  · rw [List.getElem?_range h, gN_lt h]
    simp
  · rw [List.getElem?_eq_none (show r.length ≤ i by omega), List.getElem?_eq_none (show (List.range r.length).length ≤ i by simpa using h)]
    rfl
theorem zp_nums {r s : List Int} (h : r.length = s.length) : zpD (nums r) (nums s) = (List.range r.length).map fun i => D.tup [.int (gN r i), .int (gN s i)] := by
  apply List.ext_getElem?
  intro i
  unfold zpD
  rw [List.getElem?_zipWith, List.getElem?_map, List.getElem?_map, List.getElem?_map]
  by_cases hi : i < r.length
  · rw [List.getElem?_range hi, gN_lt hi, gN_lt (show i < s.length by omega)]
    rfl
  · rw [List.getElem?_eq_none (show r.length ≤ i by omega), List.getElem?_eq_none (show s.length ≤ i by omega), List.getElem?_eq_none (show (List.range r.length).length ≤ i by simpa using hi)]
    rfl
theorem en_map {n : Nat} (f : Nat → D) : enD ((List.range n).map f) = (List.range n).map fun (i : Nat) => D.tup [.int (i : Int), f i] := by
  apply List.ext_getElem?
  intro i
  unfold enD
  rw [List.getElem?_map, List.getElem?_map, List.getElem?_zipIdx, List.getElem?_map]
  by_cases h : i < n
  · rw [List.getElem?_range h]
    simp
  · rw [List.getElem?_eq_none (show (List.range n).length ≤ i by simpa using h)]
    rfl
/-! the function of a body -/
def stE (n : Nat) (ds : List D) : En := ds.map some ++ List.replicate (n - ds.length) none
theorem stE_cons {n : Nat} {d : D} {r : List D} : stE (n + 1) (d :: r) = some d :: stE n r := by
  unfold stE
  rw [List.length_cons, Nat.add_sub_add_right]
  rfl
theorem stE_nil0 : stE 0 [] = [] := rfl
theorem stE_nilS {n : Nat} : stE (n + 1) [] = none :: stE n [] := rfl
def Rt (d : D) (o : Out) : Prop := ∃ μ, o = .rt d μ
def Nx (o : Out) : Prop := ∃ ρ μ, o = .nx ρ μ
def Xc (c : Nat) (d : D) (o : Out) : Prop := ∃ ρ μ, o = .exc c d ρ μ
theorem rt_rt {d e : D} {μ : Mu} : Rt d (.rt e μ) = (e = d) := propext ⟨fun ⟨_, h⟩ => by cases h; rfl, fun h => ⟨μ, by rw [h]⟩⟩
theorem nx_nx {ρ : En} {μ : Mu} : Nx (.nx ρ μ) = True := propext ⟨fun _ => trivial, fun _ => ⟨ρ, μ, rfl⟩⟩
theorem xc_xc {c k : Nat} {d e : D} {ρ : En} {μ : Mu} : Xc c d (.exc k e ρ μ) = (k = c ∧ e = d) := propext ⟨fun ⟨_, _, h⟩ => by cases h; exact ⟨rfl, rfl⟩, fun ⟨h1, h2⟩ => ⟨ρ, μ, by rw [h1, h2]⟩⟩
theorem fp_rt {n : Nat} {T : TSd} {ds : List D} {d : D} (hc : noCels ds = true) (hd : noCel d = true) (h : Rt d (T (stE n ds) [])) : FP n T ds = .ok d := by
  obtain ⟨μ, e⟩ := h
  unfold stE at e
  unfold FP
  rw [if_pos hc, e]
  dsimp only
  rw [if_pos hd]
theorem fp_nx {n : Nat} {T : TSd} {ds : List D} (hc : noCels ds = true) (h : Nx (T (stE n ds) [])) : FP n T ds = .ok .non := by
  obtain ⟨ρ, μ, e⟩ := h
  unfold stE at e
  unfold FP
  rw [if_pos hc, e]
theorem fp_xc {n : Nat} {T : TSd} {ds : List D} {d : D} {c : Nat} (hc : noCels ds = true) (hd : noCel d = true) (h : Xc c d (T (stE n ds) [])) : FP n T ds = .exc c d := by
  obtain ⟨ρ, μ, e⟩ := h
  unfold stE at e
  unfold FP
  rw [if_pos hc, e]
  dsimp only
  rw [if_pos hd]
/-- on what may change: what comes back, what it is then -/
def RtM (Q : D → Mu → Prop) (o : Out) : Prop := ∃ d μ, o = .rt d μ ∧ Q d μ
def OkM (Q : D → Mu → Prop) (r : Res D) : Prop := ∃ d μ, r = .ok d μ ∧ Q d μ
theorem rtM_rt {Q : D → Mu → Prop} {d : D} {μ : Mu} : RtM Q (.rt d μ) = Q d μ := propext ⟨fun ⟨_, _, h, q⟩ => by cases h; exact q, fun q => ⟨d, μ, rfl, q⟩⟩
theorem okM_ok {Q : D → Mu → Prop} {d : D} {μ : Mu} : OkM Q (.ok d μ) = Q d μ := propext ⟨fun ⟨_, _, h, q⟩ => by cases h; exact q, fun q => ⟨d, μ, rfl, q⟩⟩
theorem fc_rt {n : Nat} {T : TSd} {ds : List D} {μ : Mu} {Q : D → Mu → Prop} (h : RtM Q (T (stE n ds) μ)) : OkM Q (FC n T ds μ) := by
  obtain ⟨d, μ', e, q⟩ := h
  unfold stE at e
  exact ⟨d, μ', by unfold FC; rw [e], q⟩
theorem noCels_nil : noCels [] = true := rfl
theorem noCels_cons {d : D} {ds : List D} : noCels (d :: ds) = (noCel d && noCels ds) := by rw [noCels]
theorem noCel_int {i : Int} : noCel (.int i) = true := rfl
theorem noCel_bl {i : Bool} : noCel (.bl i) = true := rfl
theorem noCel_str {i : Str} : noCel (.str i) = true := rfl
theorem noCel_non : noCel .non = true := rfl
theorem noCel_tup {ds : List D} : noCel (.tup ds) = noCels ds := by rw [noCel]
theorem noCel_lst {ds : List D} : noCel (.lst ds) = noCels ds := by rw [noCel]
theorem noCels_map {α : Type} {f : α → D} (h : ∀ a, noCel (f a) = true) : ∀ xs : List α, noCels (xs.map f) = true
  | [] => rfl
  | x :: r => by
    show noCels (f x :: r.map f) = true
    rw [noCels_cons, h x, noCels_map h r]
    rfl
/-! what may change -/
def forB (o : Out) (G : D → En → Mu → Res En) (B : TSd) (ds : List D) : Out := match o with
  | .nx ρ2 μ2 => forD G B ds ρ2 μ2
  | .ct ρ2 μ2 => forD G B ds ρ2 μ2
  | .bk ρ2 μ2 => .nx ρ2 μ2
  | .rt x μ2 => .rt x μ2
  | .exc c x ρ2 μ2 => .exc c x ρ2 μ2
  | .no => .no
def forG (r : Res En) (G : D → En → Mu → Res En) (B : TSd) (ds : List D) : Out := match r with
  | .ok ρ1 μ1 => forB (B ρ1 μ1) G B ds
  | _ => .no
def mtI (b : Bool) (r : Res D) : Res D := match b with
  | true => r
  | false => .no
def ocC (k : Nat) (μ : Mu) (o : Option (D × List D)) : Res D := match o with
  | some (d, ds) => .ok d (μ.set k (.lst ds))
  | none => .no
def ocB (k : Nat) (f : List D → List D → Option (D × List D)) (xs : List D) (μ : Mu) (c : Option Cell) : Res D := match c with
  | some (.lst ds) => ocC k μ (f ds xs)
  | _ => .no
section
variable {ρ ρ1 : En} {μ μ1 : Mu} {i j k n : Nat} {a b x d e : D} {ds xs : List D} {T A B : TEd} {S : TSd} {R : TAd} {c : Nat} {G : D → En → Mu → Res En} {f : List D → List D → Option (D × List D)} {p : Int} {v : Cell}
theorem ev_forN : forD G S [] ρ μ = .nx ρ μ := rfl
theorem ev_forC : forD G S (d :: ds) ρ μ = forG (G d ρ μ) G S ds := by
  unfold forD forG
  cases G d ρ μ with
  | ok ρ1 μ1 =>
    dsimp only
    unfold forB
    cases S ρ1 μ1 <;> rfl
  | _ => rfl
theorem c_forG : forG (.ok ρ μ) G S ds = forB (S ρ μ) G S ds := rfl
theorem c_forBn : forB (.nx ρ μ) G S ds = forD G S ds ρ μ := rfl
theorem c_forBc : forB (.ct ρ μ) G S ds = forD G S ds ρ μ := rfl
theorem c_forBb : forB (.bk ρ μ) G S ds = .nx ρ μ := rfl
theorem c_forBr : forB (.rt x μ) G S ds = .rt x μ := rfl
theorem c_forBx : forB (.exc c x ρ μ) G S ds = .exc c x ρ μ := rfl
theorem c_frzA : frzA i (.ok (.cel k) μ1) S ρ μ = frzB i k μ[k]? S ρ μ := rfl
theorem c_frzB : frzB i k (some (.lst ds)) S ρ μ = S (ρ.set i (some (.lst ds))) (μ.set k .dead) := rfl
theorem c_mtA : mtA f R ρ (.ok x μ) = mtI (isCelL x μ) (mtB f x (R ρ μ)) := by
  show (if isCelL x μ = true then mtB f x (R ρ μ) else .no) = _
  cases isCelL x μ <;> rfl
theorem c_mtI {r : Res D} : mtI true r = r := rfl
theorem c_mtB : mtB f x (.ok xs μ) = okR (onCel f x xs μ) := rfl
theorem c_mt0 : mt0A f (.ok x μ) = okR (onCel f x [] μ) := rfl
theorem c_cel0 : isCelL (.cel 0) (.lst ds :: μ) = true := rfl
theorem c_celS : isCelL (.cel (k + 1)) (v :: μ) = isCelL (.cel k) μ := rfl
theorem c_onCel : onCel f (.cel k) xs μ = ocB k f xs μ μ[k]? := by
  unfold onCel ocB
  dsimp only
  cases μ[k]? with
  | none => rfl
  | some c =>
    cases c with
    | lst ds =>
      dsimp only
      cases f ds xs <;> rfl
    | _ => rfl
theorem c_ocB : ocB k f xs μ (some (.lst ds)) = ocC k μ (f ds xs) := rfl
theorem c_ocC : ocC k μ (some (d, ds)) = .ok d (μ.set k (.lst ds)) := rfl
theorem b_app (h : ds.length < 100000) : fApp ds [x] = some (.non, ds ++ [x]) := by
  unfold fApp
  dsimp only
  rw [if_pos (show ds.length < lim from h)]
theorem b_ext (h : ds.length + xs.length ≤ 100000) : fExt ds [.lst xs] = some (.non, ds ++ xs) := by
  unfold fExt
  dsimp only
  rw [if_pos (show ds.length + xs.length ≤ lim from h)]
theorem c_sub1 : sub1 B d ρ (.ok x μ) = sub2 x d ρ (B ρ μ) := rfl
theorem c_sub2 : sub2 (.cel k) d ρ (.ok (.int p) μ) = sub3 μ[k]? k p d ρ μ := rfl
theorem c_sub3 : sub3 (some (.lst ds)) k p d ρ μ = sub4 (ixN ds.length p) k ds d ρ μ := rfl
theorem c_sub4 : sub4 (some j) k ds d ρ μ = .ok ρ (μ.set k (.lst (ds.set j d))) := rfl
theorem b_ixN (h0 : 0 ≤ p) (h1 : p < (n : Int)) : ixN n p = some p.toNat := by
  unfold ixN
  rw [if_pos h0, if_pos h1]
theorem c_lenL : fLen [.lst ds] μ = .ok (.int ds.length) μ := rfl
theorem c_lenT : fLen [.tup ds] μ = .ok (.int ds.length) μ := rfl
theorem c_zpsq {t u : Bool} {r s : List Int} : zp2 [sq t r, sq u s] μ = .ok (zpD (nums r) (nums s)) μ := c_zp seqD_sq seqD_sq
theorem c_lst1i {p : Int} : D.lst [.int p] = sq false [p] := rfl
theorem c_lst2i {p q : Int} : D.lst [.int p, .int q] = sq false [p, q] := rfl
theorem c_lst3i {p q r : Int} : D.lst [.int p, .int q, .int r] = sq false [p, q, r] := rfl
theorem zp_zip (r s : List Int) : zpD (nums r) (nums s) = (r.zip s).map fun p => D.tup [.int p.1, .int p.2] := by
  unfold zpD nums
  rw [List.zipWith_map, List.zip, List.map_zipWith]
end
/-! with bounds that omega tells -/
section
variable {μ : Mu} {p q : Int} {r s : List Int} {xs : List D}
theorem b_rg1 (h1 : -1000000 ≤ p) (h2 : p ≤ 1000000) : rg1 [.int p] μ = .ok (rgD 0 p.toNat) μ := c_rg1 (rgOk_i h1 h2)
theorem b_rg2 (h1 : -1000000 ≤ p) (h2 : p ≤ 1000000) (h3 : -1000000 ≤ q) (h4 : q ≤ 1000000) : rg2 [.int p, .int q] μ = .ok (rgD p (q - p).toNat) μ := c_rg2 (rgOk_i h1 h2) (rgOk_i h3 h4)
theorem b_rgl (h1 : -1000000 ≤ p) (h2 : p ≤ 1000000) (h3 : -1000000 ≤ q) (h4 : q ≤ 1000000) (h5 : q - p ≤ 100000) : rgList p q = some (rgD p (q - p).toNat) := by
  unfold rgList
  rw [if_pos ⟨rgOk_i h1 h2, rgOk_i h3 h4, by show _ ≤ 100000; omega⟩]
theorem b_addT (h : r.length + s.length ≤ 100000) : fAdd (sq true r) (sq true s) μ = .ok (sq true (r ++ s)) μ := add_sqT h
theorem b_addL (h : r.length + s.length ≤ 100000) : fAdd (sq false r) (sq false s) μ = .ok (sq false (r ++ s)) μ := add_sqL h
theorem b_mkLst (h : xs.length ≤ 100000) : mkLst xs μ = .ok (.lst xs) μ := c_mkLst h
theorem b_ss (h : r.length < 64) : ssA (.ok (sq b r) μ) = .ok (sq false (sset r)) μ := ss_sq h
theorem c_rgl {ds : List D} : rglB false (some ds) μ = .ok (.lst ds) μ := rfl
theorem c_rglT {ds : List D} : rglB true (some ds) μ = .ok (.tup ds) μ := rfl
theorem c_rglA {t : Bool} : rglA t (.ok [.int p, .int q] μ) = rglB t (rgList p q) μ := rfl
end
theorem fold_L {r : List Int} : D.lst (r.map D.int) = sq false r := rfl
theorem fold_T {r : List Int} : D.tup (r.map D.int) = sq true r := rfl
end DL
end
section
set_option maxRecDepth 100000
set_option maxHeartbeats 400000
/-! DE4: all equations in one. -/
namespace DL
open PySem PySem.Spec PyProof.Rows L2
theorem set0 {a b : Option D} {r : En} : List.set (a :: r) 0 b = b :: r := rfl
theorem setS {a b : Option D} {r : En} {n : Nat} : List.set (a :: r) (n + 1) b = a :: List.set r n b := rfl
theorem lenD0 : ([] : List D).length = 0 := rfl
theorem lenDS {a : D} {r : List D} : (a :: r).length = r.length + 1 := rfl
theorem lenM0 : ([] : Mu).length = 0 := rfl
theorem lenMS {a : Cell} {r : Mu} : (a :: r).length = r.length + 1 := rfl
theorem appM0 {a : Mu} : ([] : Mu) ++ a = a := rfl
theorem appM1 {a : Mu} : a ++ ([] : Mu) = a := List.append_nil a
theorem appMS {a : Cell} {r s : Mu} : (a :: r) ++ s = a :: (r ++ s) := rfl
theorem getM0 {a : Cell} {r : Mu} : (a :: r)[0]? = some a := rfl
theorem getMS {a : Cell} {r : Mu} {n : Nat} : (a :: r)[n + 1]? = r[n]? := rfl
theorem setM0 {a b : Cell} {r : Mu} : List.set (a :: r) 0 b = b :: r := rfl
theorem setMS {a b : Cell} {r : Mu} {n : Nat} : List.set (a :: r) (n + 1) b = a :: List.set r n b := rfl
theorem appE0 {a : En} : ([] : En) ++ a = a := rfl
theorem appES {a : Option D} {r s : En} : (a :: r) ++ s = a :: (r ++ s) := rfl
theorem wipe_nil {ρ : En} : wipeD ρ [] = ρ := rfl
theorem wipe_cons {ρ : En} {v : Nat} {vs : List Nat} : wipeD ρ (v :: vs) = (wipeD ρ vs).set v none := rfl
theorem rep0 {a : Option D} : List.replicate 0 a = [] := rfl
theorem repS {a : Option D} {n : Nat} : List.replicate (n + 1) a = a :: List.replicate n a := rfl
theorem map_some0 : ([] : List D).map some = [] := rfl
theorem map_some1 {a : D} {r : List D} : (a :: r).map some = some a :: r.map some := rfl
def NC := And.intro @noCels_nil (And.intro @noCels_cons (And.intro @noCel_int (And.intro @noCel_bl (And.intro @noCel_str (And.intro @noCel_non (And.intro @noCel_tup (And.intro @noCel_lst (And.intro @noCel_sq (And.intro @noCels_nums Bool.and_self)))))))))
def EC := And.intro @ix_sq (And.intro @c_mod (And.intro @c_div (And.intro @c_mulL (And.intro @c_mulR (And.intro @b_rg1 (And.intro @b_rg2 (And.intro @b_rgl (And.intro @b_addT (And.intro @b_addL (And.intro @b_mkLst (And.intro @ss_sq (And.intro @ls_sq (And.intro @cutL_to (And.intro @cutL_from (And.intro @cutL_mid (And.intro @b_app (And.intro @b_ext @b_ixN)))))))))))))))))
def EV := And.intro @ev_var0 (And.intro @ev_varS (And.intro @ev_c (And.intro @ev_seq (And.intro @ev_asg (And.intro @ev_gname (And.intro @ev_gnil (And.intro @ev_gcons (And.intro @ev_gtup1 (And.intro @ev_gtup2 (And.intro @ev_gtup3 (And.intro @ev_gtup4 (And.intro @ev_drop (And.intro @ev_ret (And.intro @ev_retN (And.intro @ev_next (And.intro @ev_brk (And.intro @ev_cont (And.intro @ev_raise (And.intro @ev_ifs (And.intro @ev_par2 (And.intro @ev_par3 (And.intro @ev_aug (And.intro @ev_if (And.intro @ev_test (And.intro @ev_and (And.intro @ev_or (And.intro @ev_not (And.intro @ev_andv (And.intro @ev_orv (And.intro @ev_notv (And.intro @ev_op (And.intro @ev_un (And.intro @ev_nil (And.intro @ev_cons (And.intro @ev_tup (And.intro @ev_lst (And.intro @ev_lstC (And.intro @ev_cb (And.intro @ev_call (And.intro @ev_chain (And.intro @ev_for (And.intro @ev_lc (And.intro @ev_s1 (And.intro @ev_rg1 (And.intro @ev_rg2 (And.intro @ev_en (And.intro @ev_zp (And.intro @ev_ez (And.intro @ev_sl (And.intro @ev_noPart (And.intro @ev_part (And.intro @ev_mt (And.intro @ev_mt0 (And.intro @ev_isi (And.intro @ev_frz (And.intro @ev_orT (And.intro @ev_gsub (And.intro @ev_rgl (And.intro @ev_sortSet (And.intro @ev_lenSet (And.intro @ev_yes (And.intro @ev_call1 (And.intro @ev_call2 (And.intro @ev_call3 (And.intro @ev_call4 (And.intro @ev_call5 (And.intro @ev_call6 (And.intro @ev_lift (And.intro @ev_forN (And.intro @ev_forC (And.intro @c_seq (And.intro @c_seqR (And.intro @c_seqX (And.intro @c_seqB (And.intro @c_seqC (And.intro @c_asg (And.intro @c_asgX (And.intro @c_asgo (And.intro @c_gB (And.intro @c_drop (And.intro @c_dropX (And.intro @c_ret (And.intro @c_retX (And.intro @c_rai (And.intro @c_ifs (And.intro @c_ifsF (And.intro @c_par2 (And.intro @c_par3 (And.intro @c_augA (And.intro @c_augC (And.intro @c_ife (And.intro @c_ifeF (And.intro @c_and (And.intro @c_andP (And.intro @c_andPt (And.intro @c_andPf (And.intro @c_or (And.intro @c_orP (And.intro @c_orPt (And.intro @c_orPf (And.intro @c_not (And.intro @c_andv (And.intro @c_andvP (And.intro @c_andvPt (And.intro @c_andvPf (And.intro @c_orv (And.intro @c_orvP (And.intro @c_orvPt (And.intro @c_orvPf (And.intro @c_notv (And.intro @c_tst (And.intro @c_tstX (And.intro @c_opA (And.intro @c_opB (And.intro @c_opAX (And.intro @c_opBX (And.intro @c_unA (And.intro @c_okR (And.intro @c_consA (And.intro @c_consB (And.intro @c_consAX (And.intro @c_consBX (And.intro @c_bnd (And.intro @c_bndX (And.intro @c_cbA (And.intro @c_cbAX (And.intro @c_pRes (And.intro @c_pResX (And.intro @c_chA (And.intro @c_chA2 (And.intro @c_chB (And.intro @c_forA (And.intro @c_forAX (And.intro @c_lcA (And.intro @c_lcB (And.intro @c_s1A (And.intro @c_s1AX (And.intro @c_s1B (And.intro @c_seqDt (And.intro @c_seqDl (And.intro @c_enA (And.intro @c_slA (And.intro @c_slB (And.intro @c_slC (And.intro @c_asPart (And.intro @c_tup0 (And.intro @c_tup1 (And.intro @c_tup2 (And.intro @c_tup3 (And.intro @c_tup4 (And.intro @c_lst0 (And.intro @c_lst1 (And.intro @c_lst2 (And.intro @c_lst3 (And.intro @c_lst4 (And.intro @c_lst5 (And.intro @c_lst6 (And.intro @c_lstC0 (And.intro @c_lstC1 (And.intro @c_lstC3 (And.intro @c_addI (And.intro @c_neg (And.intro @c_abs (And.intro @c_int1 (And.intro @c_int1T (And.intro @c_int1F (And.intro @c_max2 (And.intro @c_min2 (And.intro @c_isN (And.intro @c_notN (And.intro @c_isNn (And.intro @c_isNi (And.intro @c_isNb (And.intro @c_isNt (And.intro @c_isNl (And.intro @c_isNs (And.intro @c_isB (And.intro @c_notB (And.intro @c_forG (And.intro @c_forBn (And.intro @c_forBc (And.intro @c_forBb (And.intro @c_forBr (And.intro @c_forBx (And.intro @c_frzA (And.intro @c_frzB (And.intro @c_mtA (And.intro @c_mtI (And.intro @c_mtB (And.intro @c_mt0 (And.intro @c_cel0 (And.intro @c_celS (And.intro @c_onCel (And.intro @c_ocB (And.intro @c_ocC (And.intro @c_sub1 (And.intro @c_sub2 (And.intro @c_sub3 (And.intro @c_sub4 (And.intro @c_lenL (And.intro @c_lenT (And.intro @c_zpsq (And.intro @c_lst1i (And.intro @c_lst2i (And.intro @c_lst3i (And.intro @c_rgl (And.intro @c_rglT (And.intro @c_rglA (And.intro @Int.zero_add (And.intro @fold_L (And.intro @fold_T (And.intro @stE_cons (And.intro @stE_nil0 (And.intro @stE_nilS (And.intro @c_fI (And.intro @rt_rt (And.intro @turn_nx (And.intro @turn_ct (And.intro @turn_bk (And.intro @turn_rt (And.intro @turn_xc (And.intro @nx_nx (And.intro @xc_xc (And.intro @rtM_rt (And.intro @okM_ok (And.intro @seqD_sq (And.intro @seqM_sq (And.intro @len_sq (And.intro @tuple_sq (And.intro @list_sq (And.intro @listC_sq (And.intro @sorted_sq (And.intro @sum_sq (And.intro @sl_sq (And.intro @in_sq (And.intro @notin_sq (And.intro @isTup_sq (And.intro @isNon_sq (And.intro @eq_int (And.intro @ne_int (And.intro @eq_bl (And.intro @ne_bl (And.intro @eq_sq (And.intro @ne_sq (And.intro @set0 (And.intro @setS (And.intro @wipe_nil (And.intro @wipe_cons (And.intro @Bool.not_true (And.intro @Bool.true_and (And.intro @Bool.and_true (And.intro @Bool.false_and (And.intro @Bool.and_false (And.intro @Bool.true_or (And.intro @Bool.or_true (And.intro @Bool.false_or (And.intro @Bool.or_false (And.intro @Bool.not_not (And.intro @Bool.not_false (And.intro @rep0 (And.intro @repS (And.intro @map_some0 (And.intro @map_some1 (And.intro @lenD0 (And.intro @lenDS (And.intro @lenM0 (And.intro @lenMS (And.intro @appM0 (And.intro @appM1 (And.intro @appMS (And.intro @getM0 (And.intro @getMS (And.intro @setM0 (And.intro @setMS (And.intro @appE0 (And.intro @appES (And.intro @Nat.add_zero (@Nat.zero_add))))))))))))))))))))))))))))))))))))))))))))))))))))))))))))))))))))))))))))))))))))))))))))))))))))))))))))))))))))))))))))))))))))))))))))))))))))))))))))))))))))))))))))))))))))))))))))))))))))))))))))))))))))))))))))))))))))))))))))))))))))))))))))))))))))))))))))))))))))))
end DL
end
section
set_option maxRecDepth 100000
set_option maxHeartbeats 400000
/-! DE5: objects, errors caught; equality of what is plain. -/
namespace DL
open PySem PySem.Spec PyProof.Rows L2
/-- the fields of a Hall -/
abbrev NS : List Str := ["own_rows", "own_log"]
def fldC (o : Option D) (μ : Mu) : Res D := match o with
  | some x => .ok x μ
  | none => .no
def fldB (C : Addr) (f : Str) (c : Option Cell) (μ : Mu) : Res D := match c with
  | some (.ins C' ns xs) => if C' = C then fldC (getF f ns xs) μ else .no
  | _ => .no
def fldA (C : Addr) (f : Str) (r : Res D) : Res D := match r with
  | .ok (.cel k) μ => fldB C f μ[k]? μ
  | .ok _ _ => .no
  | .exc c d μ => .exc c d μ
  | .no => .no
def methC (n k : Nat) (F : FD) (r : Res (List D)) : Res D := match r with
  | .ok ds μ => if ds.length + 1 = n then F (.cel k :: ds) μ else .no
  | .exc c d μ => .exc c d μ
  | .no => .no
def methB (C : Addr) (m : Str) (n k : Nat) (F : FD) (T : TAd) (ρ : En) (c : Option Cell) (μ : Mu) : Res D := match c with
  | some (.ins C' ns _) => if C' = C ∧ ns.contains m = false then methC n k F (T ρ μ) else .no
  | _ => .no
def methA (C : Addr) (m : Str) (n : Nat) (F : FD) (T : TAd) (ρ : En) (r : Res D) : Res D := match r with
  | .ok (.cel k) μ => methB C m n k F T ρ μ[k]? μ
  | .ok _ _ => .no
  | .exc c d μ => .exc c d μ
  | .no => .no
def makeB (k : Nat) (r : Res D) : Res D := match r with
  | .ok .non μ => .ok (.cel k) μ
  | _ => .no
def makeA (C : Addr) (n : Nat) (F : FD) (r : Res (List D)) : Res D := match r with
  | .ok ds μ => if ds.length + 1 = n then makeB μ.length (F (.cel μ.length :: ds) (μ ++ [.ins C [] []])) else .no
  | .exc c d μ => .exc c d μ
  | .no => .no
def setC (C : Addr) (f : Str) (k : Nat) (y : D) (c : Option Cell) (ρ : En) (μ : Mu) : Out := match c with
  | some (.ins C' ns xs) => if C' = C ∧ ns.length < 1000 then .nx ρ (μ.set k (.ins C (putN f ns) (putX f y ns xs))) else .no
  | _ => .no
def setB (C : Addr) (f : Str) (y : D) (ρ : En) (r : Res D) : Out := match r with
  | .ok (.cel k) μ => setC C f k y μ[k]? ρ μ
  | .ok _ _ => .no
  | .exc c d μ => .exc c d ρ μ
  | .no => .no
def setA (C : Addr) (f : Str) (A : TEd) (ρ : En) (r : Res D) : Out := match r with
  | .ok y μ => setB C f y ρ (A ρ μ)
  | .exc c d μ => .exc c d ρ μ
  | .no => .no
def tryA (c : Nat) (word : Str) (i j : Nat) (o : Out) : Out := match o with
  | .exc c' d ρ μ => if c' = c ∧ i < ρ.length then .nx ((ρ.set j (some (.tup [.str word, d]))).set i none) μ else .no
  | o => o
section
variable {ρ : En} {μ : Mu} {C : Addr} {f m : Str} {A B : TEd} {T : TAd} {F : FD} {n k c i j : Nat} {ns : List Str} {xs : List D} {a b d x y : D} {S : TSd} {w : Str}
theorem ev_fld : xFld C f A ρ μ = fldA C f (A ρ μ) := by
  unfold xFld fldA
  cases A ρ μ with
  | ok d μ1 =>
    show (match d with | .cel k => _ | _ => _) = _
    cases d with
    | cel k =>
      dsimp only
      unfold fldB
      cases μ1[k]? with
      | none => rfl
      | some c =>
        cases c with
        | ins C' ns xs =>
          dsimp only
          by_cases h : C' = C
          · rw [if_pos h, if_pos h]
            cases getF f ns xs <;> rfl
          · rw [if_neg h, if_neg h]
        | _ => rfl
    | _ => rfl
  | _ => rfl
theorem ev_meth : xMeth C m n F A T ρ μ = methA C m n F T ρ (A ρ μ) := by
  unfold xMeth methA
  cases A ρ μ with
  | ok d μ1 =>
    show (match d with | .cel k => _ | _ => _) = _
    cases d with
    | cel k =>
      dsimp only
      unfold methB
      cases μ1[k]? with
      | none => rfl
      | some c =>
        cases c with
        | ins C' ns xs =>
          dsimp only
          by_cases h : C' = C ∧ ns.contains m = false
          · rw [if_pos h, if_pos h]
            unfold methC
            cases T ρ μ1 <;> rfl
          · rw [if_neg h, if_neg h]
        | _ => rfl
    | _ => rfl
  | _ => rfl
theorem ev_make : xMake C n F T ρ μ = makeA C n F (T ρ μ) := by
  unfold xMake makeA
  cases T ρ μ with
  | ok ds μ1 =>
    show (if ds.length + 1 = n then _ else _) = _
    dsimp only
    by_cases h : ds.length + 1 = n
    · rw [if_pos h, if_pos h]
      unfold makeB
      rfl
    · rw [if_neg h, if_neg h]
  | _ => rfl
theorem ev_setF : xSetF C f A B ρ μ = setA C f A ρ (B ρ μ) := by
  unfold xSetF setA
  cases B ρ μ with
  | ok y μ1 =>
    dsimp only
    unfold setB
    cases A ρ μ1 with
    | ok d μ2 =>
      cases d with
      | cel k =>
        dsimp only
        unfold setC
        rfl
      | _ => rfl
    | _ => rfl
  | _ => rfl
theorem ev_try : xTry c w i j S ρ μ = tryA c w i j (S ρ μ) := by
  unfold xTry tryA
  cases S ρ μ <;> rfl
theorem c_fldA : fldA C f (.ok (.cel k) μ) = fldB C f μ[k]? μ := rfl
theorem c_fldB : fldB C f (some (.ins C ns xs)) μ = fldC (getF f ns xs) μ := by
  show (if C = C then _ else _) = _
  rw [if_pos rfl]
theorem c_fldC : fldC (some x) μ = .ok x μ := rfl
theorem c_rows : getF "own_rows" NS [a, b] = some a := rfl
theorem c_log : getF "own_log" NS [a, b] = some b := rfl
theorem c_methA : methA C m n F T ρ (.ok (.cel k) μ) = methB C m n k F T ρ μ[k]? μ := rfl
theorem meth_of (h : ns.contains m = false) : methB C m n k F T ρ (some (.ins C ns xs)) μ = methC n k F (T ρ μ) := by
  show (if C = C ∧ ns.contains m = false then _ else _) = _
  rw [if_pos ⟨rfl, h⟩]
theorem c_mrow : methB C "row" n k F T ρ (some (.ins C NS xs)) μ = methC n k F (T ρ μ) := meth_of (by decide)
theorem c_mcall : methB C "call" n k F T ρ (some (.ins C NS xs)) μ = methC n k F (T ρ μ) := meth_of (by decide)
theorem c_mrun : methB C "run" n k F T ρ (some (.ins C NS xs)) μ = methC n k F (T ρ μ) := meth_of (by decide)
theorem c_mgo : methB C "go" n k F T ρ (some (.ins C NS xs)) μ = methC n k F (T ρ μ) := meth_of (by decide)
theorem c_mtell : methB C "tell" n k F T ρ (some (.ins C NS xs)) μ = methC n k F (T ρ μ) := meth_of (by decide)
theorem c_mcome : methB C "come" n k F T ρ (some (.ins C NS xs)) μ = methC n k F (T ρ μ) := meth_of (by decide)
theorem c_mleave : methB C "leave" n k F T ρ (some (.ins C NS xs)) μ = methC n k F (T ρ μ) := meth_of (by decide)
theorem c_mundo : methB C "undo" n k F T ρ (some (.ins C NS xs)) μ = methC n k F (T ρ μ) := meth_of (by decide)
theorem c_mdeeds : methB C "deeds" n k F T ρ (some (.ins C NS xs)) μ = methC n k F (T ρ μ) := meth_of (by decide)
theorem c_mtops : methB C "tops" n k F T ρ (some (.ins C NS xs)) μ = methC n k F (T ρ μ) := meth_of (by decide)
theorem c_mdips : methB C "dips" n k F T ρ (some (.ins C NS xs)) μ = methC n k F (T ρ μ) := meth_of (by decide)
theorem c_mfutures : methB C "futures" n k F T ρ (some (.ins C NS xs)) μ = methC n k F (T ρ μ) := meth_of (by decide)
theorem c_mnumber : methB C "number_of" n k F T ρ (some (.ins C NS xs)) μ = methC n k F (T ρ μ) := meth_of (by decide)
theorem c_mdo : methB C "do" n k F T ρ (some (.ins C NS xs)) μ = methC n k F (T ρ μ) := meth_of (by decide)
theorem c_mdone : methB C "done" n k F T ρ (some (.ins C NS xs)) μ = methC n k F (T ρ μ) := meth_of (by decide)
theorem c_masof : methB C "as_of" n k F T ρ (some (.ins C NS xs)) μ = methC n k F (T ρ μ) := meth_of (by decide)
theorem c_mtwin : methB C "twin" n k F T ρ (some (.ins C NS xs)) μ = methC n k F (T ρ μ) := meth_of (by decide)
theorem c_mlog : methB C "log" n k F T ρ (some (.ins C NS xs)) μ = methC n k F (T ρ μ) := meth_of (by decide)
theorem c_methC1 : methC 1 k F (.ok [] μ) = F [.cel k] μ := rfl
theorem c_methC2 : methC 2 k F (.ok [a] μ) = F [.cel k, a] μ := rfl
theorem c_methC3 : methC 3 k F (.ok [a, b] μ) = F [.cel k, a, b] μ := rfl
theorem c_make2 : makeA C 2 F (.ok [a] μ) = makeB μ.length (F [.cel μ.length, a] (μ ++ [.ins C [] []])) := rfl
theorem c_makeB : makeB k (.ok .non μ) = .ok (.cel k) μ := rfl
theorem c_setA : setA C f A ρ (.ok y μ) = setB C f y ρ (A ρ μ) := rfl
theorem c_setB : setB C f y ρ (.ok (.cel k) μ) = setC C f k y μ[k]? ρ μ := rfl
theorem c_set0 : setC C "own_rows" k y (some (.ins C [] [])) ρ μ = .nx ρ (μ.set k (.ins C ["own_rows"] [y])) := by
  show (if C = C ∧ _ then _ else _) = _
  rw [if_pos ⟨rfl, by decide⟩]
  rfl
theorem c_set1 : setC C "own_log" k y (some (.ins C ["own_rows"] [a])) ρ μ = .nx ρ (μ.set k (.ins C NS [a, y])) := by
  show (if C = C ∧ _ then _ else _) = _
  rw [if_pos ⟨rfl, by decide⟩]
  rfl
theorem c_set2 : setC C "own_rows" k y (some (.ins C NS [a, b])) ρ μ = .nx ρ (μ.set k (.ins C NS [y, b])) := by
  show (if C = C ∧ _ then _ else _) = _
  rw [if_pos ⟨rfl, by decide⟩]
  rfl
theorem c_try : tryA c w i j (.nx ρ μ) = .nx ρ μ := rfl
theorem c_tryR : tryA c w i j (.rt d μ) = .rt d μ := rfl
theorem c_tryX (h : i < ρ.length) : tryA c w i j (.exc c d ρ μ) = .nx ((ρ.set j (some (.tup [.str w, d]))).set i none) μ := by
  show (if c = c ∧ i < ρ.length then _ else _) = _
  rw [if_pos ⟨rfl, h⟩]
end
def EO := And.intro @ev_fld (And.intro @ev_meth (And.intro @ev_setF (And.intro @ev_try (And.intro @c_fldA (And.intro @c_fldB (And.intro @c_fldC (And.intro @c_rows (And.intro @c_log (And.intro @c_methA (And.intro @c_mrow (And.intro @c_mcall (And.intro @c_mrun (And.intro @c_mgo (And.intro @c_mtell (And.intro @c_mcome (And.intro @c_mleave (And.intro @c_mundo (And.intro @c_mdeeds (And.intro @c_mtops (And.intro @c_mdips (And.intro @c_mfutures (And.intro @c_mnumber (And.intro @c_mdo (And.intro @c_mdone (And.intro @c_masof (And.intro @c_mtwin (And.intro @c_mlog (And.intro @c_methC1 (And.intro @c_methC2 (And.intro @c_methC3 (And.intro @c_setA (And.intro @c_setB (And.intro @c_set0 (And.intro @c_set1 (And.intro @c_set2 (And.intro @c_try @c_tryR))))))))))))))))))))))))))))))))))))
def EM := And.intro @ev_make (And.intro @c_make2 @c_makeB)
/-! plain things are the same as themselves -/
def plainB : Nat → D → Bool
  | 0, _ => false
  | k + 1, d => match d with
    | .non => true
    | .bl _ => true
    | .int _ => true
    | .str s => PyData.canLay0 (.str s)
    | .tup ds => decide (ds.length ≤ 100000) && ds.all (plainB k)
    | .lst ds => decide (ds.length ≤ 100000) && ds.all (plainB k)
    | _ => false
theorem plain_sq {k : Nat} {b : Bool} {r : List Int} (h : r.length ≤ 100000) : plainB (k + 2) (sq b r) = true := by
  have e : (nums r).all (plainB (k + 1)) = true := List.all_eq_true.mpr fun x hx => by
    unfold nums at hx
    rw [List.mem_map] at hx
    obtain ⟨i, _, rfl⟩ := hx
    rfl
  have e2 : decide ((nums r).length ≤ 100000) = true := decide_eq_true (by rw [List.length_map]; exact h)
  cases b
  · show (decide ((nums r).length ≤ 100000) && (nums r).all (plainB (k + 1))) = true
    rw [e, e2]
    rfl
  · show (decide ((nums r).length ≤ 100000) && (nums r).all (plainB (k + 1))) = true
    rw [e, e2]
    rfl
theorem plain_lst {k : Nat} {ds : List D} (ha : ∀ d ∈ ds, plainB k d = true) (h : ds.length ≤ 100000 := by exact Nat.le_of_ble_eq_true rfl) : plainB (k + 1) (.lst ds) = true := by
  show (decide (ds.length ≤ 100000) && ds.all (plainB k)) = true
  rw [decide_eq_true h, List.all_eq_true.mpr ha]
  rfl
theorem plain_tup {k : Nat} {ds : List D} (ha : ∀ d ∈ ds, plainB k d = true) (h : ds.length ≤ 100000 := by exact Nat.le_of_ble_eq_true rfl) : plainB (k + 1) (.tup ds) = true := by
  show (decide (ds.length ≤ 100000) && ds.all (plainB k)) = true
  rw [decide_eq_true h, List.all_eq_true.mpr ha]
  rfl
theorem plain_map {α : Type} {k : Nat} {f : α → D} {xs : List α} (h : xs.length ≤ 100000) (ha : ∀ x ∈ xs, plainB k (f x) = true) : plainB (k + 1) (.lst (xs.map f)) = true :=
  plain_lst (fun d hd => by
    rw [List.mem_map] at hd
    obtain ⟨x, hx, rfl⟩ := hd
    exact ha x hx) (by rw [List.length_map]; exact h)
theorem plain_cons {k : Nat} {d : D} {ds : List D} : (∀ x ∈ d :: ds, plainB k x = true) ↔ plainB k d = true ∧ ∀ x ∈ ds, plainB k x = true := by simp
theorem plain_nil {k : Nat} : (∀ x ∈ ([] : List D), plainB k x = true) ↔ True := by simp
theorem plain_int {k : Nat} {i : Int} : plainB (k + 1) (.int i) = true := rfl
theorem plain_bl {k : Nat} {i : Bool} : plainB (k + 1) (.bl i) = true := rfl
theorem plain_non {k : Nat} : plainB (k + 1) .non = true := rfl
def PL := And.intro @plain_cons (And.intro @plain_nil (And.intro @plain_int (And.intro @plain_bl (And.intro @plain_non (And.intro @plain_sq and_self)))))
theorem plain_noc : ∀ (k : Nat) (d : D), plainB k d = true → noCel d = true
  | 0, _, h => by cases h
  | k + 1, d, h => by
    cases d with
    | tup ds =>
      have h' : (decide (ds.length ≤ 100000) && ds.all (plainB k)) = true := h
      rw [Bool.and_eq_true, List.all_eq_true] at h'
      rw [noCel_tup]
      have : ∀ l : List D, (∀ x ∈ l, noCel x = true) → noCels l = true := by
        intro l
        induction l with
        | nil => intro _; rfl
        | cons x l ih =>
          intro q
          rw [noCels_cons, q x (by simp), ih fun y hy => q y (List.mem_cons_of_mem x hy)]
          rfl
      exact this ds fun x hx => plain_noc k x (h'.2 x hx)
    | lst ds =>
      have h' : (decide (ds.length ≤ 100000) && ds.all (plainB k)) = true := h
      rw [Bool.and_eq_true, List.all_eq_true] at h'
      rw [noCel_lst]
      have : ∀ l : List D, (∀ x ∈ l, noCel x = true) → noCels l = true := by
        intro l
        induction l with
        | nil => intro _; rfl
        | cons x l ih =>
          intro q
          rw [noCels_cons, q x (by simp), ih fun y hy => q y (List.mem_cons_of_mem x hy)]
          rfl
      exact this ds fun x hx => plain_noc k x (h'.2 x hx)
    | frz ds => cases h
    | cel i => cases h
    | _ => rfl
theorem eq_non {μ : Mu} : fEq .non .non μ = .ok (.bl true) μ := by
  have := coOI.eq none none (μ := μ)
  rw [decide_eq_true rfl] at this
  exact this
theorem eq_str (s : Str) (h : PyData.canLay0 (.str s) = true) {μ : Mu} : fEq (.str s) (.str s) μ = .ok (.bl true) μ := by
  have e : toPyM μ (.str s) = some (.str s) := by
    unfold toPyM toPy
    rfl
  unfold fEq eqM
  rw [e]
  have d : SeqAt.shaped (.str s) = true := by
    unfold SeqAt.shaped
    rw [h, show PyData.depth (.str s) = 0 by unfold PyData.depth; rfl]
    rfl
  dsimp only
  rw [d, if_pos (show (true && true) = true from rfl)]
  dsimp only
  unfold PyData.eqv
  simp
end DL
end
section
set_option maxRecDepth 100000
set_option maxHeartbeats 400000
/-! ML1: what the program's functions on rows tell, as plain functions on lists of ints. -/
namespace DL
open PySem PySem.Spec PyProof.Rows L2
theorem lim_eq : lim = 100000 := rfl
/-- the places below n with a property, ascending, as ints -/
def pers (n : Nat) (P : Nat → Bool) : List Int := ((List.range n).filter P).map fun (p : Nat) => (p : Int)
theorem mem_pers {n : Nat} {P : Nat → Bool} {x : Int} : x ∈ pers n P ↔ ∃ p : Nat, p < n ∧ P p = true ∧ x = (p : Int) := by
  unfold pers
  rw [List.mem_map]
  constructor
  · rintro ⟨p, hp, rfl⟩
    rw [List.mem_filter, List.mem_range] at hp
    exact ⟨p, hp.1, hp.2, rfl⟩
  · rintro ⟨p, h1, h2, rfl⟩
    exact ⟨p, List.mem_filter.mpr ⟨List.mem_range.mpr h1, h2⟩, rfl⟩
theorem nat_mem_pers {n : Nat} {P : Nat → Bool} {p : Nat} : (p : Int) ∈ pers n P ↔ p < n ∧ P p = true := by
  rw [mem_pers]
  constructor
  · rintro ⟨q, h1, h2, h3⟩
    have : p = q := by omega
    subst this
    exact ⟨h1, h2⟩
  · rintro ⟨h1, h2⟩
    exact ⟨p, h1, h2, rfl⟩
theorem pers_congr {n : Nat} {P Q : Nat → Bool} (h : ∀ p, p < n → P p = Q p) : pers n P = pers n Q := by
  unfold pers
  rw [List.filter_congr (fun x hx => h x (List.mem_range.mp hx))]
theorem pers_length_le {n : Nat} {P : Nat → Bool} : (pers n P).length ≤ n := by
  unfold pers
  rw [List.length_map]
  exact Nat.le_trans (List.length_filter_le _ _) (by rw [List.length_range]; exact Nat.le_refl _)
theorem pers_sorted (n : Nat) (P : Nat → Bool) : (pers n P).Pairwise (· < ·) := by
  unfold pers
  rw [List.pairwise_map]
  refine List.Pairwise.imp ?_ ((List.pairwise_lt_range (n := n)).filter P)
  intro a b h
  omega
/-- places 1 + i -/
theorem pers_inner (n : Nat) (P : Nat → Bool) (h0 : P 0 = false) (h1 : ∀ p, n ≤ p + 1 → P p = false) : ((List.range (n - 2)).filter fun i => P (i + 1)).map (fun (i : Nat) => (1 : Int) + (i : Int)) = pers n P := by
  unfold pers
  match n with
  | 0 => rfl
  | 1 => simp [List.range_succ, h0]
  | n + 2 =>
    rw [show n + 2 - 2 = n by omega, List.range_succ, List.range_succ_eq_map, List.filter_append, List.filter_cons_of_neg (by rw [h0]; decide), List.filter_map, List.filter_cons_of_neg (by rw [h1 (n + 1) (by omega)]; decide), List.filter_nil, List.append_nil, List.map_map]
    refine List.map_congr_left fun i _ => ?_
    show (1 : Int) + (i : Int) = ((i + 1 : Nat) : Int)
    omega
/-- the middle one of three -/
def med (a b c : Int) : Int := max (min a b) (min (max a b) c)
/-- a call -/
def callL (r : List Int) (p : Nat) : List Int := if 0 < p ∧ p + 1 < r.length then r.set p (med (gN r (p - 1)) (gN r p) (gN r (p + 1))) else r
theorem callL_length {r : List Int} {p : Nat} : (callL r p).length = r.length := by
  unfold callL
  split
  · rw [List.length_set]
  · rfl
theorem gN_set {r : List Int} {p q : Nat} {v : Int} : gN (r.set p v) q = if q = p ∧ p < r.length then v else gN r q := by
  unfold gN
  rw [List.getD_eq_getElem?_getD, List.getElem?_set, List.getD_eq_getElem?_getD]
  by_cases h : p = q
  · subst h
    by_cases h2 : p < r.length
    · simp [h2]
    · simp [h2]
  · rw [if_neg h, if_neg (fun z => h z.1.symm)]
theorem list_ext_gN {r s : List Int} (hl : r.length = s.length) (h : ∀ p, p < r.length → gN r p = gN s p) : r = s := by
  apply List.ext_getElem?
  intro i
  by_cases hi : i < r.length
  · rw [gN_lt hi, gN_lt (by omega), h i hi]
  · rw [List.getElem?_eq_none (by omega), List.getElem?_eq_none (by omega)]
theorem gN_map_range {n : Nat} {f : Nat → Int} {p : Nat} (h : p < n) : gN ((List.range n).map f) p = f p := by
  unfold gN
  rw [List.getD_eq_getElem?_getD, List.getElem?_map, List.getElem?_range h]
  rfl
theorem set_as_map (r : List Int) (p : Nat) (v : Int) : r.set p v = (List.range r.length).map fun i => if i = p then v else gN r i := by
  refine list_ext_gN (by simp) fun q hq => ?_
  rw [List.length_set] at hq
  rw [gN_map_range hq, gN_set]
  by_cases h : q = p
  · subst h
    rw [if_pos ⟨rfl, hq⟩, if_pos rfl]
  · rw [if_neg (fun z => h z.1), if_neg h]
theorem as_map (r : List Int) : r = (List.range r.length).map fun i => gN r i := list_ext_gN (by simp) fun q hq => (gN_map_range hq).symm
theorem isort3 (a b c : Int) : isort [a, b, c] = [min (min a b) c, med a b c, max (max a b) c] := by
  refine sorted_one ((isort_perm _).trans ?_) (isort_sorted _) ?_
  · unfold med
    by_cases h1 : a ≤ b <;> by_cases h2 : b ≤ c <;> by_cases h3 : a ≤ c
    · rw [show min (min a b) c = a by omega, show max (min a b) (min (max a b) c) = b by omega, show max (max a b) c = c by omega]
    · omega
    · rw [show min (min a b) c = a by omega, show max (min a b) (min (max a b) c) = c by omega, show max (max a b) c = b by omega]
      exact (List.Perm.swap c b []).cons a
    · rw [show min (min a b) c = c by omega, show max (min a b) (min (max a b) c) = a by omega, show max (max a b) c = b by omega]
      exact ((List.Perm.swap c b []).cons a).trans (List.Perm.swap c a [b])
    · rw [show min (min a b) c = b by omega, show max (min a b) (min (max a b) c) = a by omega, show max (max a b) c = c by omega]
      exact List.Perm.swap b a [c]
    · rw [show min (min a b) c = b by omega, show max (min a b) (min (max a b) c) = c by omega, show max (max a b) c = a by omega]
      exact (List.Perm.swap b a [c]).trans ((List.Perm.swap c a []).cons b)
    · omega
    · rw [show min (min a b) c = c by omega, show max (min a b) (min (max a b) c) = b by omega, show max (max a b) c = a by omega]
      exact ((List.Perm.swap b a [c]).trans ((List.Perm.swap c a []).cons b)).trans (List.Perm.swap c b [a])
  · unfold med
    simp only [List.pairwise_cons, List.mem_cons, List.not_mem_nil, or_false, List.Pairwise.nil, and_true, forall_eq_or_imp, forall_eq, false_implies, implies_true]
    omega
/-- tops, dips -/
def isTop (r : List Int) (p : Nat) : Bool := decide (0 < p) && decide (p + 1 < r.length) && decide (gN r (p - 1) < gN r p) && decide (gN r (p + 1) < gN r p)
def isDip (r : List Int) (p : Nat) : Bool := decide (0 < p) && decide (p + 1 < r.length) && decide (gN r p < gN r (p - 1)) && decide (gN r p < gN r (p + 1))
def topsL (r : List Int) : List Int := pers r.length (isTop r)
def dipsL (r : List Int) : List Int := pers r.length (isDip r)
/-- the three reasons -/
def wcB (r h : List Int) (p : Nat) : Bool := !(decide (gN r p = gN h p) || ((isTop r p && decide (gN h p < gN r p)) || (isDip r p && decide (gN r p < gN h p))))
def woB (r h : List Int) (p : Nat) : Bool := (decide (gN r (p + 1) < gN r p) && decide (gN h p < gN h (p + 1))) || ((decide (gN r p < gN r (p + 1)) && decide (gN h (p + 1) < gN h p)) || (decide (gN r p = gN r (p + 1)) && !decide (gN h p = gN h (p + 1))))
def begB (h : List Int) (p : Nat) : Bool := decide (p = 0) || !decide (gN h p = gN h (p - 1))
/-- the last one of the run -/
def rend (h : List Int) (p : Nat) : Nat := if p + 1 < h.length ∧ gN h (p + 1) = gN h p then rend h (p + 1) else p
termination_by h.length - p
def begs (h : List Int) : List Nat := (List.range h.length).filter (begB h)
def runsL (h : List Int) : List (Nat × Nat) := (begs h).map fun p => (p, rend h p)
def stayB (r h : List Int) (p : Nat) : Bool := decide (gN r p = gN h p)
def stayL (r h : List Int) (a b : Nat) : List Nat := (List.range (b + 1 - a)).map (a + ·) |>.filter (stayB r h)
def wrB (r h : List Int) (p : Nat) : Bool := begB h p && (stayL r h p (rend h p)).isEmpty
end DL
end
section
set_option maxRecDepth 100000
set_option maxHeartbeats 400000
/-! ML2: runs; lists of places. -/
namespace DL
open PySem PySem.Spec PyProof.Rows L2
theorem pers_succ (n : Nat) (P : Nat → Bool) : pers (n + 1) P = pers n P ++ (if P n = true then [(n : Int)] else []) := by
  unfold pers
  rw [List.range_succ, List.filter_append, List.map_append]
  by_cases h : P n = true
  · rw [List.filter_cons_of_pos h, if_pos h]
    rfl
  · rw [List.filter_cons_of_neg h, if_neg h]
    rfl
theorem rend_eq (h : List Int) (p : Nat) : rend h p = if p + 1 < h.length ∧ gN h (p + 1) = gN h p then rend h (p + 1) else p := by
  rw [rend]
theorem rend_ge (h : List Int) (p : Nat) : p ≤ rend h p := by
  rw [rend_eq]
  split
  · have := rend_ge h (p + 1)
    omega
  · exact Nat.le_refl _
termination_by h.length - p
theorem rend_lt (h : List Int) (p : Nat) (hp : p < h.length) : rend h p < h.length := by
  rw [rend_eq]
  split
  · rename_i c
    exact rend_lt h (p + 1) c.1
  · exact hp
termination_by h.length - p
theorem rend_same (h : List Int) (p : Nat) : ∀ x, p ≤ x → x ≤ rend h p → gN h x = gN h p := by
  intro x h1 h2
  rw [rend_eq] at h2
  split at h2
  · rename_i c
    by_cases hx : x = p
    · rw [hx]
    · rw [rend_same h (p + 1) x (by omega) h2, c.2]
  · rw [show x = p by omega]
termination_by h.length - p
theorem rend_stop (h : List Int) (p : Nat) : ¬ (rend h p + 1 < h.length ∧ gN h (rend h p + 1) = gN h (rend h p)) := by
  rw [rend_eq]
  split
  · exact rend_stop h (p + 1)
  · rename_i c
    exact c
termination_by h.length - p
/-- the begins from a on -/
def begF (h : List Int) (a : Nat) : List Nat := (List.range' a (h.length - a)).filter (begB h)
theorem begF_step (h : List Int) (a : Nat) (ha : a < h.length) : begF h a = (if begB h a = true then [a] else []) ++ begF h (a + 1) := by
  unfold begF
  rw [show h.length - a = h.length - (a + 1) + 1 by omega, List.range'_succ]
  by_cases c : begB h a = true
  · rw [List.filter_cons_of_pos c, if_pos c]
    rfl
  · rw [List.filter_cons_of_neg c, if_neg c]
    rfl
theorem begF_end (h : List Int) (a : Nat) (ha : h.length ≤ a) : begF h a = [] := by
  unfold begF
  rw [show h.length - a = 0 by omega]
  rfl
theorem begF_head (h : List Int) (a : Nat) (ha : a < h.length) : (begF h (a + 1)).head?.getD h.length = rend h a + 1 := by
  rw [rend_eq]
  by_cases hl : a + 1 < h.length
  · rw [begF_step h (a + 1) hl]
    by_cases c : gN h (a + 1) = gN h a
    · have hb : begB h (a + 1) = false := by
        unfold begB
        rw [Nat.add_sub_cancel, decide_eq_true c, decide_eq_false (by omega)]
        rfl
      rw [hb, if_neg (by decide), List.nil_append, if_pos ⟨hl, c⟩]
      exact begF_head h (a + 1) hl
    · have hb : begB h (a + 1) = true := by
        unfold begB
        rw [Nat.add_sub_cancel, decide_eq_false c]
        simp
      rw [hb, if_pos rfl, if_neg (fun z => c z.2)]
      rfl
  · rw [begF_end h (a + 1) (by omega), if_neg (fun z => hl z.1)]
    show h.length = a + 1
    omega
termination_by h.length - a
theorem begF_zip (h : List Int) (a : Nat) : ((begF h a).zip ((begF h a).drop 1 ++ [h.length])).map (fun p => (p.1, p.2 - 1)) = (begF h a).map fun p => (p, rend h p) := by
  by_cases ha : a < h.length
  · have ih := begF_zip h (a + 1)
    rw [begF_step h a ha]
    by_cases c : begB h a = true
    · rw [if_pos c]
      show ((a :: begF h (a + 1)).zip (begF h (a + 1) ++ [h.length])).map _ = (a, rend h a) :: (begF h (a + 1)).map _
      have e := begF_head h a ha
      cases q : begF h (a + 1) with
      | nil =>
        rw [q] at e
        have e' : h.length = rend h a + 1 := e
        show [(a, h.length - 1)] = [(a, rend h a)]
        rw [e']
        rfl
      | cons b bs =>
        rw [q] at e ih
        have e' : b = rend h a + 1 := e
        show (a, b - 1) :: ((b :: bs).zip (bs ++ [h.length])).map _ = _
        have ih' : ((b :: bs).zip (bs ++ [h.length])).map (fun p => (p.1, p.2 - 1)) = (b :: bs).map fun p => (p, rend h p) := ih
        rw [ih', e']
        rfl
    · rw [if_neg c, List.nil_append]
      exact ih
  · rw [begF_end h a (by omega)]
    rfl
termination_by h.length - a
theorem begs_F (h : List Int) : begs h = begF h 0 := by
  unfold begs begF
  rw [List.range_eq_range']
  rfl
theorem runs_zip (h : List Int) : ((begs h).zip ((begs h).drop 1 ++ [h.length])).map (fun p => (p.1, p.2 - 1)) = runsL h := by
  unfold runsL
  rw [begs_F]
  exact begF_zip h 0
theorem runs_zipI (h : List Int) : ((((begs h).map fun (p : Nat) => (p : Int))).zip ((((begs h).map fun (p : Nat) => (p : Int))).drop 1 ++ [(h.length : Int)])).map (fun p => (p.1, p.2 - 1)) = (runsL h).map fun p => ((p.1 : Int), (p.2 : Int)) := by
  rw [← runs_zip]
  have pos : ∀ x ∈ (begs h).drop 1 ++ [h.length], 0 < x ∨ (begs h) = [] := by
    intro x hx
    rw [List.mem_append] at hx
    rcases hx with hx | hx
    · left
      have hs : (begs h).Pairwise (· < ·) := (List.pairwise_lt_range (n := h.length)).filter _
      cases q : begs h with
      | nil => rw [q] at hx; simp at hx
      | cons b bs =>
        rw [q] at hx hs
        have := (List.pairwise_cons.mp hs).1 x (by simpa using hx)
        omega
    · rw [List.mem_singleton] at hx
      subst hx
      by_cases z : h.length = 0
      · right
        unfold begs
        rw [z]
        rfl
      · left
        omega
  rw [← List.map_drop, show [(h.length : Int)] = [h.length].map fun (p : Nat) => (p : Int) from rfl, ← List.map_append, List.zip_map, List.map_map, List.map_map]
  refine List.map_congr_left fun x hx => ?_
  obtain ⟨x1, x2⟩ := x
  have hm := (List.of_mem_zip hx)
  rcases pos x2 hm.2 with z | z
  · show ((x1 : Int), (x2 : Int) - 1) = ((x1 : Int), ((x2 - 1 : Nat) : Int))
    rw [show (x2 : Int) - 1 = ((x2 - 1 : Nat) : Int) by omega]
  · rw [z] at hm
    simp at hm
end DL
end
section
set_option maxRecDepth 100000
set_option maxHeartbeats 400000
/-! ML3: open parts. -/
namespace DL
open PySem PySem.Spec PyProof.Rows L2
/-- first, last, whether somebody of the run stayed on the left, on the right -/
structure P4 where
  f : Nat
  l : Nat
  L : Bool
  R : Bool
deriving DecidableEq
/-- the last one of a stretch of changed people -/
def cend (r h : List Int) (p : Nat) : Nat := if p + 1 < h.length ∧ gN h (p + 1) = gN h p ∧ stayB r h (p + 1) = false then cend r h (p + 1) else p
termination_by h.length - p
theorem cend_eq (r h : List Int) (p : Nat) : cend r h p = if p + 1 < h.length ∧ gN h (p + 1) = gN h p ∧ stayB r h (p + 1) = false then cend r h (p + 1) else p := by
  rw [cend]
def psB (r h : List Int) (p : Nat) : Bool := !stayB r h p && (begB h p || stayB r h (p - 1))
def prtOf (r h : List Int) (p : Nat) : P4 := ⟨p, cend r h p, !begB h p, decide (cend r h p + 1 < h.length ∧ gN h (cend r h p + 1) = gN h (cend r h p))⟩
def partsL (r h : List Int) : List P4 := ((List.range h.length).filter (psB r h)).map (prtOf r h)
/-- what stands between two edges -/
def gapL (a b : Nat) (p : Int × Int) : List P4 := if p.2 - p.1 > 1 then [⟨(p.1 + 1).toNat, (p.2 - 1).toNat, decide (p.1 ≥ (a : Int)), decide (p.2 ≤ (b : Int))⟩] else []
def conv (a b : Nat) : Int → List Int → List P4
  | _, [] => []
  | l, r :: rest => gapL a b (l, r) ++ conv a b r rest
theorem conv_zip (a b : Nat) : ∀ (l : Int) (rest : List Int), ((l :: rest).zip rest).flatMap (gapL a b) = conv a b l rest
  | l, [] => rfl
  | l, r :: rest => by
    show gapL a b (l, r) ++ ((r :: rest).zip rest).flatMap (gapL a b) = _
    rw [conv_zip a b r rest]
    rfl
theorem begB_iff {h : List Int} {p : Nat} : begB h p = true ↔ p = 0 ∨ gN h p ≠ gN h (p - 1) := by
  unfold begB
  rw [Bool.or_eq_true, decide_eq_true_iff, Bool.not_eq_true', decide_eq_false_iff_not]
theorem begB_false {h : List Int} {p : Nat} : begB h p = false ↔ p ≠ 0 ∧ gN h p = gN h (p - 1) := by
  rw [← Bool.not_eq_true, begB_iff]
  constructor
  · intro z
    exact ⟨fun y => z (.inl y), Classical.byContradiction fun y => z (.inr y)⟩
  · rintro ⟨z1, z2⟩ (z | z)
    · exact z1 z
    · exact z z2
theorem cend_run (r h : List Int) (t s : Nat) (ht : t ≤ s) (hs : s < h.length) (hc : ∀ x, t < x → x ≤ s → stayB r h x = false) (he : ∀ x, t ≤ x → x ≤ s → gN h x = gN h t)
    (hstop : ¬ (s + 1 < h.length ∧ gN h (s + 1) = gN h s ∧ stayB r h (s + 1) = false)) : cend r h t = s := by
  rw [cend_eq]
  by_cases q : t = s
  · subst q
    rw [if_neg hstop]
  · rw [if_pos ⟨by omega, by rw [he (t + 1) (by omega) (by omega)], hc (t + 1) (by omega) (by omega)⟩]
    exact cend_run r h (t + 1) s (by omega) hs (fun x h1 h2 => hc x (by omega) h2) (fun x h1 h2 => by rw [he x (by omega) h2, he (t + 1) (by omega) (by omega)]) hstop
termination_by s - t
/-- the people who stayed, from s to b -/
def stF (r h : List Int) (s b : Nat) : List Nat := (List.range' s (b + 1 - s)).filter (stayB r h)
theorem stF_step {r h : List Int} {s b : Nat} (hs : s ≤ b) : stF r h s b = (if stayB r h s = true then [s] else []) ++ stF r h (s + 1) b := by
  unfold stF
  rw [show b + 1 - s = b + 1 - (s + 1) + 1 by omega, List.range'_succ]
  by_cases c : stayB r h s = true
  · rw [List.filter_cons_of_pos c, if_pos c]
    rfl
  · rw [List.filter_cons_of_neg c, if_neg c]
    rfl
def psF (r h : List Int) (s b : Nat) : List P4 := ((List.range' s (b + 1 - s)).filter (psB r h)).map (prtOf r h)
theorem psF_step {r h : List Int} {s b : Nat} (hs : s ≤ b) : psF r h s b = (if psB r h s = true then [prtOf r h s] else []) ++ psF r h (s + 1) b := by
  unfold psF
  rw [show b + 1 - s = b + 1 - (s + 1) + 1 by omega, List.range'_succ]
  by_cases c : psB r h s = true
  · rw [List.filter_cons_of_pos c, if_pos c]
    rfl
  · rw [List.filter_cons_of_neg c, if_neg c]
    rfl
theorem psF_skip {r h : List Int} {t s b : Nat} (hts : t ≤ s) (hs : s ≤ b + 1) (hc : ∀ x, t ≤ x → x < s → psB r h x = false) : psF r h t b = psF r h s b := by
  by_cases q : t = s
  · rw [q]
  · rw [psF_step (by omega), hc t (by omega) (by omega), if_neg (by decide), List.nil_append]
    exact psF_skip (by omega) hs (fun x h1 h2 => hc x (by omega) h2)
termination_by s - t
theorem psF_end {r h : List Int} {b : Nat} : psF r h (b + 1) b = [] := by
  unfold psF
  rw [Nat.sub_self]
  rfl
/-- within the run from a to b: t stands behind an edge, t to s - 1 changed -/
theorem conv_gaps {r h : List Int} {a b : Nat} (hab : a ≤ b) (hb : b < h.length) (hbeg : begB h a = true) (hrun : ∀ x, a ≤ x → x ≤ b → gN h x = gN h a) (hstop : ¬ (b + 1 < h.length ∧ gN h (b + 1) = gN h b)) (t s : Nat) (hat : a ≤ t) (hts : t ≤ s) (hsb : s ≤ b + 1)
    (htl : t = a ∨ stayB r h (t - 1) = true) (hc : ∀ x, t ≤ x → x < s → stayB r h x = false) :
    conv a b ((t : Int) - 1) ((stF r h s b).map (fun (p : Nat) => (p : Int)) ++ [(b : Int) + 1]) = psF r h t b := by
  have hnb : ∀ x, a < x → x ≤ b → begB h x = false := fun x h1 h2 => begB_false.mpr ⟨by omega, by rw [hrun x (by omega) h2, hrun (x - 1) (by omega) (by omega)]⟩
  have hpt : t < s → psB r h t = true := fun q => by
    unfold psB
    rw [hc t (by omega) q]
    rcases htl with z | z
    · rw [z, hbeg]
      rfl
    · rw [z]
      simp
  have hpn : ∀ x, t < x → x < s → psB r h x = false := fun x h1 h2 => by
    unfold psB
    rw [hnb x (by omega) (by omega), hc (x - 1) (by omega) (by omega)]
    simp
  have hL : t ≤ b → (!begB h t) = decide ((t : Int) - 1 ≥ (a : Int)) := fun q => by
    by_cases z : t = a
    · rw [z, hbeg, decide_eq_false (by omega)]
      rfl
    · rw [hnb t (by omega) q, decide_eq_true (by omega)]
      rfl
  by_cases q : s = b + 1
  · subst q
    have e1 : stF r h (b + 1) b = [] := by
      unfold stF
      rw [Nat.sub_self]
      rfl
    rw [e1]
    show gapL a b ((t : Int) - 1, (b : Int) + 1) ++ [] = _
    rw [List.append_nil]
    unfold gapL
    by_cases z : t = b + 1
    · rw [if_neg (by dsimp only; omega), z, psF_end]
    · rw [if_pos (by dsimp only; omega), psF_step (by omega), if_pos (hpt (by omega)), psF_skip (s := b + 1) (by omega) (by omega) (fun x h1 h2 => hpn x (by omega) h2), psF_end]
      have ce : cend r h t = b := cend_run r h t b (by omega) hb (fun x h1 h2 => hc x (by omega) (by omega)) (fun x h1 h2 => by rw [hrun x (by omega) h2, hrun t (by omega) (by omega)]) (fun y => hstop ⟨y.1, y.2.1⟩)
      show [_] = [prtOf r h t]
      unfold prtOf
      rw [ce, hL (by omega), decide_eq_false hstop]
      dsimp only
      rw [show ((t : Int) - 1 + 1).toNat = t by omega, show ((b : Int) + 1 - 1).toNat = b by omega, decide_eq_false (by omega : ¬ (b : Int) + 1 ≤ (b : Int))]
  · rw [stF_step (by omega)]
    by_cases z : stayB r h s = true
    · rw [if_pos z]
      show gapL a b ((t : Int) - 1, (s : Int)) ++ conv a b (s : Int) ((stF r h (s + 1) b).map (fun (p : Nat) => (p : Int)) ++ [(b : Int) + 1]) = _
      have ih := conv_gaps hab hb hbeg hrun hstop (s + 1) (s + 1) (by omega) (Nat.le_refl _) (by omega) (.inr z) (fun x h1 h2 => by omega)
      rw [show ((s + 1 : Nat) : Int) - 1 = (s : Int) by omega] at ih
      rw [ih]
      have hps : psB r h s = false := by
        unfold psB
        rw [z]
        rfl
      unfold gapL
      by_cases y : t = s
      · rw [if_neg (by dsimp only; omega), List.nil_append, y, psF_step (s := s) (by omega), hps, if_neg (by decide), List.nil_append]
      · rw [if_pos (by dsimp only; omega), psF_step (s := t) (by omega), if_pos (hpt (by omega)), psF_skip (t := t + 1) (s := s) (by omega) (by omega) (fun x h1 h2 => hpn x (by omega) h2), psF_step (s := s) (by omega), hps, if_neg (by decide), List.nil_append]
        have ce : cend r h t = s - 1 := cend_run r h t (s - 1) (by omega) (by omega) (fun x h1 h2 => hc x (by omega) (by omega)) (fun x h1 h2 => by rw [hrun x (by omega) (by omega), hrun t (by omega) (by omega)]) (fun w => by
          have := w.2.2
          rw [show s - 1 + 1 = s by omega, z] at this
          cases this)
        unfold prtOf
        rw [ce, hL (by omega), show s - 1 + 1 = s by omega, decide_eq_true (⟨by omega, by rw [hrun s (by omega) (by omega), hrun (s - 1) (by omega) (by omega)]⟩ : s < h.length ∧ gN h s = gN h (s - 1))]
        dsimp only
        rw [show ((t : Int) - 1 + 1).toNat = t by omega, show ((s : Int) - 1).toNat = s - 1 by omega, decide_eq_true (by omega : (s : Int) ≤ (b : Int))]
    · rw [if_neg z, List.nil_append]
      exact conv_gaps hab hb hbeg hrun hstop t (s + 1) hat (by omega) (by omega) htl (fun x h1 h2 => by
        by_cases w : x = s
        · rw [w]; exact Bool.eq_false_iff.mpr z
        · exact hc x h1 (by omega))
termination_by b + 1 - s
theorem begF_skip (h : List Int) (a : Nat) (ha : a < h.length) : begF h (a + 1) = begF h (rend h a + 1) := by
  rw [rend_eq]
  split
  · rename_i c
    rw [begF_step h (a + 1) c.1, begB_false.mpr ⟨by omega, by rw [Nat.add_sub_cancel]; exact c.2⟩, if_neg (by decide), List.nil_append]
    exact begF_skip h (a + 1) c.1
  · rfl
termination_by h.length - a
theorem begB_rend {h : List Int} {a : Nat} (hl : rend h a + 1 < h.length) : begB h (rend h a + 1) = true :=
  begB_iff.mpr (.inr (by
    rw [Nat.add_sub_cancel]
    exact fun z => rend_stop h a ⟨hl, z⟩))
theorem runs_cover (r h : List Int) (a : Nat) (hb : begB h a = true ∨ h.length ≤ a) : (begF h a).flatMap (fun p => psF r h p (rend h p)) = ((List.range' a (h.length - a)).filter (psB r h)).map (prtOf r h) := by
  by_cases ha : a < h.length
  · have hba : begB h a = true := by
      rcases hb with z | z
      · exact z
      · omega
    have g := rend_ge h a
    have l := rend_lt h a ha
    rw [begF_step h a ha, if_pos hba, begF_skip h a ha]
    show psF r h a (rend h a) ++ (begF h (rend h a + 1)).flatMap (fun p => psF r h p (rend h p)) = _
    rw [runs_cover r h (rend h a + 1) (by
      by_cases z : rend h a + 1 < h.length
      · exact .inl (begB_rend z)
      · exact .inr (by omega))]
    unfold psF
    rw [← List.map_append, ← List.filter_append]
    congr 2
    rw [show h.length - a = (rend h a + 1 - a) + (h.length - (rend h a + 1)) by omega, ← List.range'_append_1]
    congr 2
    omega
  · rw [begF_end h a (by omega), show h.length - a = 0 by omega]
    rfl
termination_by h.length - a
theorem partsL_runs (r h : List Int) : (begs h).flatMap (fun p => psF r h p (rend h p)) = partsL r h := by
  rw [begs_F, runs_cover r h 0 (.inl (begB_iff.mpr (.inl rfl)))]
  unfold partsL
  rw [List.range_eq_range']
  rfl
theorem stayL_F {r h : List Int} {a b : Nat} : stayL r h a b = stF r h a b := by
  unfold stayL stF
  congr 1
  rw [List.range'_eq_map_range]
theorem run_facts {h : List Int} {a : Nat} (ha : a ∈ begs h) : a < h.length ∧ begB h a = true := by
  unfold begs at ha
  rw [List.mem_filter, List.mem_range] at ha
  exact ha
/-- the edges of a run give its parts -/
theorem conv_run {r h : List Int} {a : Nat} (ha : a ∈ begs h) : conv a (rend h a) ((a : Int) - 1) ((stayL r h a (rend h a)).map (fun (p : Nat) => (p : Int)) ++ [(rend h a : Int) + 1]) = psF r h a (rend h a) := by
  obtain ⟨h1, h2⟩ := run_facts ha
  rw [stayL_F]
  exact conv_gaps (rend_ge h a) (rend_lt h a h1) h2 (rend_same h a) (rend_stop h a) a a (Nat.le_refl _) (Nat.le_refl _) (by have := rend_ge h a; omega) (.inl rfl) (fun x h1 h2 => by omega)
/-- the first place with a property -/
def fstB (n : Nat) (P : Nat → Bool) : Option Nat := ((List.range n).filter P).head?
/-- why a row does not lead to another one -/
def barL (r h : List Int) : Option (Str × Nat) := match fstB r.length (wcB r h) with
  | some p => some ("change", p)
  | none => match fstB (r.length - 1) (woB r h) with
    | some p => some ("order", p)
    | none => match fstB h.length (wrB r h) with
      | some p => some ("run", p)
      | none => none
/-- the people who have other numbers -/
def chgL (r h : List Int) : List Int := pers r.length fun p => !stayB r h p
theorem fst_some {n k : Nat} {P : Nat → Bool} (h : ∀ i, i < k → P i = false) (hk : P k = true) (hn : k < n) : fstB n P = some k := by
  unfold fstB
  rw [List.head?_filter]
  rw [List.find?_range_eq_some]
  exact ⟨hk, List.mem_range.mpr hn, fun j hj => by rw [h j hj]; rfl⟩
theorem fst_none {n : Nat} {P : Nat → Bool} (h : ∀ i, i < n → P i = false) : fstB n P = none := by
  unfold fstB
  rw [List.filter_eq_nil_iff.mpr (fun x hx => by rw [h x (List.mem_range.mp hx)]; decide)]
  rfl
theorem rend_run (h : List Int) (t s : Nat) (ht : t ≤ s) (hs : s < h.length) (he : ∀ x, t ≤ x → x ≤ s → gN h x = gN h t) (hstop : ¬ (s + 1 < h.length ∧ gN h (s + 1) = gN h s)) : rend h t = s := by
  rw [rend_eq]
  by_cases q : t = s
  · subst q
    rw [if_neg hstop]
  · rw [if_pos ⟨by omega, by rw [he (t + 1) (by omega) (by omega)]⟩]
    exact rend_run h (t + 1) s (by omega) hs (fun x h1 h2 => by rw [he x (by omega) h2, he (t + 1) (by omega) (by omega)]) hstop
termination_by s - t
theorem rend_beg {h : List Int} {a f : Nat} (haf : a < f) (hf : f < h.length) (hb : begB h f = true) : rend h a < f := by
  apply Classical.byContradiction
  intro z
  have s1 := rend_same h a f (by omega) (by omega)
  have s2 := rend_same h a (f - 1) (by omega) (by omega)
  rcases begB_iff.mp hb with w | w
  · omega
  · exact w (by rw [s1, s2])
end DL
end
section
set_option maxRecDepth 100000
set_option maxHeartbeats 400000
/-! ML4: whom to call next, changed people by parts. -/
namespace DL
open PySem PySem.Spec PyProof.Rows L2
theorem lt_one : ∀ {a b : List Int}, a.Pairwise (· < ·) → b.Pairwise (· < ·) → (∀ x, x ∈ a ↔ x ∈ b) → a = b
  | [], [], _, _, _ => rfl
  | [], y :: b, _, _, h => by
    have := (h y).mpr (by simp)
    simp at this
  | x :: a, [], _, _, h => by
    have := (h x).mp (by simp)
    simp at this
  | x :: a, y :: b, ha, hb, h => by
    obtain ⟨a1, a2⟩ := List.pairwise_cons.mp ha
    obtain ⟨b1, b2⟩ := List.pairwise_cons.mp hb
    have e : x = y := by
      have h1 := (h x).mp (by simp)
      have h2 := (h y).mpr (by simp)
      rw [List.mem_cons] at h1 h2
      rcases h1 with h1 | h1
      · exact h1
      · rcases h2 with h2 | h2
        · exact h2.symm
        · have := b1 x h1
          have := a1 y h2
          omega
    subst e
    refine congrArg (x :: ·) (lt_one a2 b2 fun z => ?_)
    constructor
    · intro hz
      have h1 := (h z).mp (List.mem_cons_of_mem x hz)
      rw [List.mem_cons] at h1
      rcases h1 with h1 | h1
      · have := a1 z hz
        omega
      · exact h1
    · intro hz
      have h1 := (h z).mpr (List.mem_cons_of_mem x hz)
      rw [List.mem_cons] at h1
      rcases h1 with h1 | h1
      · have := b1 z hz
        omega
      · exact h1
/-- the people who can be called next -/
def nextL (ps : List P4) : List Int := sset (((ps.filter (·.L)).map fun p => (p.f : Int)) ++ ((ps.filter (·.R)).map fun p => (p.l : Int)))
def fsB (r h : List Int) (p : Nat) : Bool := !stayB r h p && ((!begB h p && stayB r h (p - 1)) || (decide (p + 1 < h.length ∧ gN h (p + 1) = gN h p) && stayB r h (p + 1)))
theorem cend_ge (r h : List Int) (p : Nat) : p ≤ cend r h p := by
  rw [cend_eq]
  split
  · have := cend_ge r h (p + 1)
    omega
  · exact Nat.le_refl _
termination_by h.length - p
theorem cend_lt (r h : List Int) (p : Nat) (hp : p < h.length) : cend r h p < h.length := by
  rw [cend_eq]
  split
  · rename_i c
    exact cend_lt r h (p + 1) c.1
  · exact hp
termination_by h.length - p
theorem cend_chg (r h : List Int) (p : Nat) : ∀ x, p < x → x ≤ cend r h p → stayB r h x = false ∧ gN h x = gN h (x - 1) ∧ x < h.length := by
  intro x h1 h2
  rw [cend_eq] at h2
  split at h2
  · rename_i c
    by_cases hx : x = p + 1
    · subst hx
      exact ⟨c.2.2, by rw [Nat.add_sub_cancel]; exact c.2.1, c.1⟩
    · exact cend_chg r h (p + 1) x (by omega) h2
  · omega
termination_by h.length - p
theorem cend_stop (r h : List Int) (p : Nat) : ¬ (cend r h p + 1 < h.length ∧ gN h (cend r h p + 1) = gN h (cend r h p) ∧ stayB r h (cend r h p + 1) = false) := by
  rw [cend_eq]
  split
  · exact cend_stop r h (p + 1)
  · rename_i c
    exact c
termination_by h.length - p
theorem ps_start (r h : List Int) (x : Nat) (hc : stayB r h x = false) : ∃ p, p ≤ x ∧ psB r h p = true ∧ ∀ y, p < y → y ≤ x → stayB r h y = false ∧ gN h y = gN h (y - 1) := by
  by_cases z : psB r h x = true
  · exact ⟨x, Nat.le_refl _, z, fun y h1 h2 => by omega⟩
  · unfold psB at z
    rw [hc] at z
    simp only [Bool.not_false, Bool.true_and, Bool.or_eq_true, not_or, Bool.not_eq_true] at z
    obtain ⟨z1, z2⟩ := z
    have hb := begB_false.mp z1
    obtain ⟨p, h1, h2, h3⟩ := ps_start r h (x - 1) z2
    refine ⟨p, by omega, h2, fun y h4 h5 => ?_⟩
    by_cases w : y = x
    · rw [w]
      exact ⟨hc, hb.2⟩
    · exact h3 y h4 (by omega)
termination_by x
decreasing_by
  have := begB_false.mp z1
  omega
theorem same_down {h : List Int} {p x : Nat} (hs : ∀ y, p < y → y ≤ x → gN h y = gN h (y - 1)) : ∀ y, p ≤ y → y ≤ x → gN h y = gN h p := by
  intro y
  induction y with
  | zero => intro h1 _; rw [show p = 0 by omega]
  | succ y ih =>
    intro h1 h2
    by_cases z : p = y + 1
    · rw [z]
    · rw [hs (y + 1) (by omega) h2, Nat.add_sub_cancel]
      exact ih (by omega) (by omega)
theorem nextL_parts (r h : List Int) : nextL (partsL r h) = pers h.length (fsB r h) := by
  refine lt_one (sset_sorted _) (pers_sorted _ _) fun x => ?_
  rw [nextL, sset_mem, List.mem_append, List.mem_map, List.mem_map, mem_pers]
  unfold partsL
  constructor
  · rintro (⟨q, hq, rfl⟩ | ⟨q, hq, rfl⟩)
    · rw [List.mem_filter, List.mem_map] at hq
      obtain ⟨⟨p, hp, rfl⟩, hL⟩ := hq
      rw [List.mem_filter, List.mem_range] at hp
      have hL' : (!begB h p) = true := hL
      refine ⟨p, hp.1, ?_, rfl⟩
      have h2 := hp.2
      unfold psB at h2
      rw [Bool.not_eq_true'] at hL'
      rw [hL', Bool.false_or, Bool.and_eq_true] at h2
      unfold fsB
      rw [h2.1, hL', h2.2]
      rfl
    · rw [List.mem_filter, List.mem_map] at hq
      obtain ⟨⟨p, hp, rfl⟩, hR⟩ := hq
      rw [List.mem_filter, List.mem_range] at hp
      have hR' := of_decide_eq_true hR
      refine ⟨cend r h p, cend_lt r h p hp.1, ?_, rfl⟩
      have hch : stayB r h (cend r h p) = false := by
        by_cases z : cend r h p = p
        · rw [z]
          have h2 := hp.2
          unfold psB at h2
          rw [Bool.and_eq_true, Bool.not_eq_true'] at h2
          exact h2.1
        · have := cend_ge r h p
          exact (cend_chg r h p (cend r h p) (by omega) (Nat.le_refl _)).1
      have hst : stayB r h (cend r h p + 1) = true := by
        cases z : stayB r h (cend r h p + 1) with
        | true => rfl
        | false => exact absurd ⟨hR'.1, hR'.2, z⟩ (cend_stop r h p)
      unfold fsB
      rw [hch, hst, decide_eq_true hR']
      simp
  · rintro ⟨p, hp, hf, rfl⟩
    unfold fsB at hf
    rw [Bool.and_eq_true, Bool.not_eq_true', Bool.or_eq_true, Bool.and_eq_true, Bool.and_eq_true, Bool.not_eq_true', decide_eq_true_iff] at hf
    obtain ⟨hc, hf⟩ := hf
    rcases hf with ⟨h1, h2⟩ | ⟨h1, h2⟩
    · left
      refine ⟨prtOf r h p, ?_, rfl⟩
      rw [List.mem_filter, List.mem_map]
      refine ⟨⟨p, ?_, rfl⟩, ?_⟩
      · rw [List.mem_filter, List.mem_range]
        refine ⟨hp, ?_⟩
        unfold psB
        rw [hc, h2]
        simp
      · show (!begB h p) = true
        rw [h1]
        rfl
    · right
      obtain ⟨q, q1, q2, q3⟩ := ps_start r h p hc
      have ce : cend r h q = p := cend_run r h q p q1 hp (fun y h4 h5 => (q3 y h4 h5).1) (same_down fun y h4 h5 => (q3 y h4 h5).2) (fun z => by
        have := z.2.2
        rw [h2] at this
        cases this)
      refine ⟨prtOf r h q, ?_, ?_⟩
      · rw [List.mem_filter, List.mem_map]
        refine ⟨⟨q, ?_, rfl⟩, ?_⟩
        · rw [List.mem_filter, List.mem_range]
          exact ⟨by omega, q2⟩
        · show decide (cend r h q + 1 < h.length ∧ gN h (cend r h q + 1) = gN h (cend r h q)) = true
          rw [ce]
          exact decide_eq_true h1
      · show ((cend r h q : Nat) : Int) = (p : Int)
        rw [ce]
/-- the people of all parts -/
def rngP (p : P4) : List Nat := List.range' p.f (p.l + 1 - p.f)
theorem chg_parts (r h : List Int) (t : Nat) (htl : h.length ≤ t ∨ begB h t = true ∨ stayB r h (t - 1) = true ∨ stayB r h t = true) :
    (((List.range' t (h.length - t)).filter (psB r h)).map (prtOf r h)).flatMap rngP = (List.range' t (h.length - t)).filter fun p => !stayB r h p := by
  by_cases ht : t < h.length
  · rw [show h.length - t = h.length - (t + 1) + 1 by omega, List.range'_succ]
    by_cases z : stayB r h t = true
    · have hp : psB r h t = false := by
        unfold psB
        rw [z]
        rfl
      rw [List.filter_cons_of_neg (by rw [hp]; decide), List.filter_cons_of_neg (by rw [z]; decide)]
      exact chg_parts r h (t + 1) (.inr (.inr (.inl z)))
    · have z' := Bool.eq_false_iff.mpr z
      have hp : psB r h t = true := by
        unfold psB
        rw [z']
        rcases htl with w | w | w | w
        · omega
        · rw [w]; rfl
        · rw [w]; simp
        · rw [z'] at w; cases w
      have g := cend_ge r h t
      have l := cend_lt r h t ht
      have ch := cend_chg r h t
      have cs := cend_stop r h t
      rw [List.filter_cons_of_pos hp, List.filter_cons_of_pos (by rw [z']; rfl), List.map_cons, List.flatMap_cons]
      have split : List.range' (t + 1) (h.length - (t + 1)) = List.range' (t + 1) (cend r h t - t) ++ List.range' (cend r h t + 1) (h.length - (cend r h t + 1)) := by
        rw [show h.length - (t + 1) = (cend r h t - t) + (h.length - (cend r h t + 1)) by omega, ← List.range'_append_1]
        congr 2
        omega
      have mid : ∀ x, x ∈ List.range' (t + 1) (cend r h t - t) → stayB r h x = false ∧ psB r h x = false := by
        intro x hx
        rw [List.mem_range'_1] at hx
        have c1 := ch x (by omega) (by omega)
        refine ⟨c1.1, ?_⟩
        unfold psB
        have hx1 : stayB r h (x - 1) = false := by
          by_cases w : x - 1 = t
          · rw [w]; exact z'
          · exact (ch (x - 1) (by omega) (by omega)).1
        rw [hx1, begB_false.mpr ⟨by omega, c1.2.1⟩]
        simp
      have e1 : (List.range' (t + 1) (cend r h t - t)).filter (psB r h) = [] := List.filter_eq_nil_iff.mpr (fun x hx => by rw [(mid x hx).2]; decide)
      have e2 : (List.range' (t + 1) (cend r h t - t)).filter (fun p => !stayB r h p) = List.range' (t + 1) (cend r h t - t) := List.filter_eq_self.mpr (fun x hx => by rw [(mid x hx).1]; rfl)
      rw [split, List.filter_append, List.filter_append, e1, List.nil_append, e2]
      rw [chg_parts r h (cend r h t + 1) (by
        by_cases w1 : h.length ≤ cend r h t + 1
        · exact .inl w1
        · by_cases w2 : gN h (cend r h t + 1) = gN h (cend r h t)
          · right; right; right
            cases w3 : stayB r h (cend r h t + 1) with
            | true => rfl
            | false => exact absurd ⟨by omega, w2, w3⟩ cs
          · right; left
            exact begB_iff.mpr (.inr (by rw [Nat.add_sub_cancel]; exact w2)))]
      rw [← List.cons_append]
      congr 1
      unfold rngP prtOf
      dsimp only
      rw [show cend r h t + 1 - t = cend r h t - t + 1 by omega, List.range'_succ]
  · rw [show h.length - t = 0 by omega]
    rfl
termination_by h.length - t
theorem parts_chg (r h : List Int) : (partsL r h).flatMap rngP = (List.range h.length).filter fun p => !stayB r h p := by
  have := chg_parts r h 0 (.inr (.inl (begB_iff.mpr (.inl rfl))))
  rw [Nat.sub_zero, ← List.range_eq_range'] at this
  exact this
end DL
end
section
/-! MC1: rows as functions on places; which rows follow. -/
namespace MC
def med (a b c : Int) : Int := max (min a b) (min (max a b) c)
def upd (f : Nat → Int) (p : Nat) (v : Int) : Nat → Int := fun x => if x = p then v else f x
@[simp] theorem upd_same {f : Nat → Int} {p : Nat} {v : Int} : upd f p v p = v := by simp [upd]
theorem upd_ne {f : Nat → Int} {p q : Nat} {v : Int} (h : q ≠ p) : upd f p v q = f q := by simp [upd, h]
def call (n : Nat) (f : Nat → Int) (p : Nat) : Nat → Int := if 0 < p ∧ p + 1 < n then upd f p (med (f (p - 1)) (f p) (f (p + 1))) else f
def Top (n : Nat) (f : Nat → Int) (p : Nat) : Prop := 0 < p ∧ p + 1 < n ∧ f (p - 1) < f p ∧ f (p + 1) < f p
def Dip (n : Nat) (f : Nat → Int) (p : Nat) : Prop := 0 < p ∧ p + 1 < n ∧ f p < f (p - 1) ∧ f p < f (p + 1)
/-- only tops fell and only dips rose -/
def Chg (n : Nat) (f h : Nat → Int) : Prop := ∀ p, p < n → f p = h p ∨ (Top n f p ∧ h p < f p) ∨ (Dip n f p ∧ f p < h p)
def Ord (n : Nat) (f h : Nat → Int) : Prop := ∀ p, p + 1 < n → (f p < f (p + 1) → h p ≤ h (p + 1)) ∧ (f (p + 1) < f p → h (p + 1) ≤ h p) ∧ (f p = f (p + 1) → h p = h (p + 1))
/-- p and q stand in one run of h -/
def Same (h : Nat → Int) (p q : Nat) : Prop := ∀ x, (p ≤ x ∧ x ≤ q) ∨ (q ≤ x ∧ x ≤ p) → h x = h p
def Stay (n : Nat) (f h : Nat → Int) : Prop := ∀ p, p < n → ∃ q, q < n ∧ f q = h q ∧ Same h p q
structure Fol (n : Nat) (f h : Nat → Int) : Prop where
  c : Chg n f h
  o : Ord n f h
  r : Stay n f h
theorem Same.refl (h : Nat → Int) (p : Nat) : Same h p p := fun x hx => by rw [show x = p by omega]
theorem fol_refl (n : Nat) (f : Nat → Int) : Fol n f f := ⟨fun p _ => .inl rfl, fun p _ => ⟨by omega, by omega, by omega⟩, fun p h => ⟨p, h, rfl, Same.refl f p⟩⟩
theorem med_cases (a b c : Int) : (med a b c = b) ∨ (a < b ∧ c < b ∧ med a b c = max a c ∧ med a b c < b) ∨ (b < a ∧ b < c ∧ med a b c = min a c ∧ b < med a b c) := by
  unfold med
  omega
theorem med_top {a b c : Int} (h1 : a < b) (h2 : c < b) : med a b c = max a c := by
  unfold med
  omega
theorem med_dip {a b c : Int} (h1 : b < a) (h2 : b < c) : med a b c = min a c := by
  unfold med
  omega
theorem call_cases (n : Nat) (h : Nat → Int) (p : Nat) : call n h p = h ∨ (Top n h p ∧ call n h p = upd h p (max (h (p - 1)) (h (p + 1)))) ∨ (Dip n h p ∧ call n h p = upd h p (min (h (p - 1)) (h (p + 1)))) := by
  unfold call
  by_cases c : 0 < p ∧ p + 1 < n
  · rw [if_pos c]
    rcases med_cases (h (p - 1)) (h p) (h (p + 1)) with e | ⟨a, b, e, _⟩ | ⟨a, b, e, _⟩
    · left
      rw [e]
      funext x
      by_cases hx : x = p
      · subst hx
        simp
      · rw [upd_ne hx]
    · right; left
      exact ⟨⟨c.1, c.2, a, b⟩, by rw [e]⟩
    · right; right
      exact ⟨⟨c.1, c.2, a, b⟩, by rw [e]⟩
  · rw [if_neg c]
    exact .inl rfl
/-- who moves now stood still so far, and was a top (dip) of the beginning -/
theorem move_top {n : Nat} {f h : Nat → Int} {p : Nat} (F : Fol n f h) (T : Top n h p) : f p = h p ∧ Top n f p := by
  obtain ⟨p0, p1, a, b⟩ := T
  have o1 := F.o (p - 1) (by omega)
  rw [show p - 1 + 1 = p by omega] at o1
  have o2 := F.o p p1
  obtain ⟨q, hq, e, s⟩ := F.r p (by omega)
  have : q = p := by
    rcases Nat.lt_trichotomy q p with z | z | z
    · have := s (p - 1) (by omega)
      omega
    · exact z
    · have := s (p + 1) (by omega)
      omega
  subst this
  exact ⟨e, p0, p1, by omega, by omega⟩
theorem move_dip {n : Nat} {f h : Nat → Int} {p : Nat} (F : Fol n f h) (T : Dip n h p) : f p = h p ∧ Dip n f p := by
  obtain ⟨p0, p1, a, b⟩ := T
  have o1 := F.o (p - 1) (by omega)
  rw [show p - 1 + 1 = p by omega] at o1
  have o2 := F.o p p1
  obtain ⟨q, hq, e, s⟩ := F.r p (by omega)
  have : q = p := by
    rcases Nat.lt_trichotomy q p with z | z | z
    · have := s (p - 1) (by omega)
      omega
    · exact z
    · have := s (p + 1) (by omega)
      omega
  subst this
  exact ⟨e, p0, p1, by omega, by omega⟩
theorem same_upd {h : Nat → Int} {p q v u x : Nat} {w : Int} (s : Same h p q) (hv : ¬ ((p ≤ v ∧ v ≤ q) ∨ (q ≤ v ∧ v ≤ p))) : Same (upd h v w) p q := by
  intro y hy
  have e := s y hy
  rw [upd_ne (by omega), upd_ne (by omega), e]
theorem stay_move {n : Nat} {f h : Nat → Int} {p q : Nat} {v : Int} (hp : p < n) (R : Stay n f h) (hq : q < n) (hpq : q = p + 1 ∨ p = q + 1) (hv : v = h q) (h1 : 0 < p → h (p - 1) ≠ h p) (h2 : p + 1 < n → h (p + 1) ≠ h p) : Stay n f (upd h p v) := by
  have key : ∀ x, x < n → x ≠ p → ∃ y, y < n ∧ y ≠ p ∧ f y = upd h p v y ∧ Same (upd h p v) x y := by
    intro x hx hxp
    obtain ⟨y, hy, e, s⟩ := R x hx
    have c1 : ¬ ((x ≤ p ∧ p ≤ y) ∨ (y ≤ p ∧ p ≤ x)) := by
      intro c
      rcases c with ⟨c1, c2⟩ | ⟨c1, c2⟩
      · have a := s p (.inl ⟨c1, c2⟩)
        have b := s (p - 1) (.inl ⟨by omega, by omega⟩)
        have := h1 (by omega)
        omega
      · have a := s p (.inr ⟨c1, c2⟩)
        have b := s (p + 1) (.inr ⟨by omega, by omega⟩)
        have := h2 (by omega)
        omega
    refine ⟨y, hy, by omega, ?_, same_upd (u := 0) (x := 0) s c1⟩
    rw [upd_ne (by omega)]
    exact e
  intro x hx
  by_cases hxp : x = p
  · subst hxp
    obtain ⟨y, hy, hyp, e, s⟩ := key q hq (by omega)
    refine ⟨y, hy, e, ?_⟩
    intro z hz
    by_cases hzx : z = x
    · rw [hzx]
    · have hzq : (q ≤ z ∧ z ≤ y) ∨ (y ≤ z ∧ z ≤ q) ∨ ¬ ((q ≤ z ∧ z ≤ y) ∨ (y ≤ z ∧ z ≤ q)) := by omega
      have hqv : upd h x v q = v := by
        rw [upd_ne (by omega), hv]
      rcases hzq with c | c | c
      · rw [s z (.inl c), hqv, upd_same]
      · rw [s z (.inr c), hqv, upd_same]
      · exfalso
        -- z lies between x and y but not between q and y, hence z = x
        have : (q ≤ x ∧ x ≤ y) ∨ (y ≤ x ∧ x ≤ q) ∨ z = x := by omega
        rcases this with c2 | c2 | c2
        · omega
        · omega
        · exact hzx c2
  · obtain ⟨y, hy, hyp, e, s⟩ := key x hx hxp
    exact ⟨y, hy, e, s⟩
theorem fol_call {n : Nat} {f h : Nat → Int} (F : Fol n f h) (p : Nat) : Fol n f (call n h p) := by
  rcases call_cases n h p with e | ⟨T, e⟩ | ⟨T, e⟩
  · rw [e]
    exact F
  · obtain ⟨e0, T0⟩ := move_top F T
    rw [e]
    obtain ⟨p0, p1, a, b⟩ := T
    refine ⟨fun x hx => ?_, fun x hx => ?_, ?_⟩
    · by_cases hxp : x = p
      · subst hxp
        right; left
        refine ⟨T0, ?_⟩
        rw [upd_same]
        omega
      · rw [upd_ne hxp]
        exact F.c x hx
    · have o := F.o x hx
      by_cases hxp : x = p
      · subst hxp
        rw [upd_same, upd_ne (by omega)]
        obtain ⟨_, _, c1, c2⟩ := T0
        refine ⟨by omega, by omega, by omega⟩
      · by_cases hxp1 : x + 1 = p
        · subst hxp1
          rw [upd_same, upd_ne (by omega)]
          obtain ⟨_, _, c1, c2⟩ := T0
          simp only [Nat.add_sub_cancel] at *
          refine ⟨by omega, by omega, by omega⟩
        · rw [upd_ne hxp, upd_ne hxp1]
          exact o
    · by_cases hc : h (p - 1) ≤ h (p + 1)
      · exact stay_move (q := p + 1) (by omega) F.r p1 (.inl rfl) (by omega) (by omega) (by omega)
      · exact stay_move (q := p - 1) (by omega) F.r (by omega) (.inr (by omega)) (by omega) (by omega) (by omega)
  · obtain ⟨e0, T0⟩ := move_dip F T
    rw [e]
    obtain ⟨p0, p1, a, b⟩ := T
    refine ⟨fun x hx => ?_, fun x hx => ?_, ?_⟩
    · by_cases hxp : x = p
      · subst hxp
        right; right
        refine ⟨T0, ?_⟩
        rw [upd_same]
        omega
      · rw [upd_ne hxp]
        exact F.c x hx
    · have o := F.o x hx
      by_cases hxp : x = p
      · subst hxp
        rw [upd_same, upd_ne (by omega)]
        obtain ⟨_, _, c1, c2⟩ := T0
        refine ⟨by omega, by omega, by omega⟩
      · by_cases hxp1 : x + 1 = p
        · subst hxp1
          rw [upd_same, upd_ne (by omega)]
          obtain ⟨_, _, c1, c2⟩ := T0
          simp only [Nat.add_sub_cancel] at *
          refine ⟨by omega, by omega, by omega⟩
        · rw [upd_ne hxp, upd_ne hxp1]
          exact o
    · by_cases hc : h (p + 1) ≤ h (p - 1)
      · exact stay_move (q := p + 1) (by omega) F.r p1 (.inl rfl) (by omega) (by omega) (by omega)
      · exact stay_move (q := p - 1) (by omega) F.r (by omega) (.inr (by omega)) (by omega) (by omega) (by omega)
/-- beside a person who moved and whose neighbour of the same run stayed: the call goes there -/
theorem fol_step {n : Nat} {f h : Nat → Int} (F : Fol n f h) {p q : Nat} (hp : p < n) (hq : q < n) (hpq : q = p + 1 ∨ p = q + 1) (hm : f p ≠ h p) (hs : f q = h q) (he : h p = h q) :
    call n f p = upd f p (h p) ∧ Fol n (upd f p (h p)) h := by
  have C := F.c p hp
  rcases C with C | ⟨T, lt⟩ | ⟨T, lt⟩
  · exact absurd C hm
  · obtain ⟨p0, p1, a, b⟩ := T
    have o1 := F.o (p - 1) (by omega)
    rw [show p - 1 + 1 = p by omega] at o1
    have o2 := F.o p p1
    have g1 : f (p - 1) ≤ h (p - 1) := by
      rcases F.c (p - 1) (by omega) with c | ⟨⟨c0, c1, c2, c3⟩, c4⟩ | c
      · omega
      · rw [show p - 1 + 1 = p by omega] at c3
        omega
      · omega
    have g2 : f (p + 1) ≤ h (p + 1) := by
      rcases F.c (p + 1) (by omega) with c | ⟨⟨c0, c1, c2, c3⟩, c4⟩ | c
      · omega
      · rw [show p + 1 - 1 = p by omega] at c2
        omega
      · omega
    have hv : max (f (p - 1)) (f (p + 1)) = h p := by
      rcases hpq with z | z
      · subst z
        omega
      · have z' : q = p - 1 := by omega
        subst z'
        omega
    refine ⟨?_, ?_, ?_, ?_⟩
    · unfold call
      rw [if_pos ⟨p0, p1⟩, med_top a b, hv]
    · intro x hx
      by_cases hxp : x = p
      · subst hxp
        left
        rw [upd_same]
      · rw [upd_ne hxp]
        rcases F.c x hx with c | ⟨⟨c0, c1, c2, c3⟩, c4⟩ | ⟨⟨c0, c1, c2, c3⟩, c4⟩
        · exact .inl c
        · right; left
          refine ⟨⟨c0, c1, ?_, ?_⟩, c4⟩
          · rw [upd_ne (show x ≠ p from hxp)]
            by_cases y : x - 1 = p
            · rw [y, upd_same]
              rw [y] at c2
              omega
            · rw [upd_ne y]
              exact c2
          · rw [upd_ne (show x ≠ p from hxp)]
            by_cases y : x + 1 = p
            · rw [y, upd_same]
              rw [y] at c3
              omega
            · rw [upd_ne y]
              exact c3
        · right; right
          refine ⟨⟨c0, c1, ?_, ?_⟩, c4⟩
          · rw [upd_ne (show x ≠ p from hxp)]
            by_cases y : x - 1 = p
            · rw [y, upd_same]
              have : x = p + 1 := by omega
              subst this
              omega
            · rw [upd_ne y]
              exact c2
          · rw [upd_ne (show x ≠ p from hxp)]
            by_cases y : x + 1 = p
            · rw [y, upd_same]
              have : x = p - 1 := by omega
              subst this
              omega
            · rw [upd_ne y]
              exact c3
    · intro x hx
      have o := F.o x hx
      by_cases hxp : x = p
      · subst hxp
        rw [upd_same, upd_ne (by omega)]
        refine ⟨by omega, by omega, by omega⟩
      · by_cases hxp1 : x + 1 = p
        · subst hxp1
          rw [upd_same, upd_ne (by omega)]
          simp only [Nat.add_sub_cancel] at *
          refine ⟨by omega, by omega, by omega⟩
        · rw [upd_ne hxp, upd_ne hxp1]
          exact o
    · intro x hx
      obtain ⟨y, hy, e, s⟩ := F.r x hx
      refine ⟨y, hy, ?_, s⟩
      by_cases hyp : y = p
      · subst hyp
        rw [upd_same]
      · rw [upd_ne hyp]
        exact e
  · obtain ⟨p0, p1, a, b⟩ := T
    have o1 := F.o (p - 1) (by omega)
    rw [show p - 1 + 1 = p by omega] at o1
    have o2 := F.o p p1
    have g1 : h (p - 1) ≤ f (p - 1) := by
      rcases F.c (p - 1) (by omega) with c | c | ⟨⟨c0, c1, c2, c3⟩, c4⟩
      · omega
      · omega
      · rw [show p - 1 + 1 = p by omega] at c3
        omega
    have g2 : h (p + 1) ≤ f (p + 1) := by
      rcases F.c (p + 1) (by omega) with c | c | ⟨⟨c0, c1, c2, c3⟩, c4⟩
      · omega
      · omega
      · rw [show p + 1 - 1 = p by omega] at c2
        omega
    have hv : min (f (p - 1)) (f (p + 1)) = h p := by
      rcases hpq with z | z
      · subst z
        omega
      · have z' : q = p - 1 := by omega
        subst z'
        omega
    refine ⟨?_, ?_, ?_, ?_⟩
    · unfold call
      rw [if_pos ⟨p0, p1⟩, med_dip a b, hv]
    · intro x hx
      by_cases hxp : x = p
      · subst hxp
        left
        rw [upd_same]
      · rw [upd_ne hxp]
        rcases F.c x hx with c | ⟨⟨c0, c1, c2, c3⟩, c4⟩ | ⟨⟨c0, c1, c2, c3⟩, c4⟩
        · exact .inl c
        · right; left
          refine ⟨⟨c0, c1, ?_, ?_⟩, c4⟩
          · rw [upd_ne (show x ≠ p from hxp)]
            by_cases y : x - 1 = p
            · rw [y, upd_same]
              have : x = p + 1 := by omega
              subst this
              omega
            · rw [upd_ne y]
              exact c2
          · rw [upd_ne (show x ≠ p from hxp)]
            by_cases y : x + 1 = p
            · rw [y, upd_same]
              have : x = p - 1 := by omega
              subst this
              omega
            · rw [upd_ne y]
              exact c3
        · right; right
          refine ⟨⟨c0, c1, ?_, ?_⟩, c4⟩
          · rw [upd_ne (show x ≠ p from hxp)]
            by_cases y : x - 1 = p
            · rw [y, upd_same]
              rw [y] at c2
              omega
            · rw [upd_ne y]
              exact c2
          · rw [upd_ne (show x ≠ p from hxp)]
            by_cases y : x + 1 = p
            · rw [y, upd_same]
              rw [y] at c3
              omega
            · rw [upd_ne y]
              exact c3
    · intro x hx
      have o := F.o x hx
      by_cases hxp : x = p
      · subst hxp
        rw [upd_same, upd_ne (by omega)]
        refine ⟨by omega, by omega, by omega⟩
      · by_cases hxp1 : x + 1 = p
        · subst hxp1
          rw [upd_same, upd_ne (by omega)]
          simp only [Nat.add_sub_cancel] at *
          refine ⟨by omega, by omega, by omega⟩
        · rw [upd_ne hxp, upd_ne hxp1]
          exact o
    · intro x hx
      obtain ⟨y, hy, e, s⟩ := F.r x hx
      refine ⟨y, hy, ?_, s⟩
      by_cases hyp : y = p
      · subst hyp
        rw [upd_same]
      · rw [upd_ne hyp]
        exact e
/-- whose call makes its number: beside one of the same run who stayed -/
theorem fol_next {n : Nat} {f h : Nat → Int} (F : Fol n f h) {p : Nat} (hp : p < n) (hm : f p ≠ h p) (hc : call n f p p = h p) : ∃ q, q < n ∧ (q = p + 1 ∨ p = q + 1) ∧ f q = h q ∧ h p = h q := by
  rcases F.c p hp with C | ⟨T, lt⟩ | ⟨T, lt⟩
  · exact absurd C hm
  · obtain ⟨p0, p1, a, b⟩ := T
    have e : max (f (p - 1)) (f (p + 1)) = h p := by
      unfold call at hc
      rw [if_pos ⟨p0, p1⟩, med_top a b, upd_same] at hc
      exact hc
    have o1 := F.o (p - 1) (by omega)
    rw [show p - 1 + 1 = p by omega] at o1
    have o2 := F.o p p1
    have g1 : f (p - 1) ≤ h (p - 1) := by
      rcases F.c (p - 1) (by omega) with c | ⟨⟨c0, c1, c2, c3⟩, c4⟩ | c
      · omega
      · rw [show p - 1 + 1 = p by omega] at c3
        omega
      · omega
    have g2 : f (p + 1) ≤ h (p + 1) := by
      rcases F.c (p + 1) (by omega) with c | ⟨⟨c0, c1, c2, c3⟩, c4⟩ | c
      · omega
      · rw [show p + 1 - 1 = p by omega] at c2
        omega
      · omega
    by_cases z : f (p - 1) ≤ f (p + 1)
    · exact ⟨p + 1, p1, .inl rfl, by omega, by omega⟩
    · exact ⟨p - 1, by omega, .inr (by omega), by omega, by omega⟩
  · obtain ⟨p0, p1, a, b⟩ := T
    have e : min (f (p - 1)) (f (p + 1)) = h p := by
      unfold call at hc
      rw [if_pos ⟨p0, p1⟩, med_dip a b, upd_same] at hc
      exact hc
    have o1 := F.o (p - 1) (by omega)
    rw [show p - 1 + 1 = p by omega] at o1
    have o2 := F.o p p1
    have g1 : h (p - 1) ≤ f (p - 1) := by
      rcases F.c (p - 1) (by omega) with c | c | ⟨⟨c0, c1, c2, c3⟩, c4⟩
      · omega
      · omega
      · rw [show p - 1 + 1 = p by omega] at c3
        omega
    have g2 : h (p + 1) ≤ f (p + 1) := by
      rcases F.c (p + 1) (by omega) with c | c | ⟨⟨c0, c1, c2, c3⟩, c4⟩
      · omega
      · omega
      · rw [show p + 1 - 1 = p by omega] at c2
        omega
    by_cases z : f (p + 1) ≤ f (p - 1)
    · exact ⟨p + 1, p1, .inl rfl, by omega, by omega⟩
    · exact ⟨p - 1, by omega, .inr (by omega), by omega, by omega⟩
/-- somebody can be called next -/
theorem fol_some {n : Nat} {f h : Nat → Int} (F : Fol n f h) {p : Nat} (hp : p < n) (hm : f p ≠ h p) : ∃ p q, p < n ∧ q < n ∧ (q = p + 1 ∨ p = q + 1) ∧ f p ≠ h p ∧ f q = h q ∧ h p = h q := by
  obtain ⟨q, hq, e, s⟩ := F.r p hp
  have hne : p ≠ q := fun z => hm (by rw [z]; exact e)
  -- walk from q towards p: the first changed one
  have up : ∀ d a, f a = h a → f (a + d) ≠ h (a + d) → ∃ b, a ≤ b ∧ b < a + d ∧ f b = h b ∧ f (b + 1) ≠ h (b + 1) := by
    intro d
    induction d with
    | zero => intro a e1 e2; exact absurd e1 e2
    | succ d ih =>
      intro a e1 e2
      by_cases z : f (a + d) = h (a + d)
      · exact ⟨a + d, by omega, by omega, z, e2⟩
      · obtain ⟨b, b1, b2, b3, b4⟩ := ih a e1 z
        exact ⟨b, b1, by omega, b3, b4⟩
  have down : ∀ d a, f a ≠ h a → f (a + d) = h (a + d) → ∃ b, a ≤ b ∧ b < a + d ∧ f b ≠ h b ∧ f (b + 1) = h (b + 1) := by
    intro d
    induction d with
    | zero => intro a e1 e2; exact absurd e2 e1
    | succ d ih =>
      intro a e1 e2
      by_cases z : f (a + d) = h (a + d)
      · obtain ⟨b, b1, b2, b3, b4⟩ := ih a e1 z
        exact ⟨b, b1, by omega, b3, b4⟩
      · exact ⟨a + d, by omega, by omega, z, e2⟩
  rcases Nat.lt_or_ge p q with z | z
  · obtain ⟨b, b1, b2, b3, b4⟩ := down (q - p) p hm (by rw [show p + (q - p) = q by omega]; exact e)
    have s1 := s b (by omega)
    have s2 := s (b + 1) (by omega)
    exact ⟨b, b + 1, by omega, by omega, .inl rfl, b3, b4, by omega⟩
  · obtain ⟨b, b1, b2, b3, b4⟩ := up (p - q) q e (by rw [show q + (p - q) = p by omega]; exact hm)
    have s1 := s b (by omega)
    have s2 := s (b + 1) (by omega)
    exact ⟨b + 1, b, by omega, by omega, .inr rfl, b4, b3, by omega⟩
end MC
end
section
set_option maxRecDepth 100000
set_option maxHeartbeats 400000
/-! ML5: lists and the mathematics of MC1. -/
namespace DL
open PySem PySem.Spec PyProof.Rows L2
theorem fstB_none_iff {n : Nat} {P : Nat → Bool} : fstB n P = none ↔ ∀ i, i < n → P i = false := by
  constructor
  · intro h i hi
    unfold fstB at h
    rw [List.head?_eq_none_iff, List.filter_eq_nil_iff] at h
    exact Bool.eq_false_iff.mpr (h i (List.mem_range.mpr hi))
  · exact fst_none
theorem barL_none {r h : List Int} : barL r h = none ↔ (∀ p, p < r.length → wcB r h p = false) ∧ (∀ p, p < r.length - 1 → woB r h p = false) ∧ (∀ p, p < h.length → wrB r h p = false) := by
  unfold barL
  rw [← fstB_none_iff, ← fstB_none_iff, ← fstB_none_iff]
  cases fstB r.length (wcB r h) with
  | some p => simp
  | none =>
    cases fstB (r.length - 1) (woB r h) with
    | some p => simp
    | none =>
      cases fstB h.length (wrB r h) with
      | some p => simp
      | none => simp
theorem isTop_iff {r : List Int} {p : Nat} : isTop r p = true ↔ MC.Top r.length (gN r) p := by
  unfold isTop MC.Top
  rw [Bool.and_eq_true, Bool.and_eq_true, Bool.and_eq_true, decide_eq_true_iff, decide_eq_true_iff, decide_eq_true_iff, decide_eq_true_iff]
  constructor
  · rintro ⟨⟨⟨a, b⟩, c⟩, d⟩
    exact ⟨a, b, c, d⟩
  · rintro ⟨a, b, c, d⟩
    exact ⟨⟨⟨a, b⟩, c⟩, d⟩
theorem isDip_iff {r : List Int} {p : Nat} : isDip r p = true ↔ MC.Dip r.length (gN r) p := by
  unfold isDip MC.Dip
  rw [Bool.and_eq_true, Bool.and_eq_true, Bool.and_eq_true, decide_eq_true_iff, decide_eq_true_iff, decide_eq_true_iff, decide_eq_true_iff]
  constructor
  · rintro ⟨⟨⟨a, b⟩, c⟩, d⟩
    exact ⟨a, b, c, d⟩
  · rintro ⟨a, b, c, d⟩
    exact ⟨⟨⟨a, b⟩, c⟩, d⟩
theorem wcB_iff {r h : List Int} {p : Nat} : wcB r h p = false ↔ gN r p = gN h p ∨ (MC.Top r.length (gN r) p ∧ gN h p < gN r p) ∨ (MC.Dip r.length (gN r) p ∧ gN r p < gN h p) := by
  unfold wcB
  rw [Bool.not_eq_false', Bool.or_eq_true, Bool.or_eq_true, Bool.and_eq_true, Bool.and_eq_true, decide_eq_true_iff, decide_eq_true_iff, decide_eq_true_iff, isTop_iff, isDip_iff]
theorem woB_iff {r h : List Int} {p : Nat} : woB r h p = false ↔ (gN r p < gN r (p + 1) → gN h p ≤ gN h (p + 1)) ∧ (gN r (p + 1) < gN r p → gN h (p + 1) ≤ gN h p) ∧ (gN r p = gN r (p + 1) → gN h p = gN h (p + 1)) := by
  unfold woB
  rw [Bool.or_eq_false_iff, Bool.or_eq_false_iff, ← Bool.decide_and, ← Bool.decide_and, ← decide_not, ← Bool.decide_and, decide_eq_false_iff_not, decide_eq_false_iff_not, decide_eq_false_iff_not]
  omega
theorem stayB_iff {r h : List Int} {p : Nat} : stayB r h p = true ↔ gN r p = gN h p := by
  unfold stayB
  rw [decide_eq_true_iff]
theorem stayB_false {r h : List Int} {p : Nat} : stayB r h p = false ↔ gN r p ≠ gN h p := by
  unfold stayB
  rw [decide_eq_false_iff_not]
theorem run_begin (h : List Int) (p : Nat) : ∃ a, a ≤ p ∧ begB h a = true ∧ ∀ x, a ≤ x → x ≤ p → gN h x = gN h a := by
  induction p with
  | zero => exact ⟨0, Nat.le_refl _, begB_iff.mpr (.inl rfl), fun x h1 h2 => by rw [show x = 0 by omega]⟩
  | succ p ih =>
    by_cases z : begB h (p + 1) = true
    · exact ⟨p + 1, Nat.le_refl _, z, fun x h1 h2 => by rw [show x = p + 1 by omega]⟩
    · have := begB_false.mp (Bool.eq_false_iff.mpr z)
      obtain ⟨a, h1, h2, h3⟩ := ih
      refine ⟨a, by omega, h2, fun x h4 h5 => ?_⟩
      by_cases w : x = p + 1
      · rw [w, this.2, Nat.add_sub_cancel]
        exact h3 p h1 (Nat.le_refl _)
      · exact h3 x h4 (by omega)
theorem mem_stayL_iff {r h : List Int} {a b x : Nat} : x ∈ stayL r h a b ↔ a ≤ x ∧ x ≤ b ∧ stayB r h x = true := by
  unfold stayL
  rw [List.mem_filter, List.mem_map]
  constructor
  · rintro ⟨⟨i, hi, rfl⟩, h2⟩
    rw [List.mem_range] at hi
    exact ⟨by omega, by omega, h2⟩
  · rintro ⟨h1, h2, h3⟩
    exact ⟨⟨x - a, List.mem_range.mpr (by omega), by omega⟩, h3⟩
theorem rend_within {h : List Int} {a q : Nat} (haq : a ≤ q) (hq : q < h.length) (hs : ∀ x, a ≤ x → x ≤ q → gN h x = gN h a) : q ≤ rend h a := by
  rw [rend_eq]
  by_cases z : a = q
  · split
    · have := rend_ge h (a + 1)
      omega
    · omega
  · rw [if_pos ⟨by omega, hs (a + 1) (by omega) (by omega)⟩]
    exact rend_within (a := a + 1) (by omega) hq (fun x h1 h2 => by rw [hs x (by omega) h2, hs (a + 1) (by omega) (by omega)])
termination_by q - a
theorem wr_iff {r h : List Int} (he : r.length = h.length) : (∀ p, p < h.length → wrB r h p = false) ↔ MC.Stay r.length (gN r) (gN h) := by
  constructor
  · intro H p hp
    obtain ⟨a, h1, h2, h3⟩ := run_begin h p
    have hw := H a (by omega)
    unfold wrB at hw
    rw [h2, Bool.true_and] at hw
    cases hl : stayL r h a (rend h a) with
    | nil => rw [hl] at hw; cases hw
    | cons q l =>
      have hq : q ∈ stayL r h a (rend h a) := by rw [hl]; simp
      rw [mem_stayL_iff] at hq
      have lt := rend_lt h a (by omega)
      have sm := rend_same h a
      refine ⟨q, by omega, stayB_iff.mp hq.2.2, fun x hx => ?_⟩
      have hpr := rend_within h1 (by omega) h3
      have key : ∀ x, a ≤ x → x ≤ rend h a → gN h x = gN h a := sm
      rw [key x (by omega) (by omega), key p (by omega) (by omega)]
  · intro H p hp
    unfold wrB
    cases hb : begB h p with
    | false => rfl
    | true =>
      rw [Bool.true_and]
      obtain ⟨q, hq, e, s⟩ := H p (by omega)
      have hpq : p ≤ q := by
        apply Classical.byContradiction
        intro z
        rcases begB_iff.mp hb with w | w
        · omega
        · exact w (s (p - 1) (.inr (by omega))).symm
      have hm : q ∈ stayL r h p (rend h p) := mem_stayL_iff.mpr ⟨hpq, rend_within hpq (by omega) (fun x h1 h2 => s x (.inl ⟨h1, h2⟩)), stayB_iff.mpr e⟩
      cases hl : stayL r h p (rend h p) with
      | nil => rw [hl] at hm; simp at hm
      | cons x l => rfl
/-- nothing bars: the row follows -/
theorem bar_fol {r h : List Int} (he : r.length = h.length) : barL r h = none ↔ MC.Fol r.length (gN r) (gN h) := by
  rw [barL_none]
  constructor
  · rintro ⟨h1, h2, h3⟩
    refine ⟨fun p hp => wcB_iff.mp (h1 p hp), fun p hp => woB_iff.mp (h2 p (by omega)), (wr_iff he).mp h3⟩
  · rintro ⟨h1, h2, h3⟩
    exact ⟨fun p hp => wcB_iff.mpr (h1 p hp), fun p hp => woB_iff.mpr (h2 p (by omega)), (wr_iff he).mpr h3⟩
theorem gN_call {r : List Int} {p : Nat} : gN (callL r p) = MC.call r.length (gN r) p := by
  funext q
  unfold callL MC.call
  split
  · rename_i c
    rw [gN_set]
    unfold MC.upd
    by_cases h : q = p
    · rw [if_pos ⟨h, by omega⟩, if_pos h]
      rfl
    · rw [if_neg (fun z => h z.1), if_neg h]
  · rfl
/-- calls one behind another -/
def runL (r : List Int) (ps : List Nat) : List Int := ps.foldl callL r
theorem runL_length (r : List Int) (ps : List Nat) : (runL r ps).length = r.length := by
  induction ps generalizing r with
  | nil => rfl
  | cons p ps ih =>
    show (runL (callL r p) ps).length = _
    rw [ih, callL_length]
theorem runL_take_succ (r : List Int) (ps : List Nat) (k : Nat) (h : k < ps.length) : runL r (ps.take (k + 1)) = callL (runL r (ps.take k)) ps[k] := by
  unfold runL
  rw [List.take_add_one, List.foldl_append, List.getElem?_eq_getElem h]
  rfl
theorem bar_refl (r : List Int) : barL r r = none := (bar_fol rfl).mpr (MC.fol_refl _ _)
theorem bar_call {r h : List Int} (he : r.length = h.length) (hb : barL r h = none) (p : Nat) : barL r (callL h p) = none := by
  rw [bar_fol (by rw [callL_length]; exact he), gN_call, ← he]
  exact MC.fol_call ((bar_fol he).mp hb) p
theorem bar_run {r : List Int} (ps : List Nat) : barL r (runL r ps) = none := by
  have : ∀ (ps : List Nat) (h : List Int), r.length = h.length → barL r h = none → barL r (runL h ps) = none := by
    intro ps
    induction ps with
    | nil => intro h _ hb; exact hb
    | cons p ps ih =>
      intro h he hb
      exact ih (callL h p) (by rw [callL_length]; exact he) (bar_call he hb p)
  exact this ps r rfl (bar_refl r)
/-- a call that changes: who was a top or a dip and had not moved so far -/
theorem call_moves {r h : List Int} (he : r.length = h.length) (hb : barL r h = none) {p : Nat} (hm : callL h p ≠ h) : p < h.length ∧ stayB r h p = true ∧ (isTop r p = true ∨ isDip r p = true) ∧ stayB r (callL h p) p = false ∧ ∀ q, q ≠ p → stayB r (callL h p) q = stayB r h q := by
  have F := (bar_fol he).mp hb
  rw [he] at F
  have hcall : gN (callL h p) = MC.call h.length (gN h) p := gN_call
  have key : ∀ v, gN (callL h p) = MC.upd (gN h) p v → ∀ q, q ≠ p → stayB r (callL h p) q = stayB r h q := by
    intro v hv q hq
    unfold stayB
    rw [hv, MC.upd_ne hq]
  rcases MC.call_cases h.length (gN h) p with e | ⟨T, e⟩ | ⟨T, e⟩
  · exfalso
    refine hm (list_ext_gN callL_length fun q _ => ?_)
    rw [hcall, e]
  · obtain ⟨e0, T0⟩ := MC.move_top F T
    have hp : p < h.length := by have := T.2.1; omega
    rw [← he] at T0
    refine ⟨hp, stayB_iff.mpr e0, .inl (isTop_iff.mpr T0), stayB_false.mpr ?_, key _ (by rw [hcall, e])⟩
    rw [hcall, e, MC.upd_same]
    obtain ⟨_, _, t1, t2⟩ := T
    omega
  · obtain ⟨e0, T0⟩ := MC.move_dip F T
    have hp : p < h.length := by have := T.2.1; omega
    rw [← he] at T0
    refine ⟨hp, stayB_iff.mpr e0, .inr (isDip_iff.mpr T0), stayB_false.mpr ?_, key _ (by rw [hcall, e])⟩
    rw [hcall, e, MC.upd_same]
    obtain ⟨_, _, t1, t2⟩ := T
    omega
/-- whom to call first: whose call makes its number -/
theorem fs_call {r h : List Int} (he : r.length = h.length) (hb : barL r h = none) {p : Nat} (hp : p < r.length) : fsB r h p = (!stayB r h p && decide (gN (callL r p) p = gN h p)) := by
  have F := (bar_fol he).mp hb
  unfold fsB
  cases hs : stayB r h p with
  | true => rfl
  | false =>
    have hne := stayB_false.mp hs
    rw [Bool.not_false, Bool.true_and, Bool.true_and]
    rw [Bool.eq_iff_iff, decide_eq_true_iff, gN_call, Bool.or_eq_true, Bool.and_eq_true, Bool.and_eq_true, decide_eq_true_iff, stayB_iff, stayB_iff, Bool.not_eq_true']
    constructor
    · rintro (⟨h1, h2⟩ | ⟨h1, h2⟩)
      · have b := begB_false.mp h1
        have := (MC.fol_step F hp (q := p - 1) (by omega) (.inr (by omega)) hne h2 b.2).1
        rw [this, MC.upd_same]
      · have := (MC.fol_step F hp (q := p + 1) (by omega) (.inl rfl) hne h2 h1.2.symm).1
        rw [this, MC.upd_same]
    · intro hc
      obtain ⟨q, hq, hpq, e1, e2⟩ := MC.fol_next F hp hne hc
      rcases hpq with z | z
      · right
        subst z
        exact ⟨⟨by omega, e2.symm⟩, e1⟩
      · left
        have : p - 1 = q := by omega
        rw [this]
        exact ⟨begB_false.mpr ⟨by omega, by rw [this]; exact e2⟩, e1⟩
/-- the people who moved, in the order of their calls -/
structure Moved (r h : List Int) (mv : List Nat) : Prop where
  nd : mv.Nodup
  mem : ∀ p, p ∈ mv ↔ p < h.length ∧ stayB r h p = false
theorem Moved.nil (r : List Int) : Moved r r [] := ⟨List.nodup_nil, fun p => by
  constructor
  · intro h; simp at h
  · rintro ⟨_, h⟩
    exact absurd rfl (stayB_false.mp h)⟩
theorem isort_strict {l : List Int} (h : l.Nodup) : (isort l).Pairwise (· < ·) := by
  have h1 := isort_sorted l
  have h2 : (isort l).Nodup := (isort_perm l).nodup_iff.mpr h
  have : (isort l).Pairwise fun a b => a ≤ b ∧ a ≠ b := List.pairwise_and_iff.mpr ⟨h1, h2⟩
  exact this.imp fun {a b} z => by
    have := z.1
    have := z.2
    omega
abbrev natsD (ps : List Nat) : List Int := ps.map fun (p : Nat) => (p : Int)
theorem nodup_nats {l : List Nat} (h : l.Nodup) : (natsD l).Nodup := by
  unfold natsD
  exact List.Pairwise.map _ (fun a b hab => by omega) h
theorem Moved.sorted {r h : List Int} {mv : List Nat} (he : r.length = h.length) (M : Moved r h mv) : isort (natsD mv) = chgL r h := by
  refine lt_one (isort_strict (nodup_nats M.nd)) (pers_sorted _ _) fun x => ?_
  rw [(isort_perm _).mem_iff]
  unfold chgL natsD
  rw [mem_pers, List.mem_map]
  constructor
  · rintro ⟨p, hp, rfl⟩
    have := (M.mem p).mp hp
    exact ⟨p, by omega, by rw [this.2]; rfl, rfl⟩
  · rintro ⟨p, h1, h2, rfl⟩
    rw [Bool.not_eq_true'] at h2
    exact ⟨p, (M.mem p).mpr ⟨by omega, h2⟩, rfl⟩
theorem Moved.length {r h : List Int} {mv : List Nat} (he : r.length = h.length) (M : Moved r h mv) : (chgL r h).length = mv.length := by
  rw [← M.sorted he, (isort_perm _).length_eq, List.length_map]
theorem Moved.step {r h : List Int} {mv : List Nat} (he : r.length = h.length) (hb : barL r h = none) (M : Moved r h mv) {p : Nat} (hm : callL h p ≠ h) : Moved r (callL h p) (mv ++ [p]) ∧ p ∉ mv ∧ (isTop r p = true ∨ isDip r p = true) := by
  obtain ⟨h1, h2, h3, h4, h5⟩ := call_moves he hb hm
  have hn : p ∉ mv := fun z => by
    have := ((M.mem p).mp z).2
    rw [h2] at this
    cases this
  refine ⟨⟨?_, fun q => ?_⟩, hn, h3⟩
  · rw [List.nodup_append]
    exact ⟨M.nd, by simp, fun a ha b hb' => by
      rw [List.mem_singleton] at hb'
      subst hb'
      exact fun z => hn (z ▸ ha)⟩
  · rw [List.mem_append, List.mem_singleton, callL_length]
    constructor
    · rintro (z | z)
      · have := (M.mem q).mp z
        have hq : q ≠ p := fun y => hn (y ▸ z)
        exact ⟨this.1, by rw [h5 q hq]; exact this.2⟩
      · subst z
        exact ⟨h1, h4⟩
    · rintro ⟨z1, z2⟩
      by_cases hq : q = p
      · exact .inr hq
      · rw [h5 q hq] at z2
        exact .inl ((M.mem q).mpr ⟨z1, z2⟩)
end DL
end
section
set_option maxRecDepth 100000
set_option maxHeartbeats 1000000
/-! PM1: the program's functions on rows and calls tell what the plain functions tell. -/
namespace DL
open PySem PySem.Spec PyProof.Rows L2
theorem gi_1i {r : List Int} {i : Nat} : gi r (1 + (i : Int)) = gN r (i + 1) := by
  unfold gi gN
  rw [show (1 + (i : Int)).toNat = i + 1 by omega]
theorem gi_1im {r : List Int} {i : Nat} : gi r (1 + (i : Int) - 1) = gN r i := by
  unfold gi gN
  rw [show (1 + (i : Int) - 1).toNat = i by omega]
theorem gi_1ip {r : List Int} {i : Nat} : gi r (1 + (i : Int) + 1) = gN r (i + 2) := by
  unfold gi gN
  rw [show (1 + (i : Int) + 1).toNat = i + 2 by omega]
theorem gi_0i {r : List Int} {i : Nat} : gi r (0 + (i : Int)) = gN r i := by
  unfold gi gN
  rw [show (0 + (i : Int)).toNat = i by omega]
theorem gi_0im {r : List Int} {i : Nat} : gi r (0 + (i : Int) - 1) = gN r (i - 1) := by
  unfold gi gN
  rw [show (0 + (i : Int) - 1).toNat = i - 1 by omega]
theorem gi_0ip {r : List Int} {i : Nat} : gi r (0 + (i : Int) + 1) = gN r (i + 1) := by
  unfold gi gN
  rw [show (0 + (i : Int) + 1).toNat = i + 1 by omega]
theorem tup2i (a b : Int) : D.tup [.int a, .int b] = sq true [a, b] := rfl
theorem lst3i (a b c : Int) : D.lst [.int a, .int b, .int c] = sq false [a, b, c] := rfl
theorem m_look {b : Bool} {r : List Int} {p : Int} (h0 : 0 ≤ p) (h1 : p < r.length) : F_look_person [sq b r, .int p] = .ok .non := by
  refine fp_nx (by simp only [NC]) ?_
  simp only [EV, T_look_person, decide_eq_true h0, decide_eq_true h1]
theorem m_look_no {b : Bool} {r : List Int} {p : Int} (h : ¬ (0 ≤ p ∧ p < r.length)) : F_look_person [sq b r, .int p] = .exc 0 (.int p) := by
  refine fp_xc (by simp only [NC]) rfl ?_
  by_cases h0 : 0 ≤ p
  · simp only [EV, T_look_person, decide_eq_true h0, decide_eq_false (fun z => h ⟨h0, z⟩ : ¬ p < r.length), and_self]
  · simp only [EV, T_look_person, decide_eq_false h0, and_self]
theorem m_inner {b : Bool} {r : List Int} (hl : r.length ≤ 100000) : F_inner [sq b r] = .ok (.lst ((List.range (r.length - 2)).map fun (i : Nat) => D.int (1 + (i : Int)))) := by
  refine fp_rt (by simp only [NC]) ?_ ?_
  · rw [noCel_lst, noCels_map fun _ => rfl]
  · simp (disch := omega) only [EV, EC, T_inner, rg_map, show ((r.length : Int) - 1 - 1).toNat = r.length - 2 by omega]
theorem m_tops {b : Bool} {r : List Int} (hl : r.length ≤ 100000) : F_tops [sq b r] = .ok (sq false (topsL r)) := by
  refine fp_rt (by simp only [NC]) (by simp only [NC]) ?_
  simp only [EV, T_tops, m_inner hl]
  rw [lc_map (fun i => isTop r (i + 1)) (fun (i : Nat) => (1 : Int) + (i : Int)) D.int (fun i hi => ?_) (by rw [List.length_range, lim_eq]; omega)]
  · simp only [EV]
    rw [pers_inner r.length (isTop r) (by simp [isTop]) (fun p hp => by unfold isTop; rw [decide_eq_false (by omega : ¬ p + 1 < r.length)]; simp)]
    rfl
  · rw [List.mem_range] at hi
    refine ⟨_, rfl, ?_, fun _ => rfl⟩
    simp (disch := omega) only [EV, EC, gi_1i, gi_1im, gi_1ip]
    unfold isTop
    rw [decide_eq_true (by omega : 0 < i + 1), decide_eq_true (by omega : i + 1 + 1 < r.length), Nat.add_sub_cancel]
    simp only [Bool.true_and]
theorem m_dips {b : Bool} {r : List Int} (hl : r.length ≤ 100000) : F_dips [sq b r] = .ok (sq false (dipsL r)) := by
  refine fp_rt (by simp only [NC]) (by simp only [NC]) ?_
  simp only [EV, T_dips, m_inner hl]
  rw [lc_map (fun i => isDip r (i + 1)) (fun (i : Nat) => (1 : Int) + (i : Int)) D.int (fun i hi => ?_) (by rw [List.length_range, lim_eq]; omega)]
  · simp only [EV]
    rw [pers_inner r.length (isDip r) (by simp [isDip]) (fun p hp => by unfold isDip; rw [decide_eq_false (by omega : ¬ p + 1 < r.length)]; simp)]
    rfl
  · rw [List.mem_range] at hi
    refine ⟨_, rfl, ?_, fun _ => rfl⟩
    simp (disch := omega) only [EV, EC, gi_1i, gi_1im, gi_1ip]
    unfold isDip
    rw [decide_eq_true (by omega : 0 < i + 1), decide_eq_true (by omega : i + 1 + 1 < r.length), Nat.add_sub_cancel]
    simp only [Bool.true_and]
theorem ix_mid (a b c : Int) {μ : Mu} : fIx (sq false (isort [a, b, c])) (.int 1) μ = .ok (.int (med a b c)) μ := by
  rw [isort3, ix_sq (by omega) (by simp)]
  rfl
theorem callL_g {r : List Int} {p : Nat} (h : p < r.length) : gN (callL r p) p = if 0 < p ∧ p + 1 < r.length then med (gN r (p - 1)) (gN r p) (gN r (p + 1)) else gN r p := by
  unfold callL
  split
  · rw [gN_set, if_pos ⟨rfl, h⟩]
  · rfl
theorem m_middle_of {b : Bool} {r : List Int} {p : Nat} (h : p < r.length) : F_middle_of [sq b r, .int (p : Int)] = .ok (.int (gN (callL r p) p)) := by
  refine fp_rt (by simp only [NC]) rfl ?_
  rw [callL_g h]
  simp only [EV, T_middle_of, tup2i, List.mem_cons, List.not_mem_nil, or_false, if_neg (show ¬ (false = true) by decide)]
  by_cases h1 : (p : Int) = 0 ∨ (p : Int) = (r.length : Int) - 1
  · simp (disch := omega) only [decide_eq_true h1, EV, EC, if_neg (show ¬ (0 < p ∧ p + 1 < r.length) by omega), gi_nat]
  · simp (disch := omega) only [decide_eq_false h1, EV, EC, if_pos (show (0 < p ∧ p + 1 < r.length) by omega), lst3i, ix_mid, gi_nat, gi_pred, gi_succ]
theorem callL_other {r : List Int} {p q : Nat} (h : q ≠ p) : gN (callL r p) q = gN r q := by
  unfold callL
  split
  · rw [gN_set, if_neg (fun z => h z.1)]
  · rfl
theorem m_called {b : Bool} {r : List Int} {p : Nat} (h : p < r.length) (hl : r.length ≤ 100000) : F_called [sq b r, .int (p : Int)] = .ok (sq true (callL r p)) := by
  refine fp_rt (by simp only [NC]) (by simp only [NC]) ?_
  simp only [EV, T_called, m_look (b := b) (by omega : (0 : Int) ≤ (p : Int)) (by omega : (p : Int) < r.length), m_middle_of h, en_nums]
  rw [lc_all (fun i => if i = p then gN (callL r p) p else gN r i) D.int (fun i hi => ?_) (by rw [List.length_range, lim_eq]; omega)]
  · simp only [EV]
    congr 1
    refine list_ext_gN (by simp [callL_length]) fun q hq => ?_
    rw [List.length_map, List.length_range] at hq
    rw [gN_map_range hq]
    by_cases hqp : q = p
    · rw [if_pos hqp, hqp]
    · rw [if_neg hqp, callL_other hqp]
  · refine ⟨_, rfl, ?_⟩
    simp only [EV]
    by_cases hip : i = p
    · simp only [EV, decide_eq_true (by omega : (i : Int) = (p : Int)), if_pos hip]
    · simp only [EV, decide_eq_false (by omega : ¬ (i : Int) = (p : Int)), if_neg hip]
theorem m_middle {b : Bool} {r : List Int} {p : Nat} (h : p < r.length) : F_middle [sq b r, .int (p : Int)] = .ok (.int (gN (callL r p) p)) := by
  refine fp_rt (by simp only [NC]) rfl ?_
  simp only [EV, T_middle, m_look (b := b) (by omega : (0 : Int) ≤ (p : Int)) (by omega : (p : Int) < r.length), m_middle_of h]
end DL
end
section
set_option maxRecDepth 100000
set_option maxHeartbeats 1000000
/-! PM2: calls one behind another; which row leads to which. -/
namespace DL
open PySem PySem.Spec PyProof.Rows L2
theorem m_at_rest {b : Bool} {r : List Int} (hl : r.length ≤ 100000) : F_at_rest [sq b r] = .ok (.bl (decide ((topsL r).length + (dipsL r).length = 0))) := by
  refine fp_rt (by simp only [NC]) rfl ?_
  simp only [EV, T_at_rest, m_tops hl, m_dips hl]
  congr 2
  exact propext ⟨by omega, by omega⟩
theorem nums_nats (ps : List Nat) : nums (natsD ps) = ps.map fun (p : Nat) => D.int (p : Int) := by
  unfold nums
  rw [List.map_map]
  rfl
theorem m_run {b c : Bool} {r : List Int} {ps : List Nat} (hp : ∀ p ∈ ps, p < r.length) (hl : r.length ≤ 100000) : F_run [sq b r, sq c (natsD ps)] = .ok (sq true (runL r ps)) := by
  refine fp_rt (by simp only [NC]) (by simp only [NC]) ?_
  simp only [EV, T_run, nums_nats]
  refine for_list (Q := fun o => Rt _ (seqO o _)) (fun k ρ μ => ∃ v, ρ = [some (sq b r), some (sq c (natsD ps)), some (sq true (runL r (ps.take k))), v]) ⟨_, rfl⟩ (fun k ρ μ hk hI => ?_) (fun ρ μ hI => ?_)
  · obtain ⟨v, rfl⟩ := hI
    refine ⟨_, _, rfl, ?_⟩
    have hpk := hp _ (List.getElem_mem hk)
    simp only [EV, m_called (b := true) (r := runL r (ps.take k)) (p := ps[k]) (by rw [runL_length]; exact hpk) (by rw [runL_length]; exact hl)]
    rw [← runL_take_succ r ps k hk]
    exact ⟨_, rfl⟩
  · obtain ⟨v, rfl⟩ := hI
    simp only [EV, List.take_length]
/-- which calls are idle -/
def idleB (r : List Int) (ps : List Nat) (k : Nat) : Bool := decide (runL r (ps.take (k + 1)) = runL r (ps.take k))
def idleL (r : List Int) (ps : List Nat) : List Int := pers ps.length (idleB r ps)
theorem m_idle {b c : Bool} {r : List Int} {ps : List Nat} (hp : ∀ p ∈ ps, p < r.length) (hl : r.length ≤ 100000) (hl2 : ps.length ≤ 90000) : F_idle [sq b r, sq c (natsD ps)] = .ok (sq false (idleL r ps)) := by
  refine fp_rt (by simp only [NC]) (by simp only [NC]) ?_
  simp only [EV, T_idle, en_nums, List.length_map]
  refine for_range (Q := fun o => Rt _ (seqO o _)) (fun k ρ μ => ∃ v w x, ρ = [some (sq b r), some (sq c (natsD ps)), some (sq true (runL r (ps.take k))), some (.cel 0), v, w, x] ∧ μ = [.lst (nums (pers k (idleB r ps)))]) ⟨_, _, _, rfl, rfl⟩ (fun k ρ μ hk hI => ?_) (fun ρ μ hI => ?_)
  · obtain ⟨v, w, x, rfl, rfl⟩ := hI
    refine ⟨_, _, rfl, ?_⟩
    have hpk := hp _ (List.getElem_mem hk)
    have hlen : (nums (pers k (idleB r ps))).length < 100000 := by
      rw [List.length_map]
      have := pers_length_le (n := k) (P := idleB r ps)
      omega
    have hg : gN (natsD ps) k = (ps[k] : Int) := by
      unfold gN
      rw [List.getD_eq_getElem?_getD, List.getElem?_map, List.getElem?_eq_getElem hk]
      rfl
    simp only [EV, hg, m_called (b := true) (r := runL r (ps.take k)) (p := ps[k]) (by rw [runL_length]; exact hpk) (by rw [runL_length]; exact hl)]
    rw [← runL_take_succ r ps k hk]
    have hs := pers_succ k (idleB r ps)
    by_cases hi : runL r (ps.take (k + 1)) = runL r (ps.take k)
    · have hb : idleB r ps k = true := decide_eq_true hi
      rw [hb, if_pos rfl] at hs
      simp (disch := assumption) only [EV, decide_eq_true hi, b_app]
      refine ⟨_, _, _, rfl, ?_⟩
      rw [hs]
      simp [nums]
    · have hb : idleB r ps k = false := decide_eq_false hi
      rw [hb, if_neg (by decide), List.append_nil] at hs
      simp only [EV, decide_eq_false hi]
      exact ⟨_, _, _, rfl, by rw [hs]⟩
  · obtain ⟨v, w, x, rfl, rfl⟩ := hI
    simp only [EV]
    rfl
theorem m_look_many {b c : Bool} {r h : List Int} (hl : r.length = h.length) : F_look_many [sq b r, sq c h] = .ok .non := by
  refine fp_nx (by simp only [NC]) ?_
  simp only [EV, T_look_many, decide_eq_true (show (r.length : Int) = (h.length : Int) by omega)]
theorem m_look_many_no {b c : Bool} {r h : List Int} (hl : r.length ≠ h.length) : F_look_many [sq b r, sq c h] = .exc 4 (.int h.length) := by
  refine fp_xc (by simp only [NC]) rfl ?_
  simp only [EV, T_look_many, decide_eq_false (show ¬ (r.length : Int) = (h.length : Int) by omega), and_self]
theorem nums_snoc (l : List Int) (x : Int) : nums l ++ [D.int x] = nums (l ++ [x]) := by simp [nums]
theorem ite_app (l : List Int) (c : Bool) (x : Int) : (if c = true then l ++ [x] else l) = l ++ (if c = true then [x] else []) := by cases c <;> simp
/-- a place is kept if a test tells so -/
theorem keep_if {k : Nat} {P : Nat → Bool} (i : Nat) {j : Nat} {ρ : En} (hv : xVar i ρ [.lst (nums (pers k P))] = .ok (.cel 0) [.lst (nums (pers k P))]) (hj : xVar j ρ [.lst (nums (pers k P))] = .ok (.int (k : Int)) [.lst (nums (pers k P))]) (hk : k < 100000) :
    ifsO (.ok (P k) [.lst (nums (pers k P))]) (xDrop (xMt fApp (xVar i) (xCons (xVar j) xNil))) xNext ρ = .nx ρ [.lst (nums (pers (k + 1) P))] := by
  rw [pers_succ]
  have hlen : (nums (pers k P)).length < 100000 := by
    rw [List.length_map]
    have := pers_length_le (n := k) (P := P)
    omega
  cases hb : P k
  · simp only [EV, if_neg (show ¬ (false = true) by decide), List.append_nil]
  · simp (disch := assumption) only [EV, hv, hj, b_app, nums_snoc]
    rfl
theorem m_wrong_changes {b c : Bool} {r h : List Int} (he : r.length = h.length) (hl : r.length ≤ 90000) : F_wrong_changes [sq b r, sq c h] = .ok (sq false (pers r.length (wcB r h))) := by
  refine fp_rt (by simp only [NC]) (by simp only [NC]) ?_
  simp only [EV, T_wrong_changes, m_tops (show r.length ≤ 100000 by omega), m_dips (show r.length ≤ 100000 by omega), zp_nums he, en_map]
  refine for_range (Q := fun o => Rt _ (seqO o _)) (fun k ρ μ => ∃ v w x, ρ = [some (sq b r), some (sq c h), some (sq false (topsL r)), some (sq false (dipsL r)), some (.cel 0), v, w, x] ∧ μ = [.lst (nums (pers k (wcB r h)))]) ⟨_, _, _, rfl, rfl⟩ (fun k ρ μ hk hI => ?_) (fun ρ μ hI => ?_)
  · obtain ⟨v, w, x, rfl, rfl⟩ := hI
    refine ⟨_, _, rfl, ?_⟩
    have ht : ((k : Int) ∈ topsL r) = (isTop r k = true) := by
      unfold topsL
      rw [nat_mem_pers]
      exact propext ⟨fun z => z.2, fun z => ⟨hk, z⟩⟩
    have hd : ((k : Int) ∈ dipsL r) = (isDip r k = true) := by
      unfold dipsL
      rw [nat_mem_pers]
      exact propext ⟨fun z => z.2, fun z => ⟨hk, z⟩⟩
    simp only [EV, ht, hd, Bool.decide_eq_true]
    rw [show (!(decide (gN r k = gN h k) || (isTop r k && decide (gN h k < gN r k) || isDip r k && decide (gN r k < gN h k)))) = wcB r h k from rfl, keep_if 4 rfl rfl (by omega), turn_nx]
    exact ⟨_, _, _, rfl, rfl⟩
  · obtain ⟨v, w, x, rfl, rfl⟩ := hI
    simp only [EV]
theorem m_wrong_orders {b c : Bool} {r h : List Int} (he : r.length = h.length) (hl : r.length ≤ 90000) : F_wrong_orders [sq b r, sq c h] = .ok (sq false (pers (r.length - 1) (woB r h))) := by
  refine fp_rt (by simp only [NC]) (by simp only [NC]) ?_
  simp (disch := omega) only [EV, EC, T_wrong_orders, rg_map]
  rw [show ((r.length : Int) - 1).toNat = r.length - 1 by omega]
  refine for_range (Q := fun o => Rt _ (seqO o _)) (fun k ρ μ => ∃ v w x, ρ = [some (sq b r), some (sq c h), some (.cel 0), v, w, x] ∧ μ = [.lst (nums (pers k (woB r h)))]) ⟨_, _, _, rfl, rfl⟩ (fun k ρ μ hk hI => ?_) (fun ρ μ hI => ?_)
  · obtain ⟨v, w, x, rfl, rfl⟩ := hI
    refine ⟨_, _, rfl, ?_⟩
    simp (disch := omega) only [EV, EC, gi_nat, gi_succ]
    have hw : ((decide (gN r (k + 1) - gN r k < 0) && decide (0 < gN h (k + 1) - gN h k)) || ((decide (0 < gN r (k + 1) - gN r k) && decide (gN h (k + 1) - gN h k < 0)) || (decide (gN r (k + 1) - gN r k = 0) && !decide (0 = gN h (k + 1) - gN h k)))) = woB r h k := by
      unfold woB
      congr 1
      · congr 1 <;> exact decide_eq_decide.mpr (by omega)
      · congr 1
        · congr 1 <;> exact decide_eq_decide.mpr (by omega)
        · congr 1
          · exact decide_eq_decide.mpr (by omega)
          · congr 1
            exact decide_eq_decide.mpr (by omega)
    rw [hw, keep_if 2 rfl rfl (by omega), turn_nx]
    exact ⟨_, _, _, rfl, rfl⟩
  · obtain ⟨v, w, x, rfl, rfl⟩ := hI
    simp only [EV]
/-- pairs of places -/
def prD (p : Nat × Nat) : D := .tup [.int (p.1 : Int), .int (p.2 : Int)]
theorem noc_prD (p : Nat × Nat) : noCel (prD p) = true := by simp only [prD, NC]
theorem begs_length_le (h : List Int) : (begs h).length ≤ h.length := by
  have := List.length_filter_le (begB h) (List.range h.length)
  rw [List.length_range] at this
  exact this
theorem m_runs {b : Bool} {h : List Int} (hl : h.length ≤ 90000) : F_runs [sq b h] = .ok (.lst ((runsL h).map prD)) := by
  refine fp_rt (by simp only [NC]) (by rw [noCel_lst, noCels_map noc_prD]) ?_
  have hbl : (List.filter (begB h) (List.range h.length)).length ≤ h.length := begs_length_le h
  simp (disch := omega) only [EV, EC, T_runs, rg_map, Int.toNat_natCast]
  rw [lc_map (begB h) (fun (i : Nat) => (i : Int)) D.int (fun i hi => ?_) (by rw [List.length_range, lim_eq]; omega)]
  · simp (disch := first | omega | (simp only [List.length_map, List.length_drop, List.length_cons, List.length_nil]; omega)) only [EV, EC, zp_zip]
    rw [lc_all (fun (p : Int × Int) => (p.1, p.2 - 1)) (fun p => D.tup [.int p.1, .int p.2]) (fun i hi => ?_) (by rw [List.length_zip, List.length_map, lim_eq]; omega)]
    · simp only [EV]
      rw [show (List.filter (begB h) (List.range h.length)) = begs h from rfl, show (1 : Int).toNat = 1 from rfl, runs_zipI, List.map_map]
      rfl
    · refine ⟨_, rfl, ?_⟩
      simp only [EV]
  · rw [List.mem_range] at hi
    refine ⟨_, rfl, ?_, fun _ => by simp only [EV]⟩
    by_cases h0 : i = 0
    · subst h0
      simp only [EV]
      rfl
    · simp (disch := omega) only [EV, EC, gi_nat, gi_pred]
      unfold begB
      congr 2
      exact decide_eq_decide.mpr (by omega)
end DL
end
section
set_option maxRecDepth 100000
set_option maxHeartbeats 1000000
/-! PM3: reasons that bar; changed people, parts, whom to call first. -/
namespace DL
open PySem PySem.Spec PyProof.Rows L2
theorem stay_int {r h : List Int} {a b : Nat} : ((List.range (b + 1 - a)).filter (fun i => stayB r h (a + i))).map (fun (i : Nat) => (a : Int) + (i : Int)) = natsD (stayL r h a b) := by
  unfold stayL natsD
  rw [List.filter_map, List.map_map]
  refine List.map_congr_left fun i _ => ?_
  show (a : Int) + (i : Int) = ((a + i : Nat) : Int)
  omega
theorem gi_add {r : List Int} {a i : Nat} : gi r ((a : Int) + (i : Int)) = gN r (a + i) := by
  unfold gi gN
  rw [show ((a : Int) + (i : Int)).toNat = a + i by omega]
theorem m_stayed {b c : Bool} {r h : List Int} {p q : Nat} (he : r.length = h.length) (hq : q < h.length) (hpq : p ≤ q) (hl : h.length ≤ 90000) : F_stayed [sq b r, sq c h, .int (p : Int), .int (q : Int)] = .ok (sq false (natsD (stayL r h p q))) := by
  refine fp_rt (by simp only [NC]) (by simp only [NC]) ?_
  simp (disch := omega) only [EV, EC, T_stayed, rg_map]
  rw [show ((q : Int) + 1 - (p : Int)).toNat = q + 1 - p by omega, lc_map (fun i => stayB r h (p + i)) (fun (i : Nat) => (p : Int) + (i : Int)) D.int (fun i hi => ?_) (by rw [List.length_range, lim_eq]; omega)]
  · simp only [EV, stay_int]
  · rw [List.mem_range] at hi
    refine ⟨_, rfl, ?_, fun _ => rfl⟩
    simp (disch := omega) only [EV, EC, gi_add]
    rfl
theorem mem_runsL {h : List Int} {p : Nat × Nat} (hp : p ∈ runsL h) : p.1 ∈ begs h ∧ p.1 < h.length ∧ p.2 = rend h p.1 ∧ p.1 ≤ p.2 ∧ p.2 < h.length := by
  unfold runsL at hp
  rw [List.mem_map] at hp
  obtain ⟨a, ha, rfl⟩ := hp
  have f := run_facts ha
  exact ⟨ha, f.1, rfl, rend_ge h a, rend_lt h a f.1⟩
theorem begs_filter {r h : List Int} : (((runsL h).filter fun p => (stayL r h p.1 p.2).isEmpty).map fun p => (p.1 : Int)) = pers h.length (wrB r h) := by
  unfold runsL pers begs wrB
  rw [List.filter_map, List.map_map, List.filter_filter]
  congr 1
  refine List.filter_congr fun x _ => ?_
  show ((stayL r h x (rend h x)).isEmpty && begB h x) = _
  rw [Bool.and_comm]
theorem m_wrong_runs {b c : Bool} {r h : List Int} (he : r.length = h.length) (hl : r.length ≤ 90000) : F_wrong_runs [sq b r, sq c h] = .ok (sq false (pers h.length (wrB r h))) := by
  refine fp_rt (by simp only [NC]) (by simp only [NC]) ?_
  simp only [EV, T_wrong_runs, m_runs (show h.length ≤ 90000 by omega)]
  rw [lc_map (fun p : Nat × Nat => (stayL r h p.1 p.2).isEmpty) (fun p => (p.1 : Int)) D.int (fun p hp => ?_) (by
    unfold runsL
    have := begs_length_le h
    rw [List.length_map, lim_eq]
    omega)]
  · simp only [EV, begs_filter]
  · obtain ⟨h1, h2, h3, h4, h5⟩ := mem_runsL hp
    refine ⟨_, rfl, ?_, fun _ => rfl⟩
    simp (disch := omega) only [EV, EC, m_stayed (b := b) (c := c) he h5 h4 (by omega)]
    congr 1
    rw [List.length_map]
    cases stayL r h p.1 p.2 with
    | nil => rfl
    | cons x l =>
      rw [List.isEmpty_cons]
      exact decide_eq_false (by rw [List.length_cons]; omega)
theorem pers_none {n : Nat} {P : Nat → Bool} (h : fstB n P = none) : pers n P = [] := by
  unfold fstB at h
  unfold pers
  rw [List.head?_eq_none_iff.mp h]
  rfl
theorem pers_some {n : Nat} {P : Nat → Bool} {p : Nat} (h : fstB n P = some p) : 0 < (pers n P).length ∧ gN (pers n P) 0 = (p : Int) := by
  unfold fstB at h
  unfold pers
  cases q : (List.range n).filter P with
  | nil => rw [q] at h; cases h
  | cons x l =>
    rw [q] at h
    cases h
    exact ⟨by simp, rfl⟩
def barD : Option (Str × Nat) → D
  | none => .non
  | some (w, p) => .tup [.str w, .int (p : Int)]
theorem noc_barD (o : Option (Str × Nat)) : noCel (barD o) = true := by
  cases o with
  | none => rfl
  | some x => simp only [barD, NC]
theorem m_bar {b c : Bool} {r h : List Int} (he : r.length = h.length) (hl : r.length ≤ 90000) : F_bar [sq b r, sq c h] = .ok (barD (barL r h)) := by
  refine fp_rt (by simp only [NC]) (noc_barD _) ?_
  simp only [EV, T_bar, m_look_many he, m_wrong_changes he hl, m_wrong_orders he hl, m_wrong_runs he hl]
  unfold barL
  cases h1 : fstB r.length (wcB r h) with
  | some p =>
    obtain ⟨l1, g1⟩ := pers_some h1
    simp (disch := omega) only [EV, EC, decide_eq_true (show (0 : Int) < ((pers r.length (wcB r h)).length : Int) by omega), gi_zero, g1]
    rfl
  | none =>
    rw [pers_none h1]
    dsimp only
    cases h2 : fstB (r.length - 1) (woB r h) with
    | some p =>
      obtain ⟨l1, g1⟩ := pers_some h2
      simp (disch := omega) only [EV, EC, decide_eq_true (show (0 : Int) < ((pers (r.length - 1) (woB r h)).length : Int) by omega), gi_zero, g1, List.length_nil, decide_eq_false (show ¬ (0 : Int) < ((0 : Nat) : Int) by omega)]
      rfl
    | none =>
      rw [pers_none h2]
      dsimp only
      cases h3 : fstB h.length (wrB r h) with
      | some p =>
        obtain ⟨l1, g1⟩ := pers_some h3
        simp (disch := omega) only [EV, EC, m_wrong_runs he hl, decide_eq_true (show (0 : Int) < ((pers h.length (wrB r h)).length : Int) by omega), gi_zero, g1, List.length_nil, decide_eq_false (show ¬ (0 : Int) < ((0 : Nat) : Int) by omega)]
        rfl
      | none =>
        simp (disch := omega) only [EV, EC, m_wrong_runs he hl, pers_none h3, List.length_nil, decide_eq_false (show ¬ (0 : Int) < ((0 : Nat) : Int) by omega)]
        rfl
theorem isNon_bar (o : Option (Str × Nat)) : isNon (barD o) = o.isNone := by
  cases o <;> rfl
theorem m_leads {b c : Bool} {r h : List Int} (he : r.length = h.length) (hl : r.length ≤ 90000) : F_leads [sq b r, sq c h] = .ok (.bl (barL r h).isNone) := by
  refine fp_rt (by simp only [NC]) rfl ?_
  simp only [EV, T_leads, m_bar he hl, isNon_bar]
theorem m_look_leads {b c : Bool} {r h : List Int} (he : r.length = h.length) (hl : r.length ≤ 90000) (hb : barL r h = none) : F_look_leads [sq b r, sq c h] = .ok .non := by
  refine fp_nx (by simp only [NC]) ?_
  simp only [EV, T_look_leads, m_bar he hl, isNon_bar, hb, Option.isNone_none]
theorem m_look_leads_no {b c : Bool} {r h : List Int} (he : r.length = h.length) (hl : r.length ≤ 90000) {x : Str × Nat} (hb : barL r h = some x) : F_look_leads [sq b r, sq c h] = .exc 9 (barD (some x)) := by
  refine fp_xc (by simp only [NC]) (noc_barD _) ?_
  simp only [EV, T_look_leads, m_bar he hl, isNon_bar, hb, Option.isNone_some, and_self]
theorem m_changed {b c : Bool} {r h : List Int} (he : r.length = h.length) (hl : r.length ≤ 90000) (hb : barL r h = none) : F_changed [sq b r, sq c h] = .ok (sq false (chgL r h)) := by
  refine fp_rt (by simp only [NC]) (by simp only [NC]) ?_
  simp only [EV, T_changed, m_look_leads he hl hb, zp_nums he, en_map]
  rw [lc_map (fun p => !stayB r h p) (fun (p : Nat) => (p : Int)) D.int (fun p hp => ?_) (by rw [List.length_range, lim_eq]; omega)]
  · simp only [EV]
    rfl
  · refine ⟨_, rfl, ?_, fun _ => rfl⟩
    simp only [EV]
    rfl
theorem m_distance {b c : Bool} {r h : List Int} (he : r.length = h.length) (hl : r.length ≤ 90000) (hb : barL r h = none) : F_distance [sq b r, sq c h] = .ok (.int ((chgL r h).length : Int)) := by
  refine fp_rt (by simp only [NC]) rfl ?_
  simp only [EV, T_distance, m_changed he hl hb]
/-- open parts as data -/
def p4D (p : P4) : D := .tup [.int (p.f : Int), .int (p.l : Int), .bl p.L, .bl p.R]
theorem noc_p4D (p : P4) : noCel (p4D p) = true := by simp only [p4D, NC]
theorem zip_mem_pos {a : Int} : ∀ {l : List Int} {x y : Int}, (x, y) ∈ (a :: l).zip l → True := fun _ => trivial
theorem take_flat_succ {α β : Type} (f : α → List β) (l : List α) (k : Nat) (h : k < l.length) : (l.take (k + 1)).flatMap f = (l.take k).flatMap f ++ f l[k] := by
  rw [List.take_add_one, List.flatMap_append, List.getElem?_eq_getElem h]
  simp
theorem take_flat_le {α β : Type} (f : α → List β) (l : List α) (k : Nat) : ((l.take k).flatMap f).length ≤ (l.flatMap f).length := by
  conv => rhs; rw [← List.take_append_drop k l, List.flatMap_append, List.length_append]
  exact Nat.le_add_right _ _
theorem partsL_length_le {r h : List Int} : (partsL r h).length ≤ h.length := by
  unfold partsL
  rw [List.length_map]
  have := List.length_filter_le (psB r h) (List.range h.length)
  rw [List.length_range] at this
  exact this
theorem stayL_length_le {r h : List Int} {a b : Nat} (hb : b < h.length) : (stayL r h a b).length ≤ h.length := by
  unfold stayL
  have := List.length_filter_le (stayB r h) ((List.range (b + 1 - a)).map (a + ·))
  rw [List.length_map, List.length_range] at this
  omega
theorem mem_stayL {r h : List Int} {a b x : Nat} (hx : x ∈ stayL r h a b) : a ≤ x ∧ x ≤ b := by
  unfold stayL at hx
  rw [List.mem_filter, List.mem_map] at hx
  obtain ⟨⟨i, hi, rfl⟩, _⟩ := hx
  rw [List.mem_range] at hi
  omega
theorem drop1 (l : Int) (rest : List Int) : (l :: rest).drop 1 = rest := rfl
theorem m_open_parts {b c : Bool} {r h : List Int} (he : r.length = h.length) (hl : r.length ≤ 90000) : F_open_parts [sq b r, sq c h] = .ok (.lst ((partsL r h).map p4D)) := by
  refine fp_rt (by simp only [NC]) (by rw [noCel_lst, noCels_map noc_p4D]) ?_
  simp only [EV, T_open_parts, m_runs (show h.length ≤ 90000 by omega)]
  have hrl : (runsL h).length = (begs h).length := by unfold runsL; rw [List.length_map]
  have hbl := begs_length_le h
  have hpl := partsL_length_le (r := r) (h := h)
  refine for_list (Q := fun o => Rt _ (seqO o _)) (fun k ρ μ => ∃ u v w x y, ρ = [some (sq b r), some (sq c h), some (.cel 0), u, v, w, x, y] ∧ μ = [.lst ((((begs h).take k).flatMap fun p => psF r h p (rend h p)).map p4D)]) ⟨_, _, _, _, _, rfl, rfl⟩ (fun k ρ μ hk hI => ?_) (fun ρ μ hI => ?_)
  · obtain ⟨u, v, w, x, y, rfl, rfl⟩ := hI
    have hk' : k < (begs h).length := by omega
    have hm := List.getElem_mem hk'
    have hf := run_facts hm
    have hge := rend_ge h (begs h)[k]
    have hlt := rend_lt h (begs h)[k] hf.1
    have hitem : (runsL h)[k] = ((begs h)[k], rend h (begs h)[k]) := by
      simp only [runsL, List.getElem_map]
    rw [hitem]
    generalize ha : (begs h)[k] = a at hm hf hge hlt
    refine ⟨_, _, rfl, ?_⟩
    have hsl := stayL_length_le (r := r) (h := h) (a := a) (b := rend h a) hlt
    have hcat : fAdd (sq false [(a : Int) - 1]) (sq false (natsD (stayL r h a (rend h a)))) [.lst ((((begs h).take k).flatMap fun p => psF r h p (rend h p)).map p4D)] = .ok (sq false (((a : Int) - 1) :: natsD (stayL r h a (rend h a)))) [.lst ((((begs h).take k).flatMap fun p => psF r h p (rend h p)).map p4D)] := by
      rw [b_addL (by rw [List.length_map, List.length_cons, List.length_nil]; omega)]
      rfl
    have hcat2 : fAdd (sq false (((a : Int) - 1) :: natsD (stayL r h a (rend h a)))) (sq false [(rend h a : Int) + 1]) [.lst ((((begs h).take k).flatMap fun p => psF r h p (rend h p)).map p4D)] = .ok (sq false (((a : Int) - 1) :: (natsD (stayL r h a (rend h a)) ++ [(rend h a : Int) + 1]))) [.lst ((((begs h).take k).flatMap fun p => psF r h p (rend h p)).map p4D)] := by
      rw [b_addL (by rw [List.length_cons, List.length_map, List.length_cons, List.length_nil]; omega)]
      rfl
    simp (disch := omega) only [EV, EC, m_stayed (b := b) (c := c) he hlt hge (by omega), hcat, hcat2, zp_zip, show (1 : Int).toNat = 1 from rfl, drop1]
    have hcr := conv_run (r := r) (h := h) hm
    rw [← conv_zip] at hcr
    have hall : (((begs h).take (k + 1)).flatMap fun p => psF r h p (rend h p)) = (((begs h).take k).flatMap fun p => psF r h p (rend h p)) ++ psF r h a (rend h a) := by
      rw [take_flat_succ _ _ _ hk', ha]
    rw [← hcr] at hall
    have htot : ∀ j, (((begs h).take j).flatMap fun p => psF r h p (rend h p)).length ≤ h.length := fun j => by
      refine Nat.le_trans ?_ hpl
      rw [← partsL_runs, ← List.take_append_drop j (begs h), List.flatMap_append, List.length_append, List.take_append_drop]
      omega
    refine for_list (fun j ρ μ => ∃ x y, ρ = [some (sq b r), some (sq c h), some (.cel 0), some (.int (a : Int)), some (.int (rend h a : Int)), some (sq false (((a : Int) - 1) :: (natsD (stayL r h a (rend h a)) ++ [(rend h a : Int) + 1]))), x, y] ∧ μ = [.lst (((((begs h).take k).flatMap fun p => psF r h p (rend h p)) ++ (((((a : Int) - 1) :: (natsD (stayL r h a (rend h a)) ++ [(rend h a : Int) + 1])).zip (natsD (stayL r h a (rend h a)) ++ [(rend h a : Int) + 1])).take j).flatMap (gapL a (rend h a))).map p4D)]) ?_ (fun j ρ μ hj hI => ?_) (fun ρ μ hI => ?_)
    · exact ⟨_, _, rfl, by rw [List.take_zero, List.flatMap_nil, List.append_nil]⟩
    · obtain ⟨x, y, rfl, rfl⟩ := hI
      refine ⟨_, _, rfl, ?_⟩
      rw [take_flat_succ _ _ _ hj]
      have hmem := List.getElem_mem hj
      generalize hq : ((((a : Int) - 1) :: (natsD (stayL r h a (rend h a)) ++ [(rend h a : Int) + 1])).zip (natsD (stayL r h a (rend h a)) ++ [(rend h a : Int) + 1]))[j] = q at hmem
      have hq1 : (a : Int) - 1 ≤ q.1 := by
        have := (List.of_mem_zip hmem).1
        rw [List.mem_cons, List.mem_append, List.mem_map] at this
        rcases this with z | ⟨z, hz, e⟩ | z
        · omega
        · have := mem_stayL hz
          omega
        · rw [List.mem_singleton] at z
          omega
      have hlen : ((((begs h).take k).flatMap fun p => psF r h p (rend h p)) ++ (((((a : Int) - 1) :: (natsD (stayL r h a (rend h a)) ++ [(rend h a : Int) + 1])).zip (natsD (stayL r h a (rend h a)) ++ [(rend h a : Int) + 1])).take j).flatMap (gapL a (rend h a))).length ≤ h.length := by
        have t1 := htot (k + 1)
        rw [hall] at t1
        refine Nat.le_trans ?_ t1
        rw [List.length_append, List.length_append]
        refine Nat.add_le_add_left ?_ _
        exact take_flat_le _ _ _
      generalize hM : (((begs h).take k).flatMap fun p => psF r h p (rend h p)) ++ (((((a : Int) - 1) :: (natsD (stayL r h a (rend h a)) ++ [(rend h a : Int) + 1])).zip (natsD (stayL r h a (rend h a)) ++ [(rend h a : Int) + 1])).take j).flatMap (gapL a (rend h a)) = M at hlen
      rw [← List.append_assoc, hM]
      have hML : (M.map p4D).length < 100000 := by rw [List.length_map]; omega
      unfold gapL
      simp (disch := omega) only [EV, EC]
      by_cases g : (1 : Int) < q.2 - q.1
      · rw [if_pos (show q.2 - q.1 > 1 from g)]
        simp (disch := omega) only [EV, EC, decide_eq_true g, List.map_append]
        refine ⟨_, _, rfl, ?_⟩
        simp only [List.map_cons, List.map_nil, p4D]
        rw [show ((q.1 + 1).toNat : Int) = q.1 + 1 by omega, show ((q.2 - 1).toNat : Int) = q.2 - 1 by omega]
      · rw [if_neg (show ¬ q.2 - q.1 > 1 from g), List.append_nil]
        simp only [EV, decide_eq_false g]
        exact ⟨_, _, rfl, trivial⟩
    · obtain ⟨x, y, rfl, rfl⟩ := hI
      refine ⟨_, _, _, _, _, rfl, ?_⟩
      rw [List.take_length, hall]
  · obtain ⟨u, v, w, x, y, rfl, rfl⟩ := hI
    rw [hrl, List.take_length, partsL_runs]
    simp only [EV]
end DL
end
section
set_option maxRecDepth 100000
set_option maxHeartbeats 1000000
/-! PM4: parts, whom to call first. -/
namespace DL
open PySem PySem.Spec PyProof.Rows L2
def partsD (ps : List P4) : D := .lst (ps.map fun p => sq true (natsD (rngP p)))
theorem mem_partsL {r h : List Int} {p : P4} (hp : p ∈ partsL r h) : p.f < h.length ∧ p.f ≤ p.l ∧ p.l < h.length := by
  unfold partsL at hp
  rw [List.mem_map] at hp
  obtain ⟨x, hx, rfl⟩ := hp
  rw [List.mem_filter, List.mem_range] at hx
  exact ⟨hx.1, cend_ge r h x, cend_lt r h x hx.1⟩
theorem rng_ints (p : P4) (h : p.f ≤ p.l) : rgD (p.f : Int) (((p.l : Int) + 1) - (p.f : Int)).toNat = nums (natsD (rngP p)) := by
  unfold rgD nums natsD rngP
  rw [List.range'_eq_map_range, List.map_map, List.map_map, show (((p.l : Int) + 1) - (p.f : Int)).toNat = p.l + 1 - p.f by omega]
  refine List.map_congr_left fun i _ => ?_
  show D.int ((p.f : Int) + (i : Int)) = D.int ((p.f + i : Nat) : Int)
  rw [show ((p.f + i : Nat) : Int) = (p.f : Int) + (i : Int) by omega]
theorem m_parts {b c : Bool} {r h : List Int} (he : r.length = h.length) (hl : r.length ≤ 90000) (hb : barL r h = none) : F_parts [sq b r, sq c h] = .ok (partsD (partsL r h)) := by
  refine fp_rt (by simp only [NC]) (by unfold partsD; rw [noCel_lst, noCels_map fun _ => noCel_sq]) ?_
  simp only [EV, T_parts, m_look_leads he hl hb, m_open_parts he hl]
  rw [lc_all (fun p : P4 => p) (fun p => sq true (natsD (rngP p))) (fun p hp => ?_) (by
    have := partsL_length_le (r := r) (h := h)
    rw [lim_eq]
    omega)]
  · simp only [EV, List.map_id']
    rfl
  · obtain ⟨h1, h2, h3⟩ := mem_partsL hp
    refine ⟨_, rfl, ?_⟩
    simp (disch := omega) only [EV, EC, rng_ints p h2]
theorem m_next_calls {ps : List P4} (hl : ps.length ≤ 30) : F_next_calls [.lst (ps.map p4D)] = .ok (sq false (nextL ps)) := by
  refine fp_rt (by rw [noCels_cons, noCel_lst, noCels_map noc_p4D]; rfl) (by simp only [NC]) ?_
  simp only [EV, T_next_calls]
  rw [lc_map (fun p : P4 => p.L) (fun p => (p.f : Int)) D.int (fun p hp => ?_) (by rw [lim_eq]; omega)]
  · simp only [EV]
    rw [lc_map (fun p : P4 => p.R) (fun p => (p.l : Int)) D.int (fun p hp => ?_) (by rw [lim_eq]; omega)]
    · have l1 := List.length_filter_le (fun p : P4 => p.L) ps
      have l2 := List.length_filter_le (fun p : P4 => p.R) ps
      simp (disch := (simp only [List.length_map, List.length_append]; omega)) only [EV, b_addL, ss_sq]
      rfl
    · refine ⟨_, rfl, ?_, fun _ => rfl⟩
      simp only [EV]
  · refine ⟨_, rfl, ?_, fun _ => rfl⟩
    simp only [EV]
theorem m_firsts {b c : Bool} {r h : List Int} (he : r.length = h.length) (hl : r.length ≤ 30) (hb : barL r h = none) : F_firsts [sq b r, sq c h] = .ok (sq false (pers h.length (fsB r h))) := by
  refine fp_rt (by simp only [NC]) (by simp only [NC]) ?_
  have := partsL_length_le (r := r) (h := h)
  simp only [EV, T_firsts, m_look_leads he (by omega) hb, m_open_parts (b := b) (c := c) he (by omega), m_next_calls (ps := partsL r h) (by omega), nextL_parts]
end DL
end
section
set_option maxRecDepth 100000
set_option maxHeartbeats 1000000
/-! LM1: the laws' own functions: draws, rows, calls, comparisons. -/
namespace DL
open PySem PySem.Spec PyProof.Rows L2
/-! ### the source of draws -/
def UrnOk (n : Nat) (u : List Int) : Prop := ∃ a b c : Int, u = [a, b, c] ∧ 0 ≤ b ∧ b < 2 ^ 62 ∧ 0 ≤ c ∧ c ≤ n
theorem UrnOk.mono {n m : Nat} {u : List Int} (h : UrnOk n u) (hm : n ≤ m) : UrnOk m u := by
  obtain ⟨a, b, c, e, h1, h2, h3, h4⟩ := h
  exact ⟨a, b, c, e, h1, h2, h3, by omega⟩
section
variable {a b c p : Int} {ds r : List D} {μ : Mu}
theorem u_ix0 : fIx (.cel 0) (.int 0) (.lst (nums [a, b, c]) :: μ) = .ok (.int a) (.lst (nums [a, b, c]) :: μ) := rfl
theorem u_ix1 : fIx (.cel 0) (.int 1) (.lst (nums [a, b, c]) :: μ) = .ok (.int b) (.lst (nums [a, b, c]) :: μ) := rfl
theorem u_ix2 : fIx (.cel 0) (.int 2) (.lst (nums [a, b, c]) :: μ) = .ok (.int c) (.lst (nums [a, b, c]) :: μ) := rfl
theorem u_set0 : ((nums [a, b, c]).set 0 (.int p)) = nums [p, b, c] := rfl
theorem u_set2 : ((nums [a, b, c]).set 2 (.int p)) = nums [a, b, p] := rfl
theorem u_len : (nums [a, b, c]).length = 3 := rfl
theorem u_n0 : ixN 3 0 = some 0 := rfl
theorem u_n2 : ixN 3 2 = some 2 := rfl
end
theorem m_take {n : Nat} {u : List Int} {m : Int} (hu : UrnOk n u) (hn : n ≤ 2 ^ 40) (h0 : 0 < m) (hm : m < 2 ^ 62) :
    ∃ (v : Nat) (u' : List Int), (∀ μ : Mu, F__law_take [.cel 0, .int m] (.lst (nums u) :: μ) = .ok (.int (v : Int)) (.lst (nums u') :: μ)) ∧ (v : Int) < m ∧ UrnOk (n + 1) u' := by
  obtain ⟨a, b, c, rfl, hb0, hb1, hc0, hc1⟩ := hu
  have nat : ∀ x : Int, ∃ v : Nat, (v : Int) = x % m ∧ (v : Int) < m := fun x => by
    have h1 := Int.emod_nonneg x (show m ≠ 0 by omega)
    have h2 := Int.emod_lt_of_pos x h0
    exact ⟨(x % m).toNat, by omega, by omega⟩
  by_cases ha : 0 < a
  · obtain ⟨v, e, hv⟩ := nat a
    refine ⟨v, [a / m, b, c], fun μ => ?_, hv, a / m, b, c, rfl, hb0, hb1, hc0, by omega⟩
    show FC 6 T__law_take _ _ = _
    have := fc_rt (n := 6) (T := T__law_take) (ds := [.cel 0, .int m]) (μ := .lst (nums [a, b, c]) :: μ) (Q := fun d μ' => d = .int (v : Int) ∧ μ' = .lst (nums [a / m, b, c]) :: μ) (by
      simp (disch := omega) only [EV, EC, T__law_take, u_ix0, u_ix1, u_ix2, decide_eq_true ha, u_len, u_n0, u_set0, e, and_self, show Int.toNat 0 = 0 from rfl])
    obtain ⟨d, μ', e1, e2, e3⟩ := this
    rw [e1, e2, e3]
  · have hq : ∀ x : Int, ∃ y : Int, x % 2147483647 = y ∧ 0 ≤ y ∧ y < 2147483647 := fun x => ⟨_, rfl, Int.emod_nonneg x (by decide), Int.emod_lt_of_pos x (by decide)⟩
    have hq2 : ∀ x : Int, ∃ y : Int, x % 40009 + 7 = y ∧ 0 ≤ y ∧ y < 40016 := fun x => ⟨_, rfl, by have := Int.emod_nonneg x (show (40009 : Int) ≠ 0 by decide); omega, by have := Int.emod_lt_of_pos x (show (0 : Int) < 40009 by decide); omega⟩
    have hq3 : ∀ x : Int, ∃ y : Int, x % 2147483629 = y ∧ 0 ≤ y ∧ y < 2147483629 := fun x => ⟨_, rfl, Int.emod_nonneg x (by decide), Int.emod_lt_of_pos x (by decide)⟩
    obtain ⟨o, eo, ho0, ho1⟩ := hq ((b + 48271 * (c + 1)) * (39373 + (c + 1)))
    obtain ⟨f, ef, hf0, hf1⟩ := hq2 o
    obtain ⟨t, et, ht0, ht1⟩ := hq3 ((o + (c + 1) + b / 1000003) * f)
    obtain ⟨v, e, hv⟩ := nat ((t * 48271 + o) % 2147483587 / 64)
    refine ⟨v, [a, b, c + 1], fun μ => ?_, hv, a, b, c + 1, rfl, hb0, hb1, by omega, by omega⟩
    show FC 6 T__law_take _ _ = _
    have := fc_rt (n := 6) (T := T__law_take) (ds := [.cel 0, .int m]) (μ := .lst (nums [a, b, c]) :: μ) (Q := fun d μ' => d = .int (v : Int) ∧ μ' = .lst (nums [a, b, c + 1]) :: μ) (by
      simp (disch := omega) only [EV, EC, T__law_take, u_ix0, u_ix1, u_ix2, decide_eq_false ha, u_len, u_n0, u_n2, u_set0, u_set2, eo, ef, et, e, and_self, show Int.toNat 2 = 2 from rfl])
    obtain ⟨d, μ', e1, e2, e3⟩ := this
    rw [e1, e2, e3]
/-! ### comparisons -/
theorem law_same_refl : ∀ (k : Nat) (d : D), plainB k d = true → F__law_same k [d, d] = .ok (.bl true)
  | 0, _, h => by cases h
  | k + 1, d, h => by
    have nc := plain_noc (k + 1) d h
    show FP 4 (T__law_same (liftP (F__law_same k))) [d, d] = _
    refine fp_rt (by simp only [NC, nc]) rfl ?_
    have seqs : ∀ ds : List D, (∀ x ∈ ds, plainB k x = true) → ds.length ≤ 100000 → ∀ ρ : En, ∀ x y z w, ρ = [x, y, z, w] → compD (xgTup 2 (xgCons (xgName 2) (xgCons (xgName 3) xgNil))) xYes (xCall 2 (liftP (F__law_same k)) (xCons (xVar 2) (xCons (xVar 3) xNil))) [2, 3] ρ (zpD ds ds) [] [] = .ok ((ds.map fun _ => true).map D.bl) [] := by
      intro ds hd hl ρ x y z w hρ
      rw [show zpD ds ds = ds.map fun a => D.tup [a, a] by unfold zpD; rw [List.zipWith_self]]
      refine lc_all (fun _ => true) D.bl (fun a ha => ?_) hl
      subst hρ
      refine ⟨_, rfl, ?_⟩
      simp only [EV, law_same_refl k a (hd a ha)]
    have alls : ∀ ds : List D, blsD ((ds.map fun _ => true).map D.bl) = some (ds.map fun _ => true) := by
      intro ds
      induction ds with
      | nil => rfl
      | cons x l ih =>
        show (blsD ((l.map fun _ => true).map D.bl)).map (true :: ·) = _
        rw [ih]
        rfl
    have all1 : ∀ (ds : List D), fAll [.lst ((ds.map fun _ => true).map D.bl)] [] = .ok (.bl true) [] := by
      intro ds
      show (match blsD ((ds.map fun _ => true).map D.bl) with | some bs => Res.ok (D.bl (bs.all id)) [] | none => .no) = _
      rw [alls]
      dsimp only
      rw [List.all_eq_true.mpr]
      intro x hx
      rw [List.mem_map] at hx
      obtain ⟨_, _, rfl⟩ := hx
      rfl
    cases d with
    | non => simp only [EV, T__law_same, isiA, tyOk, isLst, isTup, isStr, isBool, eq_non, Bool.or_self, if_true, decide_true, show isBool D.non = false from rfl, show isStr D.non = false from rfl]
    | bl t => simp only [EV, T__law_same, isiA, tyOk, isLst, isTup, isStr, isBool, Bool.or_self, if_true, decide_true, show isBool (D.bl t) = true from rfl, show isStr (D.bl t) = false from rfl]
    | int i => simp only [EV, T__law_same, isiA, tyOk, isLst, isTup, isStr, isBool, isInt, Bool.or_self, if_true, decide_true, show isBool (D.int i) = false from rfl, show isStr (D.int i) = false from rfl]
    | str s =>
      have h' : PyData.canLay0 (.str s) = true := h
      simp only [EV, T__law_same, isiA, tyOk, isLst, isTup, isStr, isBool, Bool.or_self, if_true, decide_true, eq_str s h', show isBool (D.str s) = false from rfl, show isStr (D.str s) = true from rfl]
    | tup ds =>
      have h' : (decide (ds.length ≤ 100000) && ds.all (plainB k)) = true := h
      rw [Bool.and_eq_true, List.all_eq_true] at h'
      have hz : zp2 [D.tup ds, D.tup ds] [] = .ok (zpD ds ds) [] := rfl
      simp only [EV, T__law_same, isiA, tyOk, isLst, isTup, Bool.or_self, if_true, decide_true, hz, seqs ds h'.2 (of_decide_eq_true h'.1) _ _ _ _ _ rfl, all1]
    | lst ds =>
      have h' : (decide (ds.length ≤ 100000) && ds.all (plainB k)) = true := h
      rw [Bool.and_eq_true, List.all_eq_true] at h'
      have hz : zp2 [D.lst ds, D.lst ds] [] = .ok (zpD ds ds) [] := rfl
      simp only [EV, T__law_same, isiA, tyOk, isLst, isTup, Bool.or_self, if_true, decide_true, hz, seqs ds h'.2 (of_decide_eq_true h'.1) _ _ _ _ _ rfl, all1]
    | frz ds => cases h
    | cel i => cases h
/-! ### rows as lists -/
theorem m_soft {b : Bool} {r : List Int} {k : Nat} (hl : r.length ≤ 100000) : F__law_soft (k + 2) [sq b r] = .ok (sq false r) := by
  show FP 2 (T__law_soft (liftP (F__law_soft (k + 1)))) [sq b r] = _
  refine fp_rt (by simp only [NC]) (by simp only [NC]) ?_
  have ht : tyOk [] (sq b r) = true := by cases b <;> rfl
  have hp : (isLst (sq b r) || b) = true := by cases b <;> rfl
  have hi : ∀ i : Int, F__law_soft (k + 1) [.int i] = .ok (.int i) := fun i => by
    show FP 2 (T__law_soft (liftP (F__law_soft k))) [.int i] = _
    refine fp_rt (by simp only [NC]) rfl ?_
    simp only [EV, T__law_soft, isiA, tyOk, isLst, isTup, Bool.or_self, if_true]
  simp only [EV, T__law_soft, isiA, ht, hp, if_true]
  rw [lc_all (fun i : Int => i) D.int (fun i _ => ⟨_, rfl, by simp only [EV, hi]⟩) (by rw [lim_eq]; exact hl)]
  simp only [EV, List.map_id']
/-! ### own calls -/
theorem slice3 {r : List Int} {p : Nat} (h0 : 0 < p) (h1 : p + 1 < r.length) : (r.drop (p - 1)).take 3 = [gN r (p - 1), gN r p, gN r (p + 1)] := by
  apply List.ext_getElem?
  intro i
  rw [List.getElem?_take, List.getElem?_drop]
  match i with
  | 0 => rw [if_pos (by omega), gN_lt (by omega), Nat.add_zero]; rfl
  | 1 => rw [if_pos (by omega), gN_lt (by omega), show p - 1 + 1 = p by omega]; rfl
  | 2 => rw [if_pos (by omega), gN_lt (by omega), show p - 1 + 2 = p + 1 by omega]; rfl
  | i + 3 => rw [if_neg (by omega)]; simp
theorem set_parts {r : List Int} {p : Nat} {v : Int} (h : p < r.length) : r.take p ++ ([v] ++ r.drop (p + 1)) = r.set p v := by
  rw [List.set_eq_take_append_cons_drop, if_pos h]
  rfl
theorem m_law_called {r : List Int} {p : Nat} (h : p < r.length) (hl : r.length ≤ 90000) : F__law_called [sq true r, .int (p : Int)] = .ok (sq true (callL r p)) := by
  refine fp_rt (by simp only [NC]) (by simp only [NC]) ?_
  by_cases c : 0 < p ∧ p + 1 < r.length
  · have e1 : ((p : Int) + 2).toNat - (p - 1) = 3 := by omega
    have e2 : ((p : Int) - 1).toNat = p - 1 := by omega
    have e3 : ((p : Int) + 1).toNat = p + 1 := by omega
    have a1 : ∀ v : Int, fAdd (sq true (r.take p)) (D.tup [.int v]) [] = .ok (sq true (r.take p ++ [v])) [] := fun v => b_addT (s := [v]) (by rw [List.length_take, List.length_singleton]; omega)
    have a2 : ∀ v : Int, fAdd (sq true (r.take p ++ [v])) (sq true (r.drop (p + 1))) [] = .ok (sq true (r.set p v)) [] := fun v => by
      rw [b_addT (by rw [List.length_append, List.length_take, List.length_singleton, List.length_drop]; omega), List.append_assoc, set_parts h]
    simp (disch := omega) only [EV, EC, T__law_called, decide_eq_true (show (0 : Int) < (p : Int) by omega), decide_eq_true (show (p : Int) < (r.length : Int) - 1 by omega), Int.toNat_natCast, e1, e2, e3, slice3 c.1 c.2, ix_mid, a1, a2]
    unfold callL
    rw [if_pos c]
  · have hc : callL r p = r := by
      unfold callL
      rw [if_neg c]
    rw [hc]
    by_cases h0 : 0 < p
    · simp only [EV, T__law_called, decide_eq_true (show (0 : Int) < (p : Int) by omega), decide_eq_false (show ¬ (p : Int) < (r.length : Int) - 1 by omega)]
    · simp only [EV, T__law_called, decide_eq_false (show ¬ (0 : Int) < (p : Int) by omega)]
end DL
end
section
set_option maxRecDepth 100000
set_option maxHeartbeats 1000000
/-! LM2: the box of draws, great rows. -/
namespace DL
open PySem PySem.Spec PyProof.Rows L2
theorem fc_box {cells : List Int} (h : 0 < cells.length) : ∃ u, F__law_box [sq false cells, .int 0] [] = .ok (.cel 0) [.lst (nums u)] ∧ UrnOk 0 u := by
  have hb : ∀ x : Int, 0 ≤ x % 2305843009213693951 + 39373 * 0 + 366500 ∧ x % 2305843009213693951 + 39373 * 0 + 366500 < 2 ^ 62 := fun x => by
    have h1 := Int.emod_nonneg x (show (2305843009213693951 : Int) ≠ 0 by decide)
    have h2 := Int.emod_lt_of_pos x (show (0 : Int) < 2305843009213693951 by decide)
    omega
  have hpow : fPow (.int 10) (.int 18) [] = .ok (.int (10 ^ 18)) [] := rfl
  have hmul : ∀ (x : Int) (t : Bool), fMulI (.int x) (.int (if t = true then 1 else 0)) [] = .ok (.int (x * (if t = true then 1 else 0))) [] := fun x t => by
    cases t
    · exact c_mulR (by decide) (by decide)
    · exact c_mulR (by decide) (by decide)
  generalize hc : gN cells 0 = c
  refine ⟨[(if c < 0 then -c else c) * (if decide ((10 : Int) ^ 18 ≤ (if c < 0 then -c else c)) = true then 1 else 0), c % 2305843009213693951 + 39373 * 0 + 366500, 0], ?_, _, _, _, rfl, (hb c).1, (hb c).2, by omega, by omega⟩
  obtain ⟨d, μ', e1, e2, e3⟩ := fc_rt (n := 3) (T := T__law_box) (ds := [sq false cells, .int 0]) (μ := []) (Q := fun d μ' => d = .cel 0 ∧ μ' = [.lst (nums [(if c < 0 then -c else c) * (if decide ((10 : Int) ^ 18 ≤ (if c < 0 then -c else c)) = true then 1 else 0), c % 2305843009213693951 + 39373 * 0 + 366500, 0])]) (by
    simp (disch := omega) only [EV, EC, c_int1b, T__law_box, decide_eq_true (show (0 : Int) < (cells.length : Int) by omega), gi_zero, hc, hpow, hmul]
    exact ⟨trivial, rfl⟩)
  show FC 3 T__law_box _ _ = _
  rw [e1, e2, e3]
theorem seqD_lst {ds : List D} : seqD (.lst ds) = some ds := rfl
theorem m_cells (ns : List Int) : ∃ cells, F__law_cells [.frz (nums ns), .int 1] = .ok (sq false cells) ∧ 0 < cells.length := by
  have h1 : cutD (nums ns) none (some 1) = nums (ns.take 1) := by rw [cut_nums, cutL_to (by decide)]; rfl
  have h2 : cutD (nums ns) (some 1) (some 63) = nums ((ns.drop 1).take 62) := by rw [cut_nums, cutL_mid (by decide) (by decide)]; rfl
  have s1 : ∀ lo hi μ, fSl (.frz (nums ns)) lo hi μ = .ok (.lst (cutD (nums ns) lo hi)) μ := fun _ _ _ => rfl
  -- the first cell
  have hfirst : ∃ x : Int, orTA (xLstC (xCons (xC (.int 0)) xNil)) [some (.frz (nums ns)), some (.int 1), none, none, none, none] (.ok (.cel 0) [.lst (nums (ns.take 1))]) = .ok (.cel 0) [.lst (nums [x])] ∨ orTA (xLstC (xCons (xC (.int 0)) xNil)) [some (.frz (nums ns)), some (.int 1), none, none, none, none] (.ok (.cel 0) [.lst (nums (ns.take 1))]) = .ok (.cel 1) [.lst [], .lst (nums [x])] := by
    cases ns with
    | nil => exact ⟨0, .inr rfl⟩
    | cons x r => exact ⟨x, .inl rfl⟩
  have loop : ∀ (k : Nat) (μ0 : Mu), (k = 0 ∧ μ0 = []) ∨ (k = 1 ∧ μ0 = [.lst []]) → ∀ x : Int, ∃ ρ y v w z, forD (xgTup 2 (xgCons (xgName 3) (xgCons (xgName 4) xgNil))) (xSeq (xAsg (xOp fMod (xCB fInt1 (xCons (xVar 3) xNil)) (xVar 1)) (xgName 5)) (xAsg (xOp fAdd (xOp fIx (xVar 2) (xVar 5)) (xOp fMulI (xVar 4) (xOp fAdd (xVar 3) (xC (.int 2))))) (xgSub (xVar 2) (xVar 5)))) (enD (nums ((ns.drop 1).take 62))) [some (.frz (nums ns)), some (.int 1), some (.cel k), none, none, none] (μ0 ++ [.lst (nums [x])]) = .nx ρ (μ0 ++ [.lst (nums [y])]) ∧ ρ = [some (.frz (nums ns)), some (.int 1), some (.cel k), v, w, z] := by
    intro k μ0 hk x
    rw [en_nums]
    have hlen : ((ns.drop 1).take 62).length ≤ 62 := by rw [List.length_take]; omega
    generalize (ns.drop 1).take 62 = l at hlen
    have := for_range (G := xgTup 2 (xgCons (xgName 3) (xgCons (xgName 4) xgNil))) (B := xSeq (xAsg (xOp fMod (xCB fInt1 (xCons (xVar 3) xNil)) (xVar 1)) (xgName 5)) (xAsg (xOp fAdd (xOp fIx (xVar 2) (xVar 5)) (xOp fMulI (xVar 4) (xOp fAdd (xVar 3) (xC (.int 2))))) (xgSub (xVar 2) (xVar 5)))) (e := fun (i : Nat) => D.tup [.int (i : Int), .int (gN l i)]) (n := l.length) (ρ := [some (.frz (nums ns)), some (.int 1), some (.cel k), none, none, none]) (μ := μ0 ++ [.lst (nums [x])]) (Q := fun o => ∃ y v w z, o = .nx [some (.frz (nums ns)), some (.int 1), some (.cel k), v, w, z] (μ0 ++ [.lst (nums [y])])) (fun _ ρ μ => ∃ y v w z, ρ = [some (.frz (nums ns)), some (.int 1), some (.cel k), v, w, z] ∧ μ = μ0 ++ [.lst (nums [y])]) ⟨x, none, none, none, rfl, rfl⟩ (fun i ρ μ hi hI => by
      obtain ⟨y, v, w, z, rfl, rfl⟩ := hI
      refine ⟨_, _, rfl, ?_⟩
      have m0 : (i : Int) % 1 = 0 := by omega
      rcases hk with ⟨rfl, rfl⟩ | ⟨rfl, rfl⟩
      · have i0 : ∀ μ, fIx (.cel 0) (.int 0) (.lst (nums [y]) :: μ) = .ok (.int y) (.lst (nums [y]) :: μ) := fun _ => rfl
        simp (disch := omega) only [EV, EC, m0, i0, show (nums [y]).length = 1 from rfl, show ixN 1 0 = some 0 from rfl, show Int.toNat 0 = 0 from rfl]
        exact ⟨_, _, _, _, rfl, rfl⟩
      · have i0 : ∀ c μ, fIx (.cel 1) (.int 0) (c :: .lst (nums [y]) :: μ) = .ok (.int y) (c :: .lst (nums [y]) :: μ) := fun _ _ => rfl
        simp (disch := omega) only [EV, EC, m0, i0, show (nums [y]).length = 1 from rfl, show ixN 1 0 = some 0 from rfl, show Int.toNat 0 = 0 from rfl]
        exact ⟨_, _, _, _, rfl, rfl⟩) (fun ρ μ hI => by
      obtain ⟨y, v, w, z, rfl, rfl⟩ := hI
      exact ⟨y, v, w, z, rfl⟩)
    obtain ⟨y, v, w, z, e⟩ := this
    exact ⟨_, y, v, w, z, e, rfl⟩
  have hl1 : ∀ ds : List D, fListC [.lst ds] [] = .ok (.cel 0) [.lst ds] := fun _ => rfl
  obtain ⟨x, hx | hx⟩ := hfirst
  · obtain ⟨ρ, y, v, w, z, e, rfl⟩ := loop 0 [] (.inl ⟨rfl, rfl⟩) x
    refine ⟨[y], fp_rt (by simp only [NC, noCel, noCels_nums]) (by simp only [NC]) ?_, by simp⟩
    simp only [EV, T__law_cells, s1, h1, h2, hl1, hx]
    rw [show [Cell.lst (nums [x])] = [] ++ [Cell.lst (nums [x])] from rfl, e]
    simp only [EV]
  · obtain ⟨ρ, y, v, w, z, e, rfl⟩ := loop 1 [.lst []] (.inr ⟨rfl, rfl⟩) x
    refine ⟨[y], fp_rt (by simp only [NC, noCel, noCels_nums]) (by simp only [NC]) ?_, by simp⟩
    simp only [EV, T__law_cells, s1, h1, h2, hl1, hx]
    rw [show [Cell.lst [], Cell.lst (nums [x])] = [Cell.lst []] ++ [Cell.lst (nums [x])] from rfl, e]
    simp only [EV]
/-- the box of draws at a law's begin -/
theorem law_begin (ns : List Int) : ∃ cells u, UrnOk 0 u ∧ F__law_cells [.frz (nums ns), .int 1] = .ok (sq false cells) ∧ F__law_box [sq false cells, .int 0] [] = .ok (.cel 0) [.lst (nums u)] := by
  obtain ⟨cells, e1, h1⟩ := m_cells ns
  obtain ⟨u, e2, h2⟩ := fc_box h1
  exact ⟨cells, u, h2, e1, e2⟩
/-! ### great rows -/
/-- numbers of at most m -/
def Bd (m : Int) (r : List Int) : Prop := ∀ x ∈ r, -m ≤ x ∧ x ≤ m
theorem Bd.mono {m k : Int} {r : List Int} (h : Bd m r) (hk : m ≤ k) : Bd k r := fun x hx => by have := h x hx; omega
theorem Bd.gN {m : Int} {r : List Int} (h : Bd m r) {p : Nat} (hp : p < r.length) : -m ≤ DL.gN r p ∧ DL.gN r p ≤ m := h _ (by
  have := gN_lt hp
  exact List.mem_of_getElem? this)
theorem Bd.snoc {m : Int} {r : List Int} (h : Bd m r) {x : Int} (h1 : -m ≤ x) (h2 : x ≤ m) : Bd m (r ++ [x]) := fun y hy => by
  rw [List.mem_append, List.mem_singleton] at hy
  rcases hy with hy | hy
  · exact h y hy
  · subst hy
    exact ⟨h1, h2⟩
structure Great (most : Nat) (r : List Int) : Prop where
  pos : 1 ≤ r.length
  len : r.length ≤ most
  bd : Bd 10000 r
theorem ix_celL {k : Nat} {r : List Int} {i : Int} {μ : Mu} (h : μ[k]? = some (.lst (nums r))) (h0 : 0 ≤ i) (h1 : i < r.length) : fIx (.cel k) (.int i) μ = .ok (.int (gi r i)) μ := by
  unfold fIx
  dsimp only
  unfold seqM
  dsimp only
  rw [h]
  dsimp only
  rw [atI_nums h0 h1]
theorem len_celL {k : Nat} {ds : List D} {μ : Mu} (h : μ[k]? = some (.lst ds)) : fLen [.cel k] μ = .ok (.int ds.length) μ := by
  unfold fLen
  dsimp only
  unfold seqM
  dsimp only
  rw [h]
theorem m_great {u : List Int} {n most : Nat} (hu : UrnOk n u) (hn : n ≤ 2 ^ 30) (hm : 1 ≤ most) (hm2 : most ≤ 100) : ∃ r u', F__law_great [.cel 0, .int (most : Int)] [.lst (nums u)] = .ok (sq true r) [.lst (nums u'), .dead] ∧ Great most r ∧ UrnOk (n + 300) u' := by
  obtain ⟨v1, u1, e1, hv1, hu1⟩ := m_take (m := 9) hu (by omega) (by decide) (by decide)
  obtain ⟨v2, u2, e2, hv2, hu2⟩ := m_take (m := (most : Int)) hu1 (by omega) (by omega) (by omega)
  suffices hs : OkM (fun d μ' => ∃ r u', d = sq true r ∧ μ' = [.lst (nums u'), .dead] ∧ Great most r ∧ UrnOk (n + 300) u') (F__law_great [.cel 0, .int (most : Int)] [.lst (nums u)]) by
    obtain ⟨d, μ', e, r, u', rfl, rfl, h1, h2⟩ := hs
    exact ⟨r, u', e, h1, h2⟩
  refine fc_rt (T := T__law_great) ?_
  simp (disch := omega) only [EV, EC, T__law_great, e1, e2, rg_map, show Int.toNat 40 = 40 from rfl]
  refine for_range (Q := fun o => RtM _ (seqO o _)) (fun k ρ μ => ∃ (r : List Int) (u : List Int) (y : D) (x5 x6 x7 x8 x9 : Option D), ρ = [some (.cel 0), some (.int (most : Int)), some (.cel 1), some y, some (.int (1 + (v2 : Int))), x5, x6, x7, x8, x9] ∧ μ = [.lst (nums u), .lst (nums r)] ∧ 1 ≤ r.length ∧ r.length ≤ 1 + v2 ∧ Bd (10 + 10 * (r.length : Int)) r ∧ UrnOk (n + 2 + 6 * k) u) ⟨[(v1 : Int)], u2, .int 0, none, none, none, none, none, rfl, rfl, by simp, by simp, fun x hx => by rw [List.mem_singleton] at hx; subst hx; rw [List.length_singleton]; omega, hu2⟩ (fun k ρ μ hk hI => ?_) (fun ρ μ hI => ?_)
  · obtain ⟨r, u, y, x5, x6, x7, x8, x9, rfl, rfl, hr1, hr2, hb, hu⟩ := hI
    refine ⟨_, _, rfl, ?_⟩
    -- stair, size
    have hstair : ∃ (t : Bool) (u' : List Int), UrnOk (n + 2 + 6 * k + 1) u' ∧ ∀ ρ : En, orvP (decide ((k : Int) % 2 = 1)) (opA fEq (xC (.int 0)) ρ (F__law_take [.cel 0, .int 2] [.lst (nums u), .lst (nums r)])) [.lst (nums u), .lst (nums r)] = .ok (.bl t) [.lst (nums u'), .lst (nums r)] := by
      by_cases hk2 : (k : Int) % 2 = 1
      · refine ⟨true, u, hu.mono (by omega), fun ρ => ?_⟩
        simp (disch := omega) only [EV, EC, decide_eq_true hk2]
      · obtain ⟨v, u', e, hv, hu'⟩ := m_take (m := 2) hu (by omega) (by decide) (by decide)
        refine ⟨decide ((v : Int) = 0), u', hu', fun ρ => ?_⟩
        simp (disch := omega) only [EV, EC, decide_eq_false hk2, e]
    obtain ⟨t, u3, hu3, e3⟩ := hstair
    obtain ⟨v4, u4, e4, hv4, hu4⟩ := m_take (m := 4) hu3 (by omega) (by decide) (by decide)
    simp (disch := omega) only [EV, EC, e3, e4, rg_map]
    rw [show (1 + (v4 : Int)).toNat = 1 + v4 by omega]
    refine for_range (fun j ρ μ => ∃ (r : List Int) (u : List Int) (y : D) (x8 x9 : Option D), ρ = [some (.cel 0), some (.int (most : Int)), some (.cel 1), some y, some (.int (1 + (v2 : Int))), some (.int (k : Int)), some (.bl t), some (.int (1 + (v4 : Int))), x8, x9] ∧ μ = [.lst (nums u), .lst (nums r)] ∧ 1 ≤ r.length ∧ r.length ≤ 1 + v2 ∧ Bd (10 + 10 * (r.length : Int)) r ∧ UrnOk (n + 2 + 6 * k + 2 + j) u) ⟨r, u4, y, _, _, rfl, rfl, hr1, hr2, hb, hu4⟩ (fun j ρ μ hj hI => ?_) (fun ρ μ hI => ?_)
    · obtain ⟨r, u, y, x8, x9, rfl, rfl, hr1, hr2, hb, hu⟩ := hI
      refine ⟨_, _, rfl, ?_⟩
      have lc : fLen [.cel 1] [.lst (nums u), .lst (nums r)] = .ok (.int (r.length : Int)) [.lst (nums u), .lst (nums r)] := by
        rw [len_celL (ds := nums r) rfl, List.length_map]
      by_cases hlt : (r.length : Int) < 1 + (v2 : Int)
      · have ic : fIx (.cel 1) (.int ((r.length : Int) - 1)) [.lst (nums u), .lst (nums r)] = .ok (.int (gN r (r.length - 1))) [.lst (nums u), .lst (nums r)] := by
          rw [ix_celL (r := r) rfl (by omega) (by omega), gi_pred]
        have hlast := hb.gN (p := r.length - 1) (by omega)
        have hap : (nums r).length < 100000 := by rw [List.length_map]; omega
        have hx : ∃ (x : Int) (u' : List Int), -(20 + 10 * (r.length : Int)) ≤ x ∧ x ≤ 20 + 10 * (r.length : Int) ∧ UrnOk (n + 2 + 6 * k + 2 + (j + 1)) u' ∧ ifeO (.ok (t || decide (((j : Int) + (k : Int)) % 2 = 0)) [.lst (nums u), .lst (nums r)]) (xOp fAdd (xOp fAdd (xVar 9) (xC (.int 1))) (xCall 2 F__law_take (xCons (xVar 0) (xCons (xC (.int 3)) xNil)))) (xOp fSub (xOp fSub (xVar 9) (xC (.int 1))) (xCall 2 F__law_take (xCons (xVar 0) (xCons (xC (.int 5)) xNil)))) [some (.cel 0), some (.int (most : Int)), some (.cel 1), some y, some (.int (1 + (v2 : Int))), some (.int (k : Int)), some (.bl t), some (.int (1 + (v4 : Int))), some (.int (j : Int)), some (.int (gN r (r.length - 1)))] = .ok (.int x) [.lst (nums u'), .lst (nums r)] := by
          by_cases hc : (t || decide (((j : Int) + (k : Int)) % 2 = 0)) = true
          · obtain ⟨v, u', e, hv, hu'⟩ := m_take (m := 3) hu (by omega) (by decide) (by decide)
            refine ⟨gN r (r.length - 1) + 1 + (v : Int), u', by omega, by omega, hu', ?_⟩
            simp (disch := omega) only [EV, EC, hc, e]
          · obtain ⟨v, u', e, hv, hu'⟩ := m_take (m := 5) hu (by omega) (by decide) (by decide)
            refine ⟨gN r (r.length - 1) - 1 - (v : Int), u', by omega, by omega, hu', ?_⟩
            simp (disch := omega) only [EV, EC, Bool.eq_false_iff.mpr hc, e]
        obtain ⟨x, u', hx1, hx2, hu', ex⟩ := hx
        simp (disch := first | omega | assumption) only [EV, EC, lc, decide_eq_true hlt, ic, ex]
        refine ⟨r ++ [x], u', .int x, _, _, rfl, ?_, by simp, by rw [List.length_append, List.length_singleton]; omega, ?_, hu'⟩
        · simp [nums]
        · rw [List.length_append, List.length_singleton]
          exact (hb.mono (by omega)).snoc (by omega) (by omega)
      · simp (disch := omega) only [EV, EC, lc, decide_eq_false hlt]
        exact ⟨r, u, y, _, _, rfl, rfl, hr1, hr2, hb, hu.mono (by omega)⟩
    · obtain ⟨r, u, y, x8, x9, rfl, rfl, hr1, hr2, hb, hu⟩ := hI
      exact ⟨r, u, y, _, _, _, _, _, rfl, rfl, hr1, hr2, hb, hu.mono (by omega)⟩
  · obtain ⟨r, u, y, x5, x6, x7, x8, x9, rfl, rfl, hr1, hr2, hb, hu⟩ := hI
    have ft : fTuple [.lst (nums r)] [.lst (nums u), .dead] = .ok (sq true r) [.lst (nums u), .dead] := rfl
    simp only [EV, ft]
    exact ⟨r, u, rfl, rfl, ⟨hr1, by omega, hb.mono (by omega)⟩, hu.mono (by omega)⟩
end DL
end
section
set_option maxRecDepth 100000
set_option maxHeartbeats 1000000
/-! LM3: a Hall. -/
namespace DL
open PySem PySem.Spec PyProof.Rows L2
/-- a Hall at k: its rows' list at i, its log at j -/
structure HallAt (HC : Addr) (μ : Mu) (k i j : Nat) (past : List (List Int)) (r : List Int) (log : List D) : Prop where
  h1 : μ[k]? = some (.ins HC NS [.cel i, .cel j])
  h2 : μ[i]? = some (.lst ((past ++ [r]).map (sq true)))
  h3 : μ[j]? = some (.lst log)
  ne : i ≠ j
theorem get_set_ne {μ : Mu} {i k : Nat} {c : Cell} (h : i ≠ k) : (μ.set i c)[k]? = μ[k]? := List.getElem?_set_ne h
theorem get_set_eq {μ : Mu} {i : Nat} {c d : Cell} (h : μ[i]? = some d) : (μ.set i c)[i]? = some c := by
  rw [List.getElem?_set_self]
  exact (List.getElem?_eq_some_iff.mp h).1
theorem isCel_of {μ : Mu} {i : Nat} {ds : List D} (h : μ[i]? = some (.lst ds)) : isCelL (.cel i) μ = true := by
  unfold isCelL
  dsimp only
  rw [h]
section
variable {HC : Addr} {μ : Mu} {k i j : Nat} {past : List (List Int)} {r : List Int} {log : List D}
theorem HallAt.ik (H : HallAt HC μ k i j past r log) : i ≠ k := fun e => by
  have := H.h2
  rw [e, H.h1] at this
  cases this
theorem HallAt.set (H : HallAt HC μ k i j past r log) (past' : List (List Int)) (r' : List Int) : HallAt HC (μ.set i (.lst ((past' ++ [r']).map (sq true)))) k i j past' r' log :=
  ⟨by rw [get_set_ne H.ik]; exact H.h1, get_set_eq H.h2, by rw [get_set_ne H.ne]; exact H.h3, H.ne⟩
theorem map_snoc_last (f : List Int → D) (past : List (List Int)) (r : List Int) : atI ((past ++ [r]).map f) (-1) = some (f r) := by
  have e : ixN ((past ++ [r]).map f).length (-1) = some past.length := by
    rw [List.length_map, List.length_append, List.length_singleton]
    unfold ixN
    rw [if_neg (by omega), if_pos (by omega)]
    congr 1
    omega
  unfold atI
  rw [e]
  show ((past ++ [r]).map f)[past.length]? = _
  rw [List.map_append, List.getElem?_append_right (by rw [List.length_map]; exact Nat.le_refl _), List.length_map, Nat.sub_self]
  rfl
theorem okM_eq {d : D} {μ' : Mu} {res : Res D} (h : OkM (fun d1 μ1 => d1 = d ∧ μ1 = μ') res) : res = .ok d μ' := by
  obtain ⟨d1, μ1, e, rfl, rfl⟩ := h
  exact e
theorem m_h_row (H : HallAt HC μ k i j past r log) : F_Hall_row HC [.cel k] μ = .ok (sq true r) μ := by
  refine okM_eq (fc_rt (T := T_Hall_row HC) ?_)
  have ix : fIx (.cel i) (.int (-1)) μ = .ok (sq true r) μ := by
    unfold fIx
    dsimp only
    unfold seqM
    dsimp only
    rw [H.h2]
    dsimp only
    rw [map_snoc_last]
  simp only [EV, EO, T_Hall_row, H.h1, ix, and_self]
theorem m_h_call {p : Nat} (H : HallAt HC μ k i j past r log) (hp : p < r.length) (hl : r.length ≤ 90000) (hpl : past.length < 90000) : F_Hall_call HC [.cel k, .int (p : Int)] μ = .ok (.int (gN (callL r p) p)) (μ.set i (.lst (((past ++ [r]) ++ [callL r p]).map (sq true)))) := by
  refine okM_eq (fc_rt (T := T_Hall_call HC) ?_)
  have H' := H.set (past ++ [r]) (callL r p)
  have hap : ((past ++ [r]).map (sq true)).length < 100000 := by
    rw [List.length_map, List.length_append, List.length_singleton]
    omega
  have happ : (past ++ [r]).map (sq true) ++ [sq true (callL r p)] = ((past ++ [r]) ++ [callL r p]).map (sq true) := by simp
  have hc := callL_length (r := r) (p := p)
  simp (disch := first | assumption | omega) only [EV, EO, T_Hall_call, H.h1, H.h2, m_h_row H, m_called hp (by omega : r.length ≤ 100000), isCel_of H.h2, b_app, happ, H'.h1, m_h_row H', ix_sq, gi_nat, and_self]
theorem m_h_deeds (H : HallAt HC μ k i j past r log) : F_Hall_deeds HC [.cel k] μ = .ok (.int (past.length : Int)) μ := by
  refine okM_eq (fc_rt (T := T_Hall_deeds HC) ?_)
  simp only [EV, EO, T_Hall_deeds, H.h1, len_celL H.h2, List.length_map, List.length_append, List.length_singleton]
  exact ⟨by rw [show ((past.length + 1 : Nat) : Int) - 1 = (past.length : Int) by omega], trivial⟩
theorem m_h_tops (H : HallAt HC μ k i j past r log) (hl : r.length ≤ 90000) : F_Hall_tops HC [.cel k] μ = .ok (sq false (topsL r)) μ := by
  refine okM_eq (fc_rt (T := T_Hall_tops HC) ?_)
  simp only [EV, EO, T_Hall_tops, H.h1, m_h_row H, m_tops (by omega : r.length ≤ 100000), and_self]
theorem m_h_dips (H : HallAt HC μ k i j past r log) (hl : r.length ≤ 90000) : F_Hall_dips HC [.cel k] μ = .ok (sq false (dipsL r)) μ := by
  refine okM_eq (fc_rt (T := T_Hall_dips HC) ?_)
  simp only [EV, EO, T_Hall_dips, H.h1, m_h_row H, m_dips (by omega : r.length ≤ 100000), and_self]
theorem m_h_run {b : Bool} {ps : List Nat} (H : HallAt HC μ k i j past r log) (hp : ∀ p ∈ ps, p < r.length) (hl : r.length ≤ 90000) (hl2 : ps.length ≤ 90000) (hpl : past.length < 90000) : F_Hall_run HC [.cel k, sq b (natsD ps)] μ = .ok (.int ((ps.length : Int) - ((idleL r ps).length : Int))) (μ.set i (.lst (((past ++ [r]) ++ [runL r ps]).map (sq true)))) := by
  refine okM_eq (fc_rt (T := T_Hall_run HC) ?_)
  have H' := H.set (past ++ [r]) (runL r ps)
  have hap : ((past ++ [r]).map (sq true)).length < 100000 := by
    rw [List.length_map, List.length_append, List.length_singleton]
    omega
  have happ : (past ++ [r]).map (sq true) ++ [sq true (runL r ps)] = ((past ++ [r]) ++ [runL r ps]).map (sq true) := by simp
  simp (disch := first | assumption | omega) only [EV, EO, T_Hall_run, H.h1, H.h2, m_h_row H, m_run hp (by omega : r.length ≤ 100000), m_idle hp (by omega : r.length ≤ 100000) hl2, isCel_of H.h2, b_app, happ, List.length_map, and_self]
theorem m_h_go {b : Bool} {h : List Int} (H : HallAt HC μ k i j past r log) (he : r.length = h.length) (hl : r.length ≤ 90000) (hb : barL r h = none) (hpl : past.length < 90000) : F_Hall_go HC [.cel k, sq b h] μ = .ok (.int ((chgL r h).length : Int)) (μ.set i (.lst (((past ++ [r]) ++ [h]).map (sq true)))) := by
  refine okM_eq (fc_rt (T := T_Hall_go HC) ?_)
  have hap : ((past ++ [r]).map (sq true)).length < 100000 := by
    rw [List.length_map, List.length_append, List.length_singleton]
    omega
  have happ : (past ++ [r]).map (sq true) ++ [sq true h] = ((past ++ [r]) ++ [h]).map (sq true) := by simp
  simp (disch := first | assumption | omega) only [EV, EO, T_Hall_go, H.h1, H.h2, m_h_row H, m_distance he hl hb, isCel_of H.h2, b_app, happ, and_self]
theorem m_distance_no {b c : Bool} {r h : List Int} (he : r.length = h.length) (hl : r.length ≤ 90000) {x : Str × Nat} (hb : barL r h = some x) : F_distance [sq b r, sq c h] = .exc 9 (barD (some x)) := by
  have e : F_changed [sq b r, sq c h] = .exc 9 (barD (some x)) := by
    refine fp_xc (by simp only [NC]) (noc_barD _) ?_
    simp only [EV, T_changed, m_look_leads_no he hl hb, and_self]
  refine fp_xc (by simp only [NC]) (noc_barD _) ?_
  simp only [EV, T_distance, e, and_self]
def XcM (c : Nat) (d : D) (μ : Mu) (o : Out) : Prop := ∃ ρ, o = .exc c d ρ μ
theorem xcm_xc {c e : Nat} {d x : D} {ρ : En} {μ ν : Mu} : XcM c d μ (.exc e x ρ ν) = (e = c ∧ x = d ∧ ν = μ) := propext ⟨fun ⟨_, h⟩ => by cases h; exact ⟨rfl, rfl, rfl⟩, fun ⟨h1, h2, h3⟩ => ⟨ρ, by rw [h1, h2, h3]⟩⟩
theorem fc_xc {n : Nat} {T : TSd} {ds : List D} {μ μ' : Mu} {c : Nat} {d : D} (h : XcM c d μ' (T (stE n ds) μ)) : FC n T ds μ = .exc c d μ' := by
  obtain ⟨ρ, e⟩ := h
  unfold stE at e
  unfold FC
  rw [e]
theorem m_h_go_no {b : Bool} {h : List Int} (H : HallAt HC μ k i j past r log) (he : r.length = h.length) (hl : r.length ≤ 90000) {x : Str × Nat} (hb : barL r h = some x) : F_Hall_go HC [.cel k, sq b h] μ = .exc 9 (barD (some x)) μ := by
  refine fc_xc (T := T_Hall_go HC) ?_
  simp only [EV, EO, T_Hall_go, H.h1, m_h_row H, m_distance_no he hl hb, xcm_xc, and_self]
theorem m_law_go {b : Bool} {h : List Int} (H : HallAt HC μ k i j past r log) (he : r.length = h.length) (hl : r.length ≤ 90000) (hb : barL r h = none) (hpl : past.length < 90000) : F__law_go HC [.cel k, sq b h] μ = .ok (.int ((chgL r h).length : Int)) (μ.set i (.lst (((past ++ [r]) ++ [h]).map (sq true)))) := by
  refine okM_eq (fc_rt (T := T__law_go HC) ?_)
  simp only [EV, EO, T__law_go, H.h1, m_h_go H he hl hb hpl, and_self]
theorem m_law_go_no {b : Bool} {h : List Int} (H : HallAt HC μ k i j past r log) (he : r.length = h.length) (hl : r.length ≤ 90000) {x : Str × Nat} (hb : barL r h = some x) : F__law_go HC [.cel k, sq b h] μ = .ok (.tup [.str "barred", barD (some x)]) μ := by
  refine okM_eq (fc_rt (T := T__law_go HC) ?_)
  have hlen : ∀ a b c d : Option D, 3 < ([a, b, c, d] : En).length := fun _ _ _ _ => Nat.lt_succ_self 3
  simp only [EV, EO, T__law_go, H.h1, m_h_go_no H he hl hb, c_tryX (hlen _ _ _ _), and_self]
theorem m_h_undo_no (H : HallAt HC μ k i j [] r log) : F_Hall_undo HC [.cel k] μ = .ok (.bl false) μ := by
  refine okM_eq (fc_rt (T := T_Hall_undo HC) ?_)
  simp only [EV, EO, T_Hall_undo, H.h1, m_h_deeds H, List.length_nil, decide_eq_true (show ((0 : Nat) : Int) = 0 from rfl), and_self]
theorem m_h_undo {q : List Int} (H : HallAt HC μ k i j (past ++ [q]) r log) : F_Hall_undo HC [.cel k] μ = .ok (.bl true) (μ.set i (.lst ((past ++ [q]).map (sq true)))) := by
  refine okM_eq (fc_rt (T := T_Hall_undo HC) ?_)
  have hpop : fPop (((past ++ [q]) ++ [r]).map (sq true)) [] = some (sq true r, (past ++ [q]).map (sq true)) := by
    unfold fPop
    dsimp only
    rw [List.length_map, List.length_append, List.length_singleton, Nat.add_sub_cancel, List.map_append, List.getElem?_append_right (by rw [List.length_map]; exact Nat.le_refl _), List.length_map, Nat.sub_self, List.map_singleton, List.dropLast_concat]
    rfl
  simp only [EV, EO, T_Hall_undo, H.h1, H.h2, m_h_deeds H, decide_eq_false (show ¬ ((past ++ [q]).length : Int) = 0 by rw [List.length_append, List.length_singleton]; omega), hpop, and_self]
/-- a new Hall -/
theorem m_h_init {b : Bool} {μ : Mu} : F_Hall_init HC [.cel μ.length, sq b r] (μ ++ [.ins HC [] []]) = .ok .non (μ ++ [.ins HC NS [.cel (μ.length + 1), .cel (μ.length + 2)], .lst [sq true r], .lst []]) := by
  have g0 : ∀ (c : Cell) (l : Mu), (μ ++ c :: l)[μ.length]? = some c := fun c l => by rw [List.getElem?_append_right (Nat.le_refl _), Nat.sub_self]; rfl
  have s0 : ∀ (c d : Cell) (l : Mu), (μ ++ c :: l).set μ.length d = μ ++ d :: l := fun c d l => by rw [List.set_append_right _ _ (Nat.le_refl _), Nat.sub_self]; rfl
  have a1 : ∀ (l l2 : Mu), (μ ++ l) ++ l2 = μ ++ (l ++ l2) := fun l l2 => List.append_assoc _ _ _
  have e : T_Hall_init HC (stE 2 [.cel μ.length, sq b r]) (μ ++ [.ins HC [] []]) = .nx [some (.cel μ.length), some (sq b r)] (μ ++ [.ins HC NS [.cel (μ.length + 1), .cel (μ.length + 2)], .lst [sq true r], .lst []]) := by
    simp only [EV, EO, T_Hall_init, List.length_append, List.length_cons, List.length_nil, a1, g0, s0]
  show FC 2 (T_Hall_init HC) _ _ = _
  unfold stE at e
  unfold FC
  rw [e]
theorem m_make {b : Bool} {μ : Mu} : makeA HC 2 (F_Hall_init HC) (.ok [sq b r] μ) = .ok (.cel μ.length) (μ ++ [.ins HC NS [.cel (μ.length + 1), .cel (μ.length + 2)], .lst [sq true r], .lst []]) := by
  simp only [EO, EM, m_h_init]
end
end DL
end
section
set_option maxRecDepth 100000
set_option maxHeartbeats 1000000
/-! LM4: the laws' own reasons that bar; a drawn item; people of all parts. -/
namespace DL
open PySem PySem.Spec PyProof.Rows L2
theorem m_law_of {n : Nat} {u : List Int} {b : Bool} {r : List Int} (hu : UrnOk n u) (hn : n ≤ 2 ^ 40) (h0 : 0 < r.length) (hm : r.length ≤ 100000) :
    ∃ (p : Nat) (u' : List Int), (∀ μ : Mu, F__law_of [.cel 0, sq b r] (.lst (nums u) :: μ) = .ok (.int (gN r p)) (.lst (nums u') :: μ)) ∧ p < r.length ∧ UrnOk (n + 1) u' := by
  obtain ⟨v, u', e, hv, hu'⟩ := m_take (m := (r.length : Int)) hu hn (by omega) (by omega)
  refine ⟨v, u', fun μ => okM_eq (fc_rt (T := T__law_of) ?_), by omega, hu'⟩
  simp (disch := omega) only [EV, EC, T__law_of, e, gi_nat, and_self]
theorem mul_neg_iff' (a b : Int) : a * b < 0 ↔ (a < 0 ∧ 0 < b) ∨ (0 < a ∧ b < 0) := by
  constructor
  · intro h
    rcases Int.lt_trichotomy a 0 with ha | ha | ha
    · rcases Int.lt_trichotomy b 0 with hb | hb | hb
      · have := Int.mul_pos_of_neg_of_neg ha hb
        omega
      · rw [hb, Int.mul_zero] at h
        omega
      · exact .inl ⟨ha, hb⟩
    · rw [ha, Int.zero_mul] at h
      omega
    · rcases Int.lt_trichotomy b 0 with hb | hb | hb
      · exact .inr ⟨ha, hb⟩
      · rw [hb, Int.mul_zero] at h
        omega
      · have := Int.mul_pos ha hb
        omega
  · rintro (⟨h1, h2⟩ | ⟨h1, h2⟩)
    · exact Int.mul_neg_of_neg_of_pos h1 h2
    · exact Int.mul_neg_of_pos_of_neg h1 h2
theorem eq_nilL (xs : List Int) {μ : Mu} : fEq (sq false xs) (.lst []) μ = .ok (.bl (decide (xs = []))) μ := eq_sq (b := false) xs []
theorem ne_nilL (xs : List Int) {μ : Mu} : fNe (sq false xs) (.lst []) μ = .ok (.bl (!decide (xs = []))) μ := ne_sq (b := false) xs []
theorem m_law_bar {b c : Bool} {r h : List Int} (he : r.length = h.length) (hl : r.length ≤ 90000) (hbd : Bd (2 ^ 60) r) : F__law_bar [sq b r, sq c h] = .ok (barD (barL r h)) := by
  refine fp_rt (by simp only [NC]) (noc_barD _) ?_
  simp (disch := omega) only [EV, EC, T__law_bar, rg_map, Int.toNat_natCast]
  -- only tops fell, only dips rose
  refine for_range (Q := fun o => Rt _ (seqO o _)) (fun k ρ μ => (∃ a d e f : Option D, ρ = [some (sq b r), some (sq c h), some (.int (r.length : Int)), a, d, e, f, none, none, none, none]) ∧ μ = [] ∧ ∀ i, i < k → wcB r h i = false) ⟨⟨_, _, _, _, rfl⟩, rfl, fun i hi => by omega⟩ (fun k ρ μ hk hI => ?_) (fun ρ μ hI => ?_)
  · obtain ⟨⟨a, d, e, f, rfl⟩, rfl, hno⟩ := hI
    refine ⟨_, _, rfl, ?_⟩
    have fin : ∀ t s : Bool, t = isTop r k → s = isDip r k → ((!decide (gN r k = gN h k)) && ((!(t && decide (gN h k < gN r k))) && (!(s && decide (gN r k < gN h k))))) = wcB r h k := by
      intro t s h1 h2
      subst h1
      subst h2
      unfold wcB
      cases decide (gN r k = gN h k) <;> cases isTop r k <;> cases isDip r k <;> cases decide (gN h k < gN r k) <;> cases decide (gN r k < gN h k) <;> rfl
    have done : ∀ (a d e : Option D) (t s : Bool), t = isTop r k → s = isDip r k → Turn (fun ρ μ => (∃ a d e f : Option D, ρ = [some (sq b r), some (sq c h), some (.int (r.length : Int)), a, d, e, f, none, none, none, none]) ∧ μ = [] ∧ ∀ i, i < k + 1 → wcB r h i = false) (fun o => Rt (barD (barL r h)) (seqO o (xSeq (xFor (xRg1 (xCons (xOp fSub (xVar 2) (xC (.int 1))) xNil)) (xgName 3)
  (xSeq (xPar 7 8 (xCons (xOp fSub (xOp fIx (xVar 0) (xOp fAdd (xVar 3) (xC (.int 1)))) (xOp fIx (xVar 0) (xVar 3))) (xCons (xOp fSub (xOp fIx (xVar 1) (xOp fAdd (xVar 3) (xC (.int 1)))) (xOp fIx (xVar 1) (xVar 3))) xNil)))
  (xIfS (xOr (xTest (xOp fLt (xOp fMulI (xVar 7) (xVar 8)) (xC (.int 0)))) (xAnd (xTest (xOp fEq (xVar 7) (xC (.int 0)))) (xTest (xOp fNe (xVar 8) (xC (.int 0)))))) (xRet (xTup (xCons (xC (.str "order")) (xCons (xVar 3) xNil)))) xNext)))
  (xSeq (xAsg (xC (.int 0)) (xgName 9))
  (xSeq (xFor (xRg1 (xCons (xVar 2) xNil)) (xgName 3)
  (xSeq (xIfS (xAnd (xTest (xOp fGt (xVar 3) (xC (.int 0)))) (xTest (xOp fNe (xOp fIx (xVar 1) (xVar 3)) (xOp fIx (xVar 1) (xOp fSub (xVar 3) (xC (.int 1))))))) (xAsg (xVar 3) (xgName 9)) xNext)
  (xIfS (xAnd (xOr (xTest (xOp fEq (xVar 3) (xOp fSub (xVar 2) (xC (.int 1))))) (xTest (xOp fNe (xOp fIx (xVar 1) (xOp fAdd (xVar 3) (xC (.int 1)))) (xOp fIx (xVar 1) (xVar 3))))) (xTest (xOp fEq (xLc (xRg2 (xCons (xVar 9) (xCons (xOp fAdd (xVar 3) (xC (.int 1))) xNil))) (xgName 10) (xTest (xOp fEq (xOp fIx (xVar 0) (xVar 10)) (xOp fIx (xVar 1) (xVar 10)))) (xVar 10) [10]) (xLst xNil)))) (xRet (xTup (xCons (xC (.str "run")) (xCons (xVar 9) xNil)))) xNext)))
  (xRet (xC .non))))))) (ifsO (.ok ((!decide (gN r k = gN h k)) && ((!(t && decide (gN h k < gN r k))) && (!(s && decide (gN r k < gN h k))))) []) (xRet (xTup (xCons (xC (.str "change")) (xCons (xVar 3) xNil)))) xNext [some (sq b r), some (sq c h), some (.int (r.length : Int)), some (.int (k : Int)), some (.bl (decide (0 < (k : Int)) && decide ((k : Int) < (r.length : Int) - 1))), some (.bl t), some (.bl s), none, none, none, none]) := by
      intro a d e t s h1 h2
      rw [fin t s h1 h2]
      cases hw : wcB r h k
      · simp only [EV]
        refine ⟨⟨_, _, _, _, rfl⟩, trivial, fun i hi => ?_⟩
        by_cases q : i = k
        · rw [q]; exact hw
        · exact hno i (by omega)
      · simp only [EV]
        unfold barL
        rw [fst_some hno hw hk]
        rfl
    by_cases hin : 0 < k ∧ k + 1 < r.length
    · have h1 : decide (0 < (k : Int)) = true := decide_eq_true (by omega)
      have h2 : decide ((k : Int) < (r.length : Int) - 1) = true := decide_eq_true (by omega)
      have D1 := done a d e (decide (max (gN r (k - 1)) (gN r (k + 1)) < gN r k)) (decide (gN r k < min (gN r (k - 1)) (gN r (k + 1)))) (by
        unfold isTop
        rw [decide_eq_true hin.1, decide_eq_true hin.2, Bool.true_and, Bool.true_and, ← Bool.decide_and]
        exact decide_eq_decide.mpr (by omega)) (by
        unfold isDip
        rw [decide_eq_true hin.1, decide_eq_true hin.2, Bool.true_and, Bool.true_and, ← Bool.decide_and]
        exact decide_eq_decide.mpr (by omega))
      rw [h1, h2] at D1
      simp (disch := omega) only [EV, EC, h1, h2, gi_nat, gi_pred, gi_succ]
      exact D1
    · have h12 : (decide (0 < (k : Int)) && decide ((k : Int) < (r.length : Int) - 1)) = false := by
        by_cases z : 0 < k
        · rw [decide_eq_false (show ¬ (k : Int) < (r.length : Int) - 1 by omega), Bool.and_false]
        · rw [decide_eq_false (show ¬ 0 < (k : Int) by omega), Bool.false_and]
      have D1 := done a d e false false (by
        unfold isTop
        by_cases z : 0 < k
        · rw [decide_eq_false (show ¬ k + 1 < r.length by omega)]; simp
        · rw [decide_eq_false z]; rfl) (by
        unfold isDip
        by_cases z : 0 < k
        · rw [decide_eq_false (show ¬ k + 1 < r.length by omega)]; simp
        · rw [decide_eq_false z]; rfl)
      rw [h12] at D1
      simp (disch := omega) only [EV, EC, h12, gi_nat] at D1 ⊢
      exact D1
  · obtain ⟨⟨a, d, e, f, rfl⟩, rfl, hno⟩ := hI
    have n1 := fst_none hno
    simp (disch := omega) only [EV, EC, rg_map]
    rw [show ((r.length : Int) - 1).toNat = r.length - 1 by omega]
    -- nobody's order is turned about
    refine for_range (Q := fun o => Rt _ (seqO o _)) (fun k ρ μ => (∃ x3 x7 x8 : Option D, ρ = [some (sq b r), some (sq c h), some (.int (r.length : Int)), x3, d, e, f, x7, x8, none, none]) ∧ μ = [] ∧ ∀ i, i < k → woB r h i = false) ⟨⟨_, _, _, rfl⟩, rfl, fun i hi => by omega⟩ (fun k ρ μ hk hI => ?_) (fun ρ μ hI => ?_)
    · obtain ⟨⟨x3, x7, x8, rfl⟩, rfl, hno⟩ := hI
      refine ⟨_, _, rfl, ?_⟩
      have b1 := hbd.gN (p := k) (by omega)
      have b2 := hbd.gN (p := k + 1) (by omega)
      have hmul : fMulI (.int (gN r (k + 1) - gN r k)) (.int (gN h (k + 1) - gN h k)) [] = .ok (.int ((gN r (k + 1) - gN r k) * (gN h (k + 1) - gN h k))) [] := c_mulL (by omega) (by omega)
      have hw : (decide ((gN r (k + 1) - gN r k) * (gN h (k + 1) - gN h k) < 0) || (decide (gN r (k + 1) - gN r k = 0) && !decide (gN h (k + 1) - gN h k = 0))) = woB r h k := by
        unfold woB
        rw [← Bool.or_assoc]
        congr 1
        · rw [← Bool.decide_and, ← Bool.decide_and, ← Bool.decide_or]
          refine decide_eq_decide.mpr ?_
          rw [mul_neg_iff']
          omega
        · congr 1
          · exact decide_eq_decide.mpr (by omega)
          · congr 1
            exact decide_eq_decide.mpr (by omega)
      simp (disch := omega) only [EV, ix_sq, gi_nat, gi_succ, hmul, hw]
      cases hw' : woB r h k
      · simp only [EV]
        refine ⟨⟨_, _, _, rfl⟩, trivial, fun i hi => ?_⟩
        by_cases q : i = k
        · rw [q]; exact hw'
        · exact hno i (by omega)
      · simp only [EV]
        unfold barL
        rw [n1]
        dsimp only
        rw [fst_some hno hw' hk]
        rfl
    · obtain ⟨⟨x3, x7, x8, rfl⟩, rfl, hno⟩ := hI
      have n2 := fst_none hno
      simp (disch := omega) only [EV, EC, rg_map, Int.toNat_natCast]
      -- in each run somebody stayed
      refine for_range (Q := fun o => Rt _ (seqO o _)) (fun k ρ μ => (∃ (y3 : Option D) (fi : Nat), ρ = [some (sq b r), some (sq c h), some (.int (r.length : Int)), y3, d, e, f, x7, x8, some (.int (fi : Int)), none] ∧ (k = 0 → fi = 0) ∧ (0 < k → begB h fi = true ∧ fi + 1 ≤ k ∧ ∀ x, fi ≤ x → x + 1 ≤ k → gN h x = gN h fi)) ∧ μ = [] ∧ ∀ a, a < h.length → begB h a = true → rend h a < k → wrB r h a = false) ⟨⟨_, 0, rfl, fun _ => rfl, fun q => by omega⟩, rfl, fun a _ _ q => by omega⟩ (fun k ρ μ hk hI => ?_) (fun ρ μ hI => ?_)
      · obtain ⟨⟨y3, fi, rfl, hf0, hf1⟩, rfl, hno⟩ := hI
        refine ⟨_, _, rfl, ?_⟩
        -- the run's begin
        have hfi : ∃ f' : Nat, (if (decide (0 < (k : Int)) && !decide (gN h k = gN h (k - 1))) = true then k else fi) = f' ∧ begB h f' = true ∧ f' ≤ k ∧ ∀ x, f' ≤ x → x ≤ k → gN h x = gN h f' := by
          refine ⟨_, rfl, ?_⟩
          by_cases z : (decide (0 < (k : Int)) && !decide (gN h k = gN h (k - 1))) = true
          · rw [if_pos z]
            rw [Bool.and_eq_true, decide_eq_true_iff, Bool.not_eq_true', decide_eq_false_iff_not] at z
            exact ⟨begB_iff.mpr (.inr z.2), Nat.le_refl _, fun x h1 h2 => by rw [show x = k by omega]⟩
          · rw [if_neg z]
            by_cases k0 : k = 0
            · rw [hf0 k0]
              exact ⟨begB_iff.mpr (.inl rfl), by omega, fun x h1 h2 => by rw [show x = 0 by omega]⟩
            · rw [decide_eq_true (show 0 < (k : Int) by omega), Bool.true_and, Bool.not_eq_true', Bool.not_eq_false, decide_eq_true_iff] at z
              obtain ⟨g1, g2, g3⟩ := hf1 (by omega)
              refine ⟨g1, by omega, fun x h1 h2 => ?_⟩
              by_cases q : x = k
              · rw [q, z]
                exact g3 (k - 1) (by omega) (by omega)
              · exact g3 x h1 (by omega)
        obtain ⟨f', ef, g1, g2, g3⟩ := hfi
        have step1 : ∀ y : Option D, seqO (ifsO (.ok (decide (0 < (k : Int)) && !decide (gN h k = gN h (k - 1))) []) (xAsg (xVar 3) (xgName 9)) xNext [some (sq b r), some (sq c h), some (.int (r.length : Int)), some (.int (k : Int)), d, e, f, x7, x8, some (.int (fi : Int)), none]) = seqO (.nx [some (sq b r), some (sq c h), some (.int (r.length : Int)), some (.int (k : Int)), d, e, f, x7, x8, some (.int (f' : Int)), none] []) := by
          intro y
          cases z : (decide (0 < (k : Int)) && !decide (gN h k = gN h (k - 1))) with
          | true =>
            rw [z, if_pos rfl] at ef
            subst ef
            simp only [EV]
          | false =>
            rw [z, if_neg (by decide)] at ef
            subst ef
            simp only [EV]
        have hcond : andP (decide (0 < (k : Int))) (tstO (opB fNe (.int (gN h k)) (.ok (.int (gN h (k - 1))) []))) [] = .ok (decide (0 < (k : Int)) && !decide (gN h k = gN h (k - 1))) [] := by
          simp only [EV]
        have stl : ∀ ρ : En, compD (xgName 10) (xTest (xOp fEq (xOp fIx (xVar 0) (xVar 10)) (xOp fIx (xVar 1) (xVar 10)))) (xVar 10) [10] [some (sq b r), some (sq c h), some (.int (r.length : Int)), some (.int (k : Int)), d, e, f, x7, x8, some (.int (f' : Int)), none] ((List.range (k + 1 - f')).map fun (i : Nat) => D.int ((f' : Int) + (i : Int))) [] [] = .ok (nums (natsD (stayL r h f' k))) [] := by
          intro ρ
          rw [lc_map (fun i => stayB r h (f' + i)) (fun (i : Nat) => (f' : Int) + (i : Int)) D.int (fun i hi => ?_) (by rw [List.length_range, lim_eq]; omega), stay_int]
          rw [List.mem_range] at hi
          refine ⟨_, rfl, ?_, fun _ => rfl⟩
          simp (disch := omega) only [EV, EC, gi_add]
          rfl
        have isnil : decide (natsD (stayL r h f' k) = []) = (stayL r h f' k).isEmpty := by
          cases stayL r h f' k <;> simp [natsD]
        have fold1 : D.lst (nums (natsD (stayL r h f' k))) = sq false (natsD (stayL r h f' k)) := rfl
        have hrow : ∀ E : Bool, E = decide (k + 1 = h.length ∨ gN h (k + 1) ≠ gN h k) → Turn (fun ρ μ => (∃ (y3 : Option D) (fi : Nat), ρ = [some (sq b r), some (sq c h), some (.int (r.length : Int)), y3, d, e, f, x7, x8, some (.int (fi : Int)), none] ∧ (k + 1 = 0 → fi = 0) ∧ (0 < k + 1 → begB h fi = true ∧ fi + 1 ≤ k + 1 ∧ ∀ x, fi ≤ x → x + 1 ≤ k + 1 → gN h x = gN h fi)) ∧ μ = [] ∧ ∀ a, a < h.length → begB h a = true → rend h a < k + 1 → wrB r h a = false) (fun o => Rt (barD (barL r h)) (seqO o (xRet (xC .non)))) (ifsO (.ok (E && (stayL r h f' k).isEmpty) []) (xRet (xTup (xCons (xC (.str "run")) (xCons (xVar 9) xNil)))) xNext [some (sq b r), some (sq c h), some (.int (r.length : Int)), some (.int (k : Int)), d, e, f, x7, x8, some (.int (f' : Int)), none]) := by
          intro E hE
          have keep : (E && (stayL r h f' k).isEmpty) = false → ∀ a, a < h.length → begB h a = true → rend h a < k + 1 → wrB r h a = false := by
            intro hF a ha hb hr
            by_cases q : rend h a = k
            · have hgea := rend_ge h a
              have hs := rend_same h a
              have hEt : E = true := by
                rw [hE]
                refine decide_eq_true ?_
                have := rend_stop h a
                rw [q] at this
                by_cases w : k + 1 = h.length
                · exact .inl w
                · exact .inr fun y => this ⟨by omega, y⟩
              have haf : a = f' := by
                rcases Nat.lt_trichotomy a f' with w | w | w
                · have := rend_beg w (by omega) g1
                  omega
                · exact w
                · rcases begB_iff.mp hb with y | y
                  · omega
                  · exact absurd (by rw [g3 a (by omega) (by omega), g3 (a - 1) (by omega) (by omega)]) y
              rw [hEt, Bool.true_and] at hF
              unfold wrB
              rw [q, haf, hF, Bool.and_false]
            · exact hno a ha hb (by omega)
          cases hF : (E && (stayL r h f' k).isEmpty) with
          | false =>
            simp only [EV]
            exact ⟨⟨_, f', rfl, fun q => by omega, fun _ => ⟨g1, by omega, fun x h1 h2 => g3 x h1 (by omega)⟩⟩, trivial, keep hF⟩
          | true =>
            simp only [EV]
            rw [Bool.and_eq_true] at hF
            rw [hE] at hF
            have hend := of_decide_eq_true hF.1
            have hre : rend h f' = k := rend_run h f' k g2 (by omega) g3 (fun y => by
              rcases hend with w | w
              · omega
              · exact w y.2)
            unfold barL
            rw [n1]
            dsimp only
            rw [n2]
            dsimp only
            rw [fst_some (k := f') (fun i hi => by
              cases hbi : begB h i with
              | false =>
                unfold wrB
                rw [hbi]
                rfl
              | true =>
                have := rend_beg hi (by omega) g1
                exact hno i (by omega) hbi (by omega)) (by
              unfold wrB
              rw [g1, hre, hF.2]
              rfl) (by omega)]
            rfl
        by_cases kl : k + 1 = r.length
        · have H := hrow true (by rw [decide_eq_true (.inl (by omega))])
          rw [Bool.true_and] at H
          by_cases k0 : k = 0
          · subst k0
            have c1 : (decide (0 < ((0 : Nat) : Int)) && !decide (gN h 0 = gN h (0 - 1))) = false := rfl
            have s1 := step1 none
            rw [c1] at s1
            simp (disch := omega) only [EV, ix_sq, b_rg2, rg_map, gi_nat, show decide (0 < ((0 : Nat) : Int)) = false from rfl, decide_eq_true (show ((0 : Nat) : Int) = (r.length : Int) - 1 by omega)] at s1 ⊢
            have ef0 : fi = f' := by
              rw [c1, if_neg (by decide)] at ef
              exact ef
            subst ef0
            rw [show (((0 : Nat) : Int) + 1 - (fi : Int)).toNat = 0 + 1 - fi by omega, stl []]
            simp only [EV, fold1, eq_nilL, isnil]
            exact H
          · simp (disch := omega) only [EV, ix_sq, b_rg2, rg_map, gi_nat, gi_pred, step1 none, decide_eq_true (show (k : Int) = (r.length : Int) - 1 by omega)]
            rw [show ((k : Int) + 1 - (f' : Int)).toNat = k + 1 - f' by omega, stl []]
            simp only [EV, fold1, eq_nilL, isnil]
            exact H
        · have H := hrow (!decide (gN h (k + 1) = gN h k)) (by
            rw [← decide_not]
            refine decide_eq_decide.mpr ?_
            constructor
            · exact .inr
            · rintro (w | w)
              · omega
              · exact w)
          by_cases k0 : k = 0
          · subst k0
            have c1 : (decide (0 < ((0 : Nat) : Int)) && !decide (gN h 0 = gN h (0 - 1))) = false := rfl
            have ef0 : fi = f' := by
              rw [c1, if_neg (by decide)] at ef
              exact ef
            subst ef0
            simp (disch := omega) only [EV, ix_sq, b_rg2, rg_map, gi_nat, gi_succ, show decide (0 < ((0 : Nat) : Int)) = false from rfl, decide_eq_false (show ¬ ((0 : Nat) : Int) = (r.length : Int) - 1 by omega)]
            rw [show (((0 : Nat) : Int) + 1 - (fi : Int)).toNat = 0 + 1 - fi by omega, stl []]
            simp only [EV, fold1, eq_nilL, isnil]
            exact H
          · simp (disch := omega) only [EV, ix_sq, b_rg2, rg_map, gi_nat, gi_pred, gi_succ, step1 none, decide_eq_false (show ¬ (k : Int) = (r.length : Int) - 1 by omega)]
            rw [show ((k : Int) + 1 - (f' : Int)).toNat = k + 1 - f' by omega, stl []]
            simp only [EV, fold1, eq_nilL, isnil]
            exact H
      · obtain ⟨⟨y3, fi, rfl, hf0, hf1⟩, rfl, hno⟩ := hI
        have n3 : fstB h.length (wrB r h) = none := fst_none fun i hi => by
          cases hbi : begB h i with
          | false =>
            unfold wrB
            rw [hbi]
            rfl
          | true => exact hno i hi hbi (by have := rend_lt h i hi; omega)
        simp only [EV]
        unfold barL
        rw [n1]
        dsimp only
        rw [n2]
        dsimp only
        rw [n3]
        rfl
end DL
end
section
set_option maxRecDepth 100000
set_option maxHeartbeats 4000000
/-! P87a: the law of calls, bars and a Hall: the begin. -/
namespace DL
open PySem PySem.Spec PyProof.Rows L2
theorem sorted_cel {k : Nat} {ns : List Int} {μ : Mu} (h : μ[k]? = some (.lst (nums ns))) : fSortedA [.cel k] μ = .ok (sq false (isort ns)) μ := by
  unfold fSortedA
  dsimp only
  unfold numsM seqM
  dsimp only
  rw [h]
  dsimp only
  rw [intsD_nums]
  rfl
theorem in_cel {k : Nat} {ns : List Int} {i : Int} {μ : Mu} (h : μ[k]? = some (.lst (nums ns))) : fIn false (.int i) (.cel k) μ = .ok (.bl (decide (i ∈ ns))) μ := by
  unfold fIn seqM
  dsimp only
  rw [h]
  dsimp only
  rw [flat_nums, inF_nums, if_pos (show (flatD (D.int i) && true) = true from rfl), if_neg (by decide)]
/-- given as it is or as a list -/
theorem given_soft {v : Nat} {r : List Int} {μ : Mu} {a b : Option D} {ρ : En} (hl : r.length ≤ 100000) : ∃ g : Bool, ifeO (.ok (decide ((v : Int) = 0)) μ) (xCall 1 (liftP (F__law_soft 5)) (xCons (xVar 2) xNil)) (xVar 2) (a :: b :: some (sq true r) :: ρ) = .ok (sq g r) μ := by
  by_cases h : (v : Int) = 0
  · refine ⟨false, ?_⟩
    simp only [EV, decide_eq_true h, m_soft (b := true) (k := 3) hl]
  · refine ⟨true, ?_⟩
    simp only [EV, decide_eq_false h]
/-- many draws below m -/
theorem draws {n m c : Nat} {u : List Int} {rest : Mu} {G : D → En → Mu → Res En} {B : TEd} {vs : List Nat} {ρ : En} {e : Nat → D} (hu : UrnOk n u) (hn : n + c ≤ 2 ^ 40) (h0 : 0 < m) (hm : m ≤ 100000) (hc : c ≤ 100000)
    (hB : ∀ (i : Nat) (μ : Mu), ∃ ρ1, G (e i) (wipeD ρ vs) μ = .ok ρ1 μ ∧ B ρ1 μ = F__law_take [.cel 0, .int (m : Int)] μ) :
    ∃ (ps : List Nat) (u' : List Int), compD G xYes B vs ρ ((List.range c).map e) [] (.lst (nums u) :: rest) = .ok (nums (natsD ps)) (.lst (nums u') :: rest) ∧ ps.length = c ∧ (∀ p ∈ ps, p < m) ∧ UrnOk (n + c) u' := by
  obtain ⟨acc, μ, e1, ps, u', h1, h2, h3, h4, h5⟩ := compD_run (G := G) (B := B) (vs := vs) (ρ := ρ) e (fun k acc μ => ∃ (ps : List Nat) (u' : List Int), acc = nums (natsD ps) ∧ μ = .lst (nums u') :: rest ∧ ps.length = k ∧ (∀ p ∈ ps, p < m) ∧ UrnOk (n + k) u') (List.range c) 0 [] (.lst (nums u) :: rest) ⟨[], u, rfl, rfl, rfl, by simp, hu⟩ (fun i acc μ hi hs => by
    obtain ⟨ps, u', rfl, rfl, h3, h4, h5⟩ := hs
    rw [List.length_range] at hi
    obtain ⟨v, u2, e2, hv, hu2⟩ := m_take (m := (m : Int)) h5 (by omega) (by omega) (by omega)
    obtain ⟨ρ1, g1, g2⟩ := hB (List.range c)[i] (.lst (nums u') :: rest)
    refine ⟨ρ1, _, _, g1, by rw [g2, e2], ?_, ps ++ [v], u2, ?_, rfl, ?_, ?_, hu2⟩
    · rw [List.length_map, List.length_map, lim_eq]
      omega
    · simp [nums, natsD]
    · rw [List.length_append, List.length_singleton, h3]
    · intro p hp
      rw [List.mem_append, List.mem_singleton] at hp
      rcases hp with hp | hp
      · exact h4 p hp
      · omega)
  rw [List.length_range, Nat.zero_add] at h3 h5
  subst h1
  subst h2
  exact ⟨ps, u', e1, h3, h4, h5⟩
theorem pers_filter (n : Nat) (P Q : Nat → Bool) : (pers n P).filter (fun x => Q x.toNat) = pers n fun p => P p && Q p := by
  unfold pers
  rw [List.filter_map, List.filter_filter]
  congr 1
  refine List.filter_congr fun x _ => ?_
  show (Q ((x : Int).toNat) && P x) = _
  rw [Int.toNat_natCast, Bool.and_comm]
theorem pers_toNat {n : Nat} {P : Nat → Bool} {x : Int} (hx : x ∈ pers n P) : ((x.toNat : Nat) : Int) = x ∧ x.toNat < n ∧ P x.toNat = true := by
  rw [mem_pers] at hx
  obtain ⟨p, h1, h2, rfl⟩ := hx
  rw [Int.toNat_natCast]
  exact ⟨rfl, h1, h2⟩
/-- who does not stand at an end -/
def innB (n p : Nat) : Bool := decide (0 < p) && decide (p + 1 < n)
theorem inner_pers (n : Nat) : ((List.range (n - 2)).map fun (i : Nat) => (1 : Int) + (i : Int)) = pers n (innB n) := by
  have h := pers_inner n (innB n) rfl (fun p hp => by unfold innB; rw [decide_eq_false (show ¬ p + 1 < n by omega), Bool.and_false])
  rw [← h, List.filter_eq_self.mpr]
  intro i hi
  rw [List.mem_range] at hi
  unfold innB
  rw [decide_eq_true (show 0 < i + 1 by omega), decide_eq_true (show i + 1 + 1 < n by omega)]
  rfl
theorem sset_const {l : List Int} {v : Int} (h : ∀ x ∈ l, x = v) (h0 : 0 < l.length) : (sset l).length = 1 := by
  have hm : ∀ x, x ∈ sset l ↔ x = v := fun x => by
    rw [sset_mem]
    constructor
    · exact h x
    · intro e
      subst e
      cases l with
      | nil => cases h0
      | cons y l =>
        rw [← h y (by simp)]
        simp
  have e : sset l = [v] := lt_one (sset_sorted l) (by simp) fun x => by rw [hm]; simp
  rw [e]
  rfl
theorem slice_const {h : List Int} {a b : Nat} (hb : b < h.length) (hs : ∀ x, a ≤ x → x ≤ b → gN h x = gN h a) : ∀ x ∈ (h.drop a).take (b + 1 - a), x = gN h a := by
  intro x hx
  obtain ⟨i, hi, e⟩ := List.getElem_of_mem hx
  rw [List.length_take, List.length_drop] at hi
  have : gN h (a + i) = x := by
    have h1 := List.getElem?_eq_getElem (l := (h.drop a).take (b + 1 - a)) (i := i) (by rw [List.length_take, List.length_drop]; omega)
    rw [List.getElem?_take, if_pos (by omega), List.getElem?_drop, gN_lt (by omega)] at h1
    exact (Option.some.inj h1).trans e
  rw [← this]
  exact hs (a + i) (by omega) (by omega)
theorem runs_next {h : List Int} {x y : Nat × Nat} (hx : (x, y) ∈ (runsL h).zip ((runsL h).drop 1)) : y.1 = x.2 + 1 ∧ gN h y.1 ≠ gN h x.2 := by
  obtain ⟨i, hi, e⟩ := List.getElem_of_mem hx
  rw [List.length_zip, List.length_drop] at hi
  rw [List.getElem_zip, List.getElem_drop] at e
  have e1 : (runsL h)[i] = x := congrArg Prod.fst e
  have e2 : (runsL h)[1 + i] = y := congrArg Prod.snd e
  have hl : (runsL h).length = (begs h).length := by unfold runsL; rw [List.length_map]
  have y1 : y = ((begs h)[1 + i], rend h (begs h)[1 + i]) := by
    rw [← e2]
    simp only [runsL, List.getElem_map]
  have x1 : x = ((begs h)[i], rend h (begs h)[i]) := by
    rw [← e1]
    simp only [runsL, List.getElem_map]
  have hz := runs_zip h
  have hzi : (((begs h).zip ((begs h).drop 1 ++ [h.length])).map (fun p => (p.1, p.2 - 1)))[i]? = some x := by
    rw [hz, List.getElem?_eq_getElem (by omega), e1]
  rw [List.getElem?_map, List.getElem?_eq_getElem (by rw [List.length_zip, List.length_append, List.length_drop, List.length_singleton]; omega), List.getElem_zip, List.getElem_append_left (by rw [List.length_drop]; omega), List.getElem_drop] at hzi
  have hx2 : (begs h)[1 + i] - 1 = x.2 := congrArg Prod.snd (Option.some.inj hzi)
  have hb := run_facts (List.getElem_mem (l := begs h) (n := 1 + i) (by omega))
  have hpos : 0 < (begs h)[1 + i] := by
    have hs : (begs h).Pairwise (· < ·) := (List.pairwise_lt_range (n := h.length)).filter _
    have := List.pairwise_iff_getElem.mp hs i (1 + i) (by omega) (by omega) (by omega)
    omega
  rw [y1]
  dsimp only
  refine ⟨by omega, ?_⟩
  rcases begB_iff.mp hb.2 with z | z
  · omega
  · rw [← hx2]
    exact z
theorem sl_lst1 {ds : List D} {μ : Mu} : fSl (.lst ds) (some 1) none μ = .ok (.lst (ds.drop 1)) μ := by
  show Res.ok (if isTup (.lst ds) = true then D.tup (cutD ds (some 1) none) else .lst (cutD ds (some 1) none)) μ = _
  rw [if_neg (fun z => Bool.noConfusion z)]
  congr 2
  unfold cutD HT.sIx
  dsimp only
  rw [if_neg (by decide), show (1 : Int).toNat = 1 from rfl]
  by_cases z : 1 ≤ ds.length
  · rw [Nat.min_eq_left z]
    exact List.take_of_length_le (by rw [List.length_drop]; exact Nat.le_refl _)
  · have : ds = [] := List.length_eq_zero_iff.mp (by omega)
    subst this
    rfl
theorem prD_0 (p : Nat × Nat) {μ : Mu} : fIx (prD p) (.int 0) μ = .ok (.int (p.1 : Int)) μ := rfl
theorem prD_1 (p : Nat × Nat) {μ : Mu} : fIx (prD p) (.int 1) μ = .ok (.int (p.2 : Int)) μ := rfl
theorem zp_prD (l m : List (Nat × Nat)) : zpD (l.map prD) (m.map prD) = (l.zip m).map fun p => D.tup [prD p.1, prD p.2] := by
  unfold zpD
  rw [List.zipWith_map, List.zip, List.map_zipWith]
theorem zp2_lst {xs ys : List D} {μ : Mu} : zp2 [.lst xs, .lst ys] μ = .ok (zpD xs ys) μ := rfl
/-- the people of all parts, sorted -/
theorem m_law_flat (ps : List P4) (hl : (ps.flatMap rngP).length ≤ 90000) : F__law_flat [partsD ps] = .ok (sq false (isort (natsD (ps.flatMap rngP)))) := by
  refine fp_rt (by unfold partsD; rw [noCels_cons, noCel_lst, noCels_map fun _ => noCel_sq]; rfl) (by simp only [NC]) ?_
  simp only [EV, T__law_flat, partsD]
  refine for_list (Q := fun o => Rt _ (seqO o _)) (fun k ρ μ => ∃ x, ρ = [some (.lst (ps.map fun p => sq true (natsD (rngP p)))), some (sq false (natsD ((ps.take k).flatMap rngP))), x]) ⟨_, rfl⟩ (fun k ρ μ hk hI => ?_) (fun ρ μ hI => ?_)
  · obtain ⟨x, rfl⟩ := hI
    refine ⟨_, _, rfl, ?_⟩
    have e := take_flat_succ rngP ps k hk
    have hle := take_flat_le rngP ps (k + 1)
    rw [e, List.length_append] at hle
    simp (disch := (simp only [List.length_map]; omega)) only [EV, b_addL]
    rw [e, show natsD ((ps.take k).flatMap rngP ++ rngP ps[k]) = natsD ((ps.take k).flatMap rngP) ++ natsD (rngP ps[k]) from List.map_append]
    exact ⟨_, rfl⟩
  · obtain ⟨x, rfl⟩ := hI
    simp only [EV, List.take_length]
theorem isort_of_sorted {l : List Int} (h : l.Pairwise (· ≤ ·)) : isort l = l := sorted_one (isort_perm l) (isort_sorted l) h
theorem flat_chg {r h : List Int} (he : r.length = h.length) : isort (natsD ((partsL r h).flatMap rngP)) = chgL r h := by
  rw [parts_chg]
  have : natsD ((List.range h.length).filter fun p => !stayB r h p) = chgL r h := by
    unfold chgL pers
    rw [he]
  rw [this]
  exact isort_of_sorted ((pers_sorted _ _).imp fun {a b} z => by omega)
/-- a goal bent once more, or not -/
theorem bent {n v o : Nat} {u now goal : List Int} {ρ : En} {rest : Mu} (hu : UrnOk n u) (hn : n ≤ 2 ^ 40) (h1 : ∀ μ, xVar 1 ρ μ = .ok (.cel 0) μ) (h8 : ∀ μ, xVar 8 ρ μ = .ok (sq true now) μ) (h23 : ∀ μ, xVar 23 ρ μ = .ok (sq true goal) μ) (h21 : ∀ μ, xVar 21 ρ μ = .ok (.int (o : Int)) μ) (ho : o < goal.length) (hl : goal.length ≤ 90000) (h0 : 0 < now.length) (hl2 : now.length ≤ 90000) :
    ∃ goal' u', ifeO (.ok (decide ((v : Int) = 0)) (.lst (nums u) :: rest)) (xOp fAdd (xOp fAdd (xSl (xVar 23) xNoPart (xPart (xVar 21))) (xTup (xCons (xCall 2 F__law_of (xCons (xVar 1) (xCons (xVar 8) xNil))) xNil))) (xSl (xVar 23) (xPart (xOp fAdd (xVar 21) (xC (.int 1)))) xNoPart)) (xVar 23) ρ = .ok (sq true goal') (.lst (nums u') :: rest) ∧ goal'.length = goal.length ∧ UrnOk (n + 1) u' := by
  by_cases h : (v : Int) = 0
  · obtain ⟨q, u', e, hq, hu'⟩ := m_law_of (b := true) (r := now) hu hn h0 (by omega)
    refine ⟨goal.set o (gN now q), u', ?_, List.length_set, hu'⟩
    have a1 : ∀ μ : Mu, fAdd (sq true (goal.take o)) (D.tup [.int (gN now q)]) μ = .ok (sq true (goal.take o ++ [gN now q])) μ := fun μ => b_addT (s := [gN now q]) (by rw [List.length_take, List.length_singleton]; omega)
    have a2 : ∀ μ : Mu, fAdd (sq true (goal.take o ++ [gN now q])) (sq true (goal.drop (o + 1))) μ = .ok (sq true (goal.set o (gN now q))) μ := fun μ => by
      rw [b_addT (by rw [List.length_append, List.length_take, List.length_singleton, List.length_drop]; omega), List.append_assoc, set_parts ho]
    simp (disch := omega) only [EV, EC, decide_eq_true h, h1, h8, h23, h21, e, Int.toNat_natCast, show ((o : Int) + 1).toNat = o + 1 by omega, a1, a2]
  · refine ⟨goal, u, ?_, rfl, hu.mono (by omega)⟩
    simp only [EV, decide_eq_false h, h23]
theorem cat_set {now : List Int} {p : Nat} {x : Int} (hp : p < now.length) (hl : now.length ≤ 90000) : (∀ μ : Mu, fAdd (sq true (now.take p)) (D.tup [.int x]) μ = .ok (sq true (now.take p ++ [x])) μ) ∧ ∀ μ : Mu, fAdd (sq true (now.take p ++ [x])) (sq true (now.drop (p + 1))) μ = .ok (sq true (now.set p x)) μ :=
  ⟨fun μ => b_addT (s := [x]) (by rw [List.length_take, List.length_singleton]; omega), fun μ => by
    rw [b_addT (by rw [List.length_append, List.length_take, List.length_singleton, List.length_drop]; omega), List.append_assoc, set_parts hp]⟩
theorem new_hall {HC : Addr} {μ : Mu} {r : List Int} : HallAt HC (μ ++ [.ins HC NS [.cel (μ.length + 1), .cel (μ.length + 2)], .lst [sq true r], .lst []]) μ.length (μ.length + 1) (μ.length + 2) [] r [] := by
  refine ⟨?_, ?_, ?_, by omega⟩
  · rw [List.getElem?_append_right (Nat.le_refl _), Nat.sub_self]
    rfl
  · rw [List.getElem?_append_right (by omega), show μ.length + 1 - μ.length = 1 by omega]
    rfl
  · rw [List.getElem?_append_right (by omega), show μ.length + 2 - μ.length = 2 by omega]
    rfl
theorem new_set {μ : Mu} {a b c d : Cell} : (μ ++ [a, b, c]).set (μ.length + 1) d = μ ++ [a, d, c] := by
  rw [List.set_append_right _ _ (by omega), show μ.length + 1 - μ.length = 1 by omega]
  rfl
theorem noc_len {r h : List Int} : (((List.range r.length).filter fun i => !stayB r h i).map fun _ => (1 : Int)).length = (chgL r h).length := by
  unfold chgL pers
  rw [List.length_map, List.length_map]
theorem take_two {α : Type} (l : List α) (j : Nat) (h : j + 1 < l.length) : l.take (j + 2) = (l.take j ++ [l[j]]) ++ [l[j + 1]] := by
  rw [List.take_add_one, List.take_add_one, List.getElem?_eq_getElem h, List.getElem?_eq_getElem (by omega)]
  rfl
theorem take_one {α : Type} (l : List α) (j : Nat) (h : j < l.length) : l.take (j + 1) = l.take j ++ [l[j]] := by
  rw [List.take_add_one, List.getElem?_eq_getElem h]
  rfl
end DL
end
section
set_option maxRecDepth 100000
set_option maxHeartbeats 4000000
/-! P87: the law of calls, bars and a Hall. -/
namespace DL
open PySem PySem.Spec PyProof.Rows L2
/-- the frame of the law -/
abbrev E87 (ns r : List Int) (g : Bool) (ps : List Nat) (now : List Int) (x6 x11 x12 x13 : Option D) : En := [some (.frz (nums ns)), some (.cel 0), some (sq true r), some (.int (r.length : Int)), some (sq g r), some (sq false (natsD ps)), x6, some (.cel 2), some (sq true now), some (.cel 5), some (.cel 6), x11, x12, x13, none, none, none, none, none, none, none, none, none, none, none, none, none, none]
theorem the_law (HC : Addr) (ns : List Int) (hns : ns.length ≤ 63) : ∃ μ, F_law HC [.frz (nums ns)] [] = .ok (.bl true) μ := by
  suffices h : OkM (fun d _ => d = .bl true) (F_law HC [.frz (nums ns)] []) by
    obtain ⟨d, μ, e, rfl⟩ := h
    exact ⟨μ, e⟩
  refine fc_rt (T := T_law HC) ?_
  obtain ⟨cells, u0, hu0, e0, e0'⟩ := law_begin ns
  obtain ⟨r, u1, e1, hg, hu1⟩ := m_great hu0 (by omega) (by omega : 1 ≤ 16) (by omega)
  have e1' : F__law_great [.cel 0, .int 16] [.lst (nums u0)] = .ok (sq true r) [.lst (nums u1), .dead] := e1
  obtain ⟨rpos, rlen, rbd⟩ := hg
  obtain ⟨v2, u2, e2, hv2, hu2⟩ := m_take (m := 2) hu1 (by omega) (by decide) (by decide)
  obtain ⟨v3, u3, e3, hv3, hu3⟩ := m_take (m := 41) hu2 (by omega) (by decide) (by decide)
  obtain ⟨g, eg⟩ := given_soft (v := v2) (r := r) (μ := [.lst (nums u2), .dead]) (a := some (.frz (nums ns))) (b := some (.cel 0)) (ρ := [none, none, none, none, none, none, none, none, none, none, none, none, none, none, none, none, none, none, none, none, none, none, none, none, none]) (by omega)
  simp (disch := omega) only [EV, e0, e0', T_law, e1', e2, eg, e3, b_rg1, rg_map, Int.toNat_natCast]
  obtain ⟨ps, u4, e4, hps, hpm, hu4⟩ := draws (n := 0 + 300 + 1 + 1) (m := r.length) (c := v3) (u := u3) (rest := [.dead]) (G := xgName 6) (B := xCall 2 F__law_take (xCons (xVar 1) (xCons (xVar 3) xNil))) (vs := [6]) (ρ := [some (.frz (nums ns)), some (.cel 0), some (sq true r), some (.int (r.length : Int)), some (sq g r), none, none, none, none, none, none, none, none, none, none, none, none, none, none, none, none, none, none, none, none, none, none, none]) (e := fun (i : Nat) => D.int (i : Int)) hu3 (by omega) (by omega) (by omega) (by omega) (fun i μ => ⟨_, rfl, by simp only [EV]⟩)
  have hi : F_Hall_init HC [.cel 2, sq g r] [.lst (nums u4), .dead, .ins HC [] []] = .ok .non [.lst (nums u4), .dead, .ins HC NS [.cel 3, .cel 4], .lst [sq true r], .lst []] := m_h_init (μ := [.lst (nums u4), .dead])
  simp only [EV, e4, EO, EM, hi, Nat.reduceAdd, en_nums, List.length_map, hps]
  refine for_range (Q := fun o => RtM _ (seqO o _)) (fun k ρ μ => ∃ (x11 x12 x13 : Option D) (mv : List Nat), ρ = E87 ns r g ps (runL r (ps.take k)) none x11 x12 x13 ∧ μ = [.lst (nums u4), .dead, .ins HC NS [.cel 3, .cel 4], .lst ((((List.range k).map fun i => runL r (ps.take i)) ++ [runL r (ps.take k)]).map (sq true)), .lst [], .lst (nums (pers k (idleB r ps))), .lst (nums (natsD mv))] ∧ Moved r (runL r (ps.take k)) mv) ⟨_, _, _, [], rfl, rfl, Moved.nil r⟩ (fun k ρ μ hk hI => ?_) (fun ρ μ hI => ?_)
  · obtain ⟨x11, x12, x13, mv, rfl, rfl, hM⟩ := hI
    refine ⟨_, _, rfl, ?_⟩
    have hkp : k < ps.length := by omega
    have hn := hpm _ (List.getElem_mem hkp)
    have gk : gN (natsD ps) k = (ps[k] : Int) := by
      unfold gN natsD
      rw [List.getD_eq_getElem?_getD, List.getElem?_map, List.getElem?_eq_getElem hkp]
      rfl
    have hnext := runL_take_succ r ps k hkp
    have lnow : (runL r (ps.take k)).length = r.length := runL_length _ _
    have hb : barL r (runL r (ps.take k)) = none := bar_run _
    generalize hnw : runL r (ps.take k) = now at *
    generalize hp : ps[k] = p at *
    have llat : (callL now p).length = r.length := by rw [callL_length, lnow]
    have hb2 : barL r (callL now p) = none := bar_call (by omega) hb p
    have ec := m_h_call (HC := HC) (μ := [.lst (nums u4), .dead, .ins HC NS [.cel 3, .cel 4], .lst ((((List.range k).map fun i => runL r (ps.take i)) ++ [now]).map (sq true)), .lst [], .lst (nums (pers k (idleB r ps))), .lst (nums (natsD mv))]) (k := 2) (i := 3) (j := 4) (p := p) ⟨rfl, rfl, rfl, by decide⟩ (by omega) (by omega) (by rw [List.length_map, List.length_range]; omega)
    simp only [EV] at ec
    have er := m_h_row (HC := HC) (μ := [.lst (nums u4), .dead, .ins HC NS [.cel 3, .cel 4], .lst (((((List.range k).map fun i => runL r (ps.take i)) ++ [now]) ++ [callL now p]).map (sq true)), .lst [], .lst (nums (pers k (idleB r ps))), .lst (nums (natsD mv))]) (k := 2) (i := 3) (j := 4) ⟨rfl, rfl, rfl, by decide⟩
    have hsame := law_same_refl 5 (.lst [.int (gN (callL now p) p), sq true (callL now p), .int (gN (callL now p) p), sq true (callL now p)]) (plain_lst (by simp (disch := omega) only [PL]))
    have hrows : ((List.range (k + 1)).map fun i => runL r (ps.take i)) = ((List.range k).map fun i => runL r (ps.take i)) ++ [now] := by
      rw [List.range_succ, List.map_append, List.map_singleton, hnw]
    have hpl : (nums (pers k (idleB r ps))).length < 100000 := by
      rw [List.length_map]
      have := pers_length_le (n := k) (P := idleB r ps)
      omega
    have hps1 := pers_succ k (idleB r ps)
    have hid : idleB r ps k = decide (callL now p = now) := by
      unfold idleB
      rw [hnext, hnw]
    have l6 : ∀ (a b c d e f : Cell) (mv' : List Nat), fLen [.cel 6] [a, b, c, d, e, f, .lst (nums (natsD mv'))] = .ok (.int (mv'.length : Int)) [a, b, c, d, e, f, .lst (nums (natsD mv'))] := fun a b c d e f mv' => by
      rw [len_celL (ds := nums (natsD mv')) rfl, List.length_map, List.length_map]
    have s6 : ∀ (a b c d e f : Cell) (mv' : List Nat), Moved r (callL now p) mv' → fSortedA [.cel 6] [a, b, c, d, e, f, .lst (nums (natsD mv'))] = .ok (sq false (chgL r (callL now p))) [a, b, c, d, e, f, .lst (nums (natsD mv'))] := fun a b c d e f mv' hm => by
      rw [sorted_cel (ns := natsD mv') rfl, hm.sorted (by omega)]
    have hsame2 : ∀ (mv' : List Nat), Moved r (callL now p) mv' → F__law_same 5 [.lst [.bl true, .int ((chgL r (callL now p)).length : Int), sq false (chgL r (callL now p))], .lst [.bl true, .int (mv'.length : Int), sq false (chgL r (callL now p))]] = .ok (.bl true) := fun mv' hm => by
      rw [hm.length (by omega)]
      have hcl : (chgL r (callL now p)).length ≤ 100000 := by
        have := pers_length_le (n := r.length) (P := fun q => !stayB r (callL now p) q)
        unfold chgL
        omega
      exact law_same_refl 5 _ (plain_lst (by simp (disch := omega) only [PL]))
    by_cases hi : callL now p = now
    · rw [decide_eq_true hi] at hid
      rw [hid, if_pos rfl] at hps1
      have hM' : Moved r (callL now p) mv := by rw [hi]; exact hM
      simp (disch := first | omega | assumption) only [EV, EC, EO, gk, m_law_called (r := now) (p := p) (by omega) (by omega), m_middle (b := true) (r := now) (p := p) (by omega), m_called (b := true) (r := now) (p := p) (by omega) (by omega), ec, er, gi_nat, hsame, decide_eq_true hi, m_leads (b := true) (c := true) (r := r) (h := callL now p) (by omega) (by omega), m_distance (b := g) (c := true) (r := r) (h := callL now p) (by omega) (by omega) hb2, m_changed (b := true) (c := true) (r := r) (h := callL now p) (by omega) (by omega) hb2, hb2, Option.isNone_none, l6, s6 _ _ _ _ _ _ mv hM', hsame2 mv hM']
      rw [hnext]
      refine ⟨_, _, _, mv, rfl, ?_, hM'⟩
      rw [hrows, hps1, nums_snoc]
    · rw [decide_eq_false hi] at hid
      rw [hid, if_neg (by decide), List.append_nil] at hps1
      obtain ⟨hM', hnm, htd⟩ := hM.step (by omega) hb hi
      have in1 : ∀ (a b c d e f : Cell), fIn false (.int (p : Int)) (.cel 6) [a, b, c, d, e, f, .lst (nums (natsD mv))] = .ok (.bl false) [a, b, c, d, e, f, .lst (nums (natsD mv))] := fun a b c d e f => by
        rw [in_cel (ns := natsD mv) rfl, decide_eq_false]
        unfold natsD
        rw [List.mem_map]
        rintro ⟨q, hq, e⟩
        exact hnm (by rw [show p = q by omega]; exact hq)
      have ht := pers_length_le (n := r.length) (P := isTop r)
      have hd := pers_length_le (n := r.length) (P := isDip r)
      have in2 : ((p : Int) ∈ topsL r ++ dipsL r) := by
        rw [List.mem_append]
        rcases htd with z | z
        · left
          unfold topsL
          exact nat_mem_pers.mpr ⟨hn, z⟩
        · right
          unfold dipsL
          exact nat_mem_pers.mpr ⟨hn, z⟩
      have add1 : ∀ μ : Mu, fAdd (sq false (topsL r)) (sq false (dipsL r)) μ = .ok (sq false (topsL r ++ dipsL r)) μ := fun μ => b_addL (by unfold topsL dipsL; omega)
      have hml : (nums (natsD mv)).length < 100000 := by
        rw [List.length_map, List.length_map, ← hM.length (by omega)]
        have := pers_length_le (n := r.length) (P := fun q => !stayB r now q)
        unfold chgL
        omega
      have happ : nums (natsD mv) ++ [D.int (p : Int)] = nums (natsD (mv ++ [p])) := by simp [nums, natsD]
      simp (disch := first | omega | assumption) only [EV, EC, EO, gk, m_law_called (r := now) (p := p) (by omega) (by omega), m_middle (b := true) (r := now) (p := p) (by omega), m_called (b := true) (r := now) (p := p) (by omega) (by omega), ec, er, gi_nat, hsame, decide_eq_false hi, in1, m_tops (b := true) (r := r) (by omega), m_dips (b := true) (r := r) (by omega), add1, decide_eq_true in2, happ, m_leads (b := true) (c := true) (r := r) (h := callL now p) (by omega) (by omega), m_distance (b := g) (c := true) (r := r) (h := callL now p) (by omega) (by omega) hb2, m_changed (b := true) (c := true) (r := r) (h := callL now p) (by omega) (by omega) hb2, hb2, Option.isNone_none, l6, s6 _ _ _ _ _ _ (mv ++ [p]) hM', hsame2 (mv ++ [p]) hM']
      rw [hnext]
      refine ⟨_, _, _, mv ++ [p], rfl, ?_, hM'⟩
      rw [hrows, hps1]
  · obtain ⟨x11, x12, x13, mv, rfl, rfl, hM⟩ := hI
    rw [show ps.take v3 = ps by rw [← hps]; exact List.take_length] at hM ⊢
    have lnow : (runL r ps).length = r.length := runL_length _ _
    have hb : barL r (runL r ps) = none := bar_run _
    have hpast : ((List.range v3).map fun i => runL r (ps.take i)).length = v3 := by rw [List.length_map, List.length_range]
    generalize hP : ((List.range v3).map fun i => runL r (ps.take i)) = past at *
    generalize hnw : runL r ps = now at *
    have hil := pers_length_le (n := ps.length) (P := idleB r ps)
    have hidl : idleL r ps = pers v3 (idleB r ps) := by unfold idleL; rw [hps]
    rw [← hidl]
    have ed := m_h_deeds (HC := HC) (μ := [.lst (nums u4), .dead, .ins HC NS [.cel 3, .cel 4], .lst ((past ++ [now]).map (sq true)), .lst [], .lst (nums (idleL r ps)), .lst (nums (natsD mv))]) (k := 2) (i := 3) (j := 4) ⟨rfl, rfl, rfl, by decide⟩
    have hi2 : F_Hall_init HC [.cel 7, sq true r] [.lst (nums u4), .dead, .ins HC NS [.cel 3, .cel 4], .lst ((past ++ [now]).map (sq true)), .lst [], .lst (nums (idleL r ps)), .lst (nums (natsD mv)), .ins HC [] []] = .ok .non [.lst (nums u4), .dead, .ins HC NS [.cel 3, .cel 4], .lst ((past ++ [now]).map (sq true)), .lst [], .lst (nums (idleL r ps)), .lst (nums (natsD mv)), .ins HC NS [.cel 8, .cel 9], .lst [sq true r], .lst []] := m_h_init (μ := [.lst (nums u4), .dead, .ins HC NS [.cel 3, .cel 4], .lst ((past ++ [now]).map (sq true)), .lst [], .lst (nums (idleL r ps)), .lst (nums (natsD mv))])
    have er2 := m_h_run (HC := HC) (b := true) (ps := ps) (past := []) (r := r) (μ := [.lst (nums u4), .dead, .ins HC NS [.cel 3, .cel 4], .lst ((past ++ [now]).map (sq true)), .lst [], .lst (nums (idleL r ps)), .lst (nums (natsD mv)), .ins HC NS [.cel 8, .cel 9], .lst [sq true r], .lst []]) (k := 7) (i := 8) (j := 9) ⟨rfl, rfl, rfl, by decide⟩ hpm (by omega) (by omega) (by decide)
    simp only [EV] at er2
    have hil2 : (idleL r ps).length ≤ 100000 := by unfold idleL; omega
    have hsame1 := law_same_refl 5 (.lst [sq true now, sq false (idleL r ps), .non, .int (v3 : Int), .int ((v3 : Int) - ((idleL r ps).length : Int))]) (plain_lst (by simp (disch := omega) only [PL]))
    have fold5 : D.lst (nums (idleL r ps)) = sq false (idleL r ps) := rfl
    simp (disch := omega) only [EV, EC, EO, EM, fold5, m_run (b := true) (c := false) hpm (by omega : r.length ≤ 100000), m_idle (b := g) (c := true) hpm (by omega : r.length ≤ 100000) (by omega), hnw, m_bar (b := true) (c := true) (r := r) (h := now) (by omega) (by omega), hb, show barD none = .non from rfl, ed, Nat.reduceAdd, hi2, er2, hpast, List.length_map, hps, hsame1]
    -- tops and dips now
    rw [show ((r.length : Int) - 1 - 1).toNat = now.length - 2 by omega, rg_map, lc_all (fun (i : Nat) => (1 : Int) + (i : Int)) D.int (fun i _ => ⟨_, rfl, rfl⟩) (by rw [List.length_range, lim_eq]; omega), inner_pers now.length]
    simp (disch := omega) only [EV]
    have hinn : ∀ x ∈ pers now.length (innB now.length), ∃ q : Nat, x = (q : Int) ∧ 0 < q ∧ q + 1 < now.length := fun x hx => by
      obtain ⟨e1, e2, e3⟩ := pers_toNat hx
      unfold innB at e3
      rw [Bool.and_eq_true, decide_eq_true_iff, decide_eq_true_iff] at e3
      exact ⟨x.toNat, e1.symm, e3.1, e3.2⟩
    have hinl := pers_length_le (n := now.length) (P := innB now.length)
    rw [lc_map (fun x => isTop now x.toNat) (fun x => x) D.int (fun x hx => ?_) (by rw [lim_eq]; omega), List.map_id', pers_filter]
    rotate_left
    · obtain ⟨q, rfl, q1, q2⟩ := hinn x hx
      refine ⟨_, rfl, ?_, fun _ => rfl⟩
      simp (disch := omega) only [EV, EC, gi_nat, gi_pred, gi_succ, Int.toNat_natCast]
      unfold isTop
      rw [decide_eq_true q1, decide_eq_true q2, Bool.true_and, Bool.true_and, ← Bool.decide_and]
      congr 1
      exact decide_eq_decide.mpr (by omega)
    have htop : pers now.length (fun q => innB now.length q && isTop now q) = topsL now := pers_congr fun q _ => by
      unfold innB isTop
      cases decide (0 < q) <;> cases decide (q + 1 < now.length) <;> rfl
    rw [htop]
    simp (disch := omega) only [EV]
    rw [lc_map (fun x => isDip now x.toNat) (fun x => x) D.int (fun x hx => ?_) (by rw [lim_eq]; omega), List.map_id', pers_filter]
    rotate_left
    · obtain ⟨q, rfl, q1, q2⟩ := hinn x hx
      refine ⟨_, rfl, ?_, fun _ => rfl⟩
      simp (disch := omega) only [EV, EC, gi_nat, gi_pred, gi_succ, Int.toNat_natCast]
      unfold isDip
      rw [decide_eq_true q1, decide_eq_true q2, Bool.true_and, Bool.true_and, ← Bool.decide_and]
      congr 1
      exact decide_eq_decide.mpr (by omega)
    have hdip : pers now.length (fun q => innB now.length q && isDip now q) = dipsL now := pers_congr fun q _ => by
      unfold innB isDip
      cases decide (0 < q) <;> cases decide (q + 1 < now.length) <;> rfl
    rw [hdip]
    have htl := pers_length_le (n := now.length) (P := isTop now)
    have hdl := pers_length_le (n := now.length) (P := isDip now)
    have htl' : (topsL now).length ≤ 16 := by unfold topsL; omega
    have hdl' : (dipsL now).length ≤ 16 := by unfold dipsL; omega
    have et := m_h_tops (HC := HC) (past := past) (r := now) (log := []) (μ := [.lst (nums u4), .dead, .ins HC NS [.cel 3, .cel 4], .lst ((past ++ [now]).map (sq true)), .lst [], .dead, .lst (nums (natsD mv)), .ins HC NS [.cel 8, .cel 9], .lst (([] ++ [r] ++ [now]).map (sq true)), .lst []]) (k := 2) (i := 3) (j := 4) ⟨rfl, rfl, rfl, by decide⟩ (by omega)
    have edp := m_h_dips (HC := HC) (past := past) (r := now) (log := []) (μ := [.lst (nums u4), .dead, .ins HC NS [.cel 3, .cel 4], .lst ((past ++ [now]).map (sq true)), .lst [], .dead, .lst (nums (natsD mv)), .ins HC NS [.cel 8, .cel 9], .lst (([] ++ [r] ++ [now]).map (sq true)), .lst []]) (k := 2) (i := 3) (j := 4) ⟨rfl, rfl, rfl, by decide⟩ (by omega)
    have hrest : decide ((topsL now).length + (dipsL now).length = 0) = decide (topsL now ++ dipsL now = []) := decide_eq_decide.mpr (by
      rw [List.append_eq_nil_iff, ← List.length_eq_zero_iff, ← List.length_eq_zero_iff]
      omega)
    have hsame2 := law_same_refl 5 (.lst [sq false (topsL now), sq false (dipsL now), .bl (decide (topsL now ++ dipsL now = [])), sq false (topsL now), sq false (dipsL now)]) (plain_lst (by simp (disch := omega) only [PL]))
    simp (disch := omega) only [EV, EC, EO, m_tops (b := true) (r := now) (by omega), m_dips (b := true) (r := now) (by omega), m_at_rest (b := true) (r := now) (by omega), et, edp, eq_nilL, hrest, hsame2, m_runs (b := true) (h := now) (by omega)]
    -- runs now
    have hrl : (runsL now).length ≤ now.length := by
      unfold runsL
      rw [List.length_map]
      exact begs_length_le now
    rw [lc_map (fun _ : Nat × Nat => false) (fun _ => (1 : Int)) D.int (fun q hq => ?_) (by rw [lim_eq]; omega)]
    rotate_left
    · obtain ⟨q1, q2, q3, q4, q5⟩ := mem_runsL hq
      have hsl : ((now.drop q.1).take (q.2 + 1 - q.1)).length = q.2 + 1 - q.1 := by rw [List.length_take, List.length_drop]; omega
      have hs1 : (sset ((now.drop q.1).take (q.2 + 1 - q.1))).length = 1 := sset_const (slice_const q5 (fun x h1 h2 => rend_same now q.1 x h1 (by omega))) (by omega)
      refine ⟨_, rfl, ?_, fun z => Bool.noConfusion z⟩
      have e1 : cutL now (some (q.1 : Int)) (some ((q.2 : Int) + 1)) = (now.drop q.1).take (q.2 + 1 - q.1) := by
        rw [cutL_mid (by omega) (by omega), Int.toNat_natCast, show ((q.2 : Int) + 1).toNat = q.2 + 1 by omega]
      simp (disch := omega) only [EV, e1, ls_sq, hs1]
      rfl
    rw [List.filter_eq_nil_iff.mpr (fun _ _ z => Bool.noConfusion z)]
    have nn : ∀ μ : Mu, fNe (.lst []) (.lst []) μ = .ok (.bl false) μ := fun _ => rfl
    simp (disch := omega) only [EV, List.map_nil, nn, m_runs (b := true) (h := now) (by omega), sl_lst1, zp2_lst, ← List.map_drop, zp_prD]
    rw [lc_map (fun _ : (Nat × Nat) × (Nat × Nat) => false) (fun _ => (1 : Int)) D.int (fun q hq => ?_) (by rw [List.length_zip, lim_eq]; omega)]
    rotate_left
    · obtain ⟨q1, q2⟩ := q
      obtain ⟨n1, n2⟩ := runs_next hq
      have m1 := mem_runsL (List.of_mem_zip hq).1
      have m2 := mem_runsL (List.mem_of_mem_drop (List.of_mem_zip hq).2)
      refine ⟨_, rfl, ?_, fun z => Bool.noConfusion z⟩
      simp (disch := omega) only [EV, EC, prD_0, prD_1, gi_nat, decide_eq_false (Ne.symm n2)]
    rw [List.filter_eq_nil_iff.mpr (fun _ _ z => Bool.noConfusion z)]
    simp only [EV, List.map_nil, nn]
    -- whom to call first, all parts
    have hcl := pers_length_le (n := r.length) (P := fun q => !stayB r now q)
    have hcl' : (chgL r now).length ≤ 16 := by unfold chgL; omega
    have s6 : ∀ (a b c d e f : Cell) (l : Mu), fSortedA [.cel 6] (a :: b :: c :: d :: e :: f :: .lst (nums (natsD mv)) :: l) = .ok (sq false (chgL r now)) (a :: b :: c :: d :: e :: f :: .lst (nums (natsD mv)) :: l) := fun a b c d e f l => by
      rw [sorted_cel (ns := natsD mv) rfl, hM.sorted (by omega)]
    simp only [EV, s6]
    rw [lc_map (fun x => decide (gN (callL r x.toNat) x.toNat = gN now x.toNat)) (fun x => x) D.int (fun x hx => ?_) (by rw [lim_eq]; omega), List.map_id', chgL, pers_filter _ _ (fun q => decide (gN (callL r q) q = gN now q))]
    rotate_left
    · obtain ⟨q1, q2, q3⟩ := pers_toNat hx
      generalize x.toNat = q at *
      subst q1
      have := callL_length (r := r) (p := q)
      refine ⟨_, rfl, ?_, fun _ => rfl⟩
      simp (disch := omega) only [EV, EC, m_law_called (r := r) (p := q) (by omega) (by omega), gi_nat]
    rw [show (pers r.length fun q => !stayB r now q && decide (gN (callL r q) q = gN now q)) = pers now.length (fsB r now) by
      rw [lnow]
      exact pers_congr fun q hq => (fs_call (by omega) hb hq).symm]
    have hfl := pers_length_le (n := now.length) (P := fsB r now)
    have hsame3 := law_same_refl 5 (.lst [sq false (pers now.length (fsB r now)), sq false (chgL r now)]) (plain_lst (by simp (disch := omega) only [PL]))
    have hflat : ((partsL r now).flatMap rngP).length ≤ 90000 := by
      rw [parts_chg]
      have := List.length_filter_le (fun q => !stayB r now q) (List.range now.length)
      rw [List.length_range] at this
      omega
    simp (disch := omega) only [EV, m_firsts (b := true) (c := true) (r := r) (h := now) (by omega) (by omega) hb, m_parts (b := true) (c := true) (r := r) (h := now) (by omega) (by omega) hb, m_law_flat _ hflat, flat_chg (r := r) (h := now) (by omega), s6, hsame3, b_rg1, rg_map, show Int.toNat 6 = 6 from rfl]
    -- bent goals
    refine for_range (Q := fun o => RtM _ (seqO o _)) (fun k ρ μ => ∃ (u : List Int) (junk : Mu) (x6 x12 x14 x20 x21 x23 x24 x25 x26 x27 : Option D), ρ = [some (.frz (nums ns)), some (.cel 0), some (sq true r), some (.int (r.length : Int)), some (sq g r), some (sq false (natsD ps)), x6, some (.cel 2), some (sq true now), some (sq false (idleL r ps)), some (.cel 6), x11, x12, x13, x14, some (sq false (pers now.length (innB now.length))), some (sq false (topsL now)), some (sq false (dipsL now)), none, none, x20, x21, some (sq false (pers now.length (fsB r now))), x23, x24, x25, x26, x27] ∧ μ = .lst (nums u) :: .dead :: .ins HC NS [.cel 3, .cel 4] :: .lst ((past ++ [now]).map (sq true)) :: .lst [] :: .dead :: .lst (nums (natsD mv)) :: junk ∧ UrnOk (400 + 10 * k) u) ⟨_, _, _, _, _, _, _, _, _, _, _, _, rfl, rfl, hu4.mono (by omega)⟩ (fun k ρ μ hk hI => ?_) (fun ρ μ hI => ?_)
    · obtain ⟨u, junk, x6, x12', x14, x20, x21, x23, x24, x25, x26, x27, rfl, rfl, hu⟩ := hI
      refine ⟨_, _, rfl, ?_⟩
      obtain ⟨p, w1, f1, hp, hw1⟩ := m_take (m := (r.length : Int)) hu (by omega) (by omega) (by omega)
      obtain ⟨q, w2, f2, hq, hw2⟩ := m_law_of (b := true) (r := r) hw1 (by omega) (by omega) (by omega)
      obtain ⟨o, w3, f3, ho, hw3⟩ := m_take (m := (r.length : Int)) hw2 (by omega) (by omega) (by omega)
      obtain ⟨v, w4, f4, hv, hw4⟩ := m_take (m := 2) hw3 (by omega) (by omega) (by omega)
      obtain ⟨c1, c2⟩ := cat_set (now := now) (p := p) (x := gN r q) (by omega) (by omega)
      have hgl : (now.set p (gN r q)).length = r.length := by rw [List.length_set, lnow]
      obtain ⟨goal, w5, f5, hgo, hw5⟩ := bent (v := v) (o := o) (now := now) (goal := now.set p (gN r q)) (ρ := [some (.frz (nums ns)), some (.cel 0), some (sq true r), some (.int (r.length : Int)), some (sq g r), some (sq false (natsD ps)), some (.int (k : Int)), some (.cel 2), some (sq true now), some (sq false (idleL r ps)), some (.cel 6), x11, some (.int (p : Int)), x13, x14, some (sq false (pers now.length (innB now.length))), some (sq false (topsL now)), some (sq false (dipsL now)), none, none, x20, some (.int (o : Int)), some (sq false (pers now.length (fsB r now))), some (sq true (now.set p (gN r q))), x24, x25, x26, x27]) (rest := .dead :: .ins HC NS [.cel 3, .cel 4] :: .lst ((past ++ [now]).map (sq true)) :: .lst [] :: .dead :: .lst (nums (natsD mv)) :: junk) hw4 (by omega) (fun _ => rfl) (fun _ => rfl) (fun _ => rfl) (fun _ => rfl) (by omega) (by omega) (by omega) (by omega)
      have hge : r.length = goal.length := by omega
      simp (disch := omega) only [EV, EC, f1, f2, f3, f4, f5, c1, c2, Int.toNat_natCast, show ((p : Int) + 1).toNat = p + 1 by omega, m_law_bar (b := true) (c := true) (r := r) (h := goal) hge (by omega) (rbd.mono (by omega))]
      rw [ev_make]
      simp only [ev_cons, ev_varS, ev_var0, ev_nil, c_consA, c_consB]
      rw [m_make]
      have hH := new_hall (HC := HC) (μ := .lst (nums w5) :: .dead :: .ins HC NS [.cel 3, .cel 4] :: .lst ((past ++ [now]).map (sq true)) :: .lst [] :: .dead :: .lst (nums (natsD mv)) :: junk) (r := r)
      have hS := fun d => new_set (μ := .lst (nums w5) :: .dead :: .ins HC NS [.cel 3, .cel 4] :: .lst ((past ++ [now]).map (sq true)) :: .lst [] :: .dead :: .lst (nums (natsD mv)) :: junk) (a := .ins HC NS [.cel ((.lst (nums w5) :: .dead :: .ins HC NS [.cel 3, .cel 4] :: .lst ((past ++ [now]).map (sq true)) :: .lst [] :: .dead :: .lst (nums (natsD mv)) :: junk : Mu).length + 1), .cel ((.lst (nums w5) :: .dead :: .ins HC NS [.cel 3, .cel 4] :: .lst ((past ++ [now]).map (sq true)) :: .lst [] :: .dead :: .lst (nums (natsD mv)) :: junk : Mu).length + 2)]) (b := .lst [sq true r]) (c := .lst []) (d := d)
      have hA : ∀ l : Mu, (.lst (nums w5) :: .dead :: .ins HC NS [.cel 3, .cel 4] :: .lst ((past ++ [now]).map (sq true)) :: .lst [] :: .dead :: .lst (nums (natsD mv)) :: junk : Mu) ++ l = .lst (nums w5) :: .dead :: .ins HC NS [.cel 3, .cel 4] :: .lst ((past ++ [now]).map (sq true)) :: .lst [] :: .dead :: .lst (nums (natsD mv)) :: (junk ++ l) := fun l => rfl
      generalize hM : ((.lst (nums w5) :: .dead :: .ins HC NS [.cel 3, .cel 4] :: .lst ((past ++ [now]).map (sq true)) :: .lst [] :: .dead :: .lst (nums (natsD mv)) :: junk : Mu) ++ [.ins HC NS [.cel ((.lst (nums w5) :: .dead :: .ins HC NS [.cel 3, .cel 4] :: .lst ((past ++ [now]).map (sq true)) :: .lst [] :: .dead :: .lst (nums (natsD mv)) :: junk : Mu).length + 1), .cel ((.lst (nums w5) :: .dead :: .ins HC NS [.cel 3, .cel 4] :: .lst ((past ++ [now]).map (sq true)) :: .lst [] :: .dead :: .lst (nums (natsD mv)) :: junk : Mu).length + 2)], .lst [sq true r], .lst []]) = M at *
      generalize hK : (.lst (nums w5) :: .dead :: .ins HC NS [.cel 3, .cel 4] :: .lst ((past ++ [now]).map (sq true)) :: .lst [] :: .dead :: .lst (nums (natsD mv)) :: junk : Mu).length = K at *
      simp (disch := omega) only [EV, zp_nums hge]
      rw [lc_map (fun i => !stayB r goal i) (fun _ => (1 : Int)) D.int (fun i hi => ?_) (by rw [List.length_range, lim_eq]; omega)]
      rotate_left
      · refine ⟨_, rfl, ?_, fun _ => rfl⟩
        simp only [EV]
        rfl
      have hgcl := pers_length_le (n := r.length) (P := fun q => !stayB r goal q)
      cases hbg : barL r goal with
      | none =>
        have eg1 := m_law_go (b := true) hH hge (by omega) hbg (by decide)
        have hH2 := hH.set [r] goal
        have er1 := m_h_row hH2
        have ed1 := m_h_deeds hH2
        have hs1 := law_same_refl 5 (.lst [.non, .bl true, .int ((chgL r goal).length : Int), sq true goal, .int 1]) (plain_lst (by simp (disch := omega) only [PL]))
        rw [show ([] ++ [r] ++ [goal] : List (List Int)) = [r] ++ [goal] from rfl] at eg1
        rw [show ((([r] : List (List Int)).length : Nat) : Int) = 1 from rfl] at ed1
        simp (disch := omega) only [EV, EO, m_soft (b := true) (k := 3) (r := goal) (by omega), m_bar (b := true) (c := false) (r := r) (h := goal) hge (by omega), m_leads (b := true) (c := true) (r := r) (h := goal) hge (by omega), hbg, show barD none = .non from rfl, Option.isNone_none, eg1, hH2.h1, er1, ed1, noc_len, hs1]
        rw [hS, hA]
        exact ⟨_, _, _, _, _, _, _, _, _, _, _, _, rfl, rfl, hw5.mono (by omega)⟩
      | some x =>
        have eg1 := m_law_go_no (b := true) hH hge (by omega) hbg
        have er1 := m_h_row hH
        have ed1 := m_h_deeds hH
        rw [show ((([] : List (List Int)).length : Nat) : Int) = 0 from rfl] at ed1
        obtain ⟨wd, pl⟩ := x
        have hwd : PyData.canLay0 (.str wd) = true := by
          unfold barL at hbg
          split at hbg
          · cases hbg
            decide +kernel
          · split at hbg
            · cases hbg
              decide +kernel
            · split at hbg
              · cases hbg
                decide +kernel
              · cases hbg
        have hwd' : ∀ k, plainB (k + 1) (.str wd) = true := fun _ => hwd
        have hbr : ∀ k, plainB (k + 1) (.str "barred") = true := fun _ => by
          show PyData.canLay0 (.str "barred") = true
          decide +kernel
        have hbd1 : ∀ k, plainB (k + 2) (barD (some (wd, pl))) = true := fun k => plain_tup (by
          simp only [plain_cons, plain_nil]
          exact ⟨hwd' k, rfl, trivial⟩)
        have hs1 := law_same_refl 5 (.lst [barD (some (wd, pl)), .bl false, .tup [.str "barred", barD (some (wd, pl))], sq true r, .int 0]) (plain_lst (by
          simp only [plain_cons, plain_nil]
          exact ⟨hbd1 2, rfl, plain_tup (by
            simp only [plain_cons, plain_nil]
            exact ⟨hbr 2, hbd1 1, trivial⟩), plain_sq (by omega), rfl, trivial⟩))
        simp (disch := omega) only [EV, EO, m_soft (b := true) (k := 3) (r := goal) (by omega), m_bar (b := true) (c := false) (r := r) (h := goal) hge (by omega), m_leads (b := true) (c := true) (r := r) (h := goal) hge (by omega), hbg, isNon_bar, Option.isNone_some, eg1, hH.h1, er1, ed1, noc_len, hs1]
        rw [← hM, hA]
        exact ⟨_, _, _, _, _, _, _, _, _, _, _, _, rfl, rfl, hw5.mono (by omega)⟩
    · obtain ⟨u, junk, x6, x12', x14, x20, x21, x23, x24, x25, x26, x27, rfl, rfl, hu⟩ := hI
      have hL0 : (past ++ [now]).length = v3 + 1 := by rw [List.length_append, hpast, List.length_singleton]
      simp (disch := omega) only [EV, b_rg1, rg_map, List.length_map, hps, Int.toNat_natCast]
      -- all taken back
      refine for_range (Q := fun o => RtM _ (seqO o _)) (fun k ρ μ => ∃ y, ρ = [some (.frz (nums ns)), some (.cel 0), some (sq true r), some (.int (r.length : Int)), some (sq g r), some (sq false (natsD ps)), x6, some (.cel 2), some (sq true now), some (sq false (idleL r ps)), some (.cel 6), y, x12', x13, x14, some (sq false (pers now.length (innB now.length))), some (sq false (topsL now)), some (sq false (dipsL now)), none, none, x20, x21, some (sq false (pers now.length (fsB r now))), x23, x24, x25, x26, x27] ∧ μ = .lst (nums u) :: .dead :: .ins HC NS [.cel 3, .cel 4] :: .lst (((past ++ [now]).take (v3 + 1 - k)).map (sq true)) :: .lst [] :: .dead :: .lst (nums (natsD mv)) :: junk) ⟨_, rfl, by rw [Nat.sub_zero, List.take_of_length_le (by omega)]⟩ (fun k ρ μ hk hI => ?_) (fun ρ μ hI => ?_)
      · obtain ⟨y, rfl, rfl⟩ := hI
        refine ⟨_, _, rfl, ?_⟩
        have t2 := take_two (past ++ [now]) (v3 - 1 - k) (by omega)
        rw [show v3 - 1 - k + 2 = v3 + 1 - k by omega] at t2
        have t1 := take_one (past ++ [now]) (v3 - 1 - k) (by omega)
        rw [show v3 - 1 - k + 1 = v3 + 1 - (k + 1) by omega] at t1
        have eu := m_h_undo (HC := HC) (past := (past ++ [now]).take (v3 - 1 - k)) (q := (past ++ [now])[v3 - 1 - k]) (r := (past ++ [now])[v3 - 1 - k + 1]) (log := []) (μ := .lst (nums u) :: .dead :: .ins HC NS [.cel 3, .cel 4] :: .lst (((past ++ [now]).take (v3 + 1 - k)).map (sq true)) :: .lst [] :: .dead :: .lst (nums (natsD mv)) :: junk) (k := 2) (i := 3) (j := 4) ⟨rfl, by rw [← t2]; rfl, rfl, by decide⟩
        rw [← t1] at eu
        simp only [EV] at eu
        simp only [EV, EO, eu, decide_true]
        exact ⟨_, rfl, trivial⟩
      · obtain ⟨y, rfl, rfl⟩ := hI
        have h1 : (past ++ [now]).take (v3 + 1 - v3) = [r] := by
          rw [show v3 + 1 - v3 = 1 by omega]
          by_cases z : v3 = 0
          · have e1 : past = [] := List.length_eq_zero_iff.mp (by omega)
            have e2 : ps = [] := List.length_eq_zero_iff.mp (by omega)
            rw [e1, ← hnw, e2]
            rfl
          · rw [List.take_append_of_le_length (by omega), ← hP, ← List.map_take, List.take_range, show min 1 v3 = 1 by omega]
            rfl
        rw [h1]
        have hHf : HallAt HC (.lst (nums u) :: .dead :: .ins HC NS [.cel 3, .cel 4] :: .lst ([r].map (sq true)) :: .lst [] :: .dead :: .lst (nums (natsD mv)) :: junk) 2 3 4 [] r [] := ⟨rfl, rfl, rfl, by decide⟩
        have er1 := m_h_row hHf
        have eu1 := m_h_undo_no hHf
        have ed1 := m_h_deeds hHf
        rw [show ((([] : List (List Int)).length : Nat) : Int) = 0 from rfl] at ed1
        have hs1 := law_same_refl 5 (.lst [sq true r, .bl false, .int 0]) (plain_lst (by simp (disch := omega) only [PL]))
        simp only [EV, EO, er1, eu1, ed1, hs1]
end DL
end
set_option maxRecDepth 100000
set_option maxHeartbeats 0
open PySem PySem.W PyProof.Rows
open_top HeadD.hd for PySem.Challenge.rw_middlecall_k87_across_great_rows_calls_b
set_option maxHeartbeats 0 in
theorem PySem.Challenge.cw_middlecall_k87_across_great_rows_calls_b_holds : PySem.Challenge.rw_middlecall_k87_across_great_rows_calls_b.Holds := by
  refine HeadD.hd ?_
  refine L2.walk_of (l := PySem.Challenge.rw_middlecall_k87_across_great_rows_calls_b) (n := 63) (k := 13) (x := "script") (CX := fun w => L2.CX PySem.Challenge.rw_middlecall_k87_across_great_rows_calls_b.prog w) (sp := fun w => DL.spAll DL.F_law _) rfl (by decide) rfl ⟨rfl, by decide, by decide⟩ (fun w h Y => PySem.W.kIn_of Y) ?F (fun _ _ a ns hl _ hS => DL.law_sp (fun HC => DL.the_law HC ns hl) hS) (fun w H s e s' z => by obtain ⟨_, _, _, _, _, _, _, _, _, _, _, _, z⟩ := z; exact z)
  case F =>
    intro w mg fa h KX G hmg
    refine' DL.all_mk KX G hmg ?z_abs ?z_all ?z_bool ?z_enumerate ?z_int ?z_isinstance ?z_len ?z_list ?z_max ?z_min ?z_range ?z_set ?z_sorted ?z_str ?z_tuple ?z_zip ?z_CHANGE ?z_ORDER ?z_RUN ?aHC ?c1 ?c2 ?c3 ?c4 ?n_own_log ?n_own_rows ?a__law_cells__law_cells ?l__law_cells ?c__law_cells ?k__law_cells ?a__law_box__law_box ?l__law_box ?c__law_box ?k__law_box ?a__law_take__law_take ?l__law_take ?c__law_take ?k__law_take ?a__law_great__law_great ?l__law_great ?c__law_great ?k__law_great ?a__law_soft__law_soft ?l__law_soft ?c__law_soft ?k__law_soft ?a_Hall_init ?l_Hall_init ?c_Hall_init ?k_Hall_init ?t1_Hall_init ?i_Hall_init ?m_Hall_init ?kHC ?a__law_called__law_called ?l__law_called ?c__law_called ?k__law_called ?a_Hall_row ?l_Hall_row ?c_Hall_row ?k_Hall_row ?i_Hall_row ?a_look_person_look_person ?l_look_person ?c_look_person ?k_look_person ?a_middle_of_middle_of ?l_middle_of ?c_middle_of ?k_middle_of ?a_called_called ?l_called ?c_called ?k_called ?a_Hall_call ?l_Hall_call ?c_Hall_call ?k_Hall_call ?i_Hall_call ?a_middle_middle ?l_middle ?c_middle ?k_middle ?a__law_same__law_same ?l__law_same ?c__law_same ?k__law_same ?a_inner_inner ?l_inner ?c_inner ?k_inner ?a_tops_tops_rows ?l_tops ?c_tops ?k_tops ?a_dips_dips_rows ?l_dips ?c_dips ?k_dips ?a_look_many_look_many ?l_look_many ?c_look_many ?k_look_many ?a_wrong_orders_wrong_orders ?l_wrong_orders ?c_wrong_orders ?k_wrong_orders ?a_wrong_changes_wrong_changes ?l_wrong_changes ?c_wrong_changes ?k_wrong_changes ?a_runs_runs ?l_runs ?c_runs ?k_runs ?a_stayed_stayed ?l_stayed ?c_stayed ?k_stayed ?a_wrong_runs_wrong_runs ?l_wrong_runs ?c_wrong_runs ?k_wrong_runs ?a_bar_bar ?l_bar ?c_bar ?k_bar ?a_look_leads_look_leads ?l_look_leads ?c_look_leads ?k_look_leads ?a_changed_changed ?l_changed ?c_changed ?k_changed ?a_distance_distance ?l_distance ?c_distance ?k_distance ?a_leads_leads ?l_leads ?c_leads ?k_leads ?a_run_run_calling ?l_run ?c_run ?k_run ?a_idle_idle ?l_idle ?c_idle ?k_idle ?a_Hall_run ?l_Hall_run ?c_Hall_run ?k_Hall_run ?i_Hall_run ?a_Hall_deeds ?l_Hall_deeds ?c_Hall_deeds ?k_Hall_deeds ?i_Hall_deeds ?a_Hall_dips ?l_Hall_dips ?c_Hall_dips ?k_Hall_dips ?i_Hall_dips ?a_Hall_tops ?l_Hall_tops ?c_Hall_tops ?k_Hall_tops ?i_Hall_tops ?a_at_rest_at_rest ?l_at_rest ?c_at_rest ?k_at_rest ?a_open_parts_open_parts ?l_open_parts ?c_open_parts ?k_open_parts ?a_parts_parts ?l_parts ?c_parts ?k_parts ?a__law_flat__law_flat ?l__law_flat ?c__law_flat ?k__law_flat ?a_next_calls_next_calls ?l_next_calls ?c_next_calls ?k_next_calls ?a_firsts_firsts ?l_firsts ?c_firsts ?k_firsts ?a__law_of__law_of ?l__law_of ?c__law_of ?k__law_of ?a__law_bar__law_bar ?l__law_bar ?c__law_bar ?k__law_bar ?a_Hall_go ?l_Hall_go ?c_Hall_go ?k_Hall_go ?i_Hall_go ?a__law_go__law_go ?l__law_go ?c__law_go ?k__law_go ?a_Hall_undo ?l_Hall_undo ?c_Hall_undo ?k_Hall_undo ?i_Hall_undo ?a_law_law ?l_law ?c_law ?k_law ?e0_Barred ?e1_Barred ?e2_Barred ?e3_Barred ?e4_Barred ?e5_Barred ?e6_Barred ?e7_Barred ?e8_Barred ?e9_Barred ?ea_Barred ?eb_Barred ?ec_Barred ?ed_Barred ?e0_NoPerson ?e1_NoPerson ?e2_NoPerson ?e3_NoPerson ?e4_NoPerson ?e5_NoPerson ?e6_NoPerson ?e7_NoPerson ?e8_NoPerson ?e9_NoPerson ?ea_NoPerson ?eb_NoPerson ?ec_NoPerson ?ed_NoPerson ?e0_OtherPeople ?e1_OtherPeople ?e2_OtherPeople ?e3_OtherPeople ?e4_OtherPeople ?e5_OtherPeople ?e6_OtherPeople ?e7_OtherPeople ?e8_OtherPeople ?e9_OtherPeople ?ea_OtherPeople ?eb_OtherPeople ?ec_OtherPeople ?ed_OtherPeople ?g1_Barred ?g2_Barred ?g3_Barred ?g4_Barred ?g5_Barred
    (case z_abs => k_is)
    (case z_all => k_is)
    (case z_bool => k_is)
    (case z_enumerate => k_is)
    (case z_int => k_is)
    (case z_isinstance => k_is)
    (case z_len => k_is)
    (case z_list => k_is)
    (case z_max => k_is)
    (case z_min => k_is)
    (case z_range => k_is)
    (case z_set => k_is)
    (case z_sorted => k_is)
    (case z_str => k_is)
    (case z_tuple => k_is)
    (case z_zip => k_is)
    (case z_CHANGE => k_is)
    (case z_ORDER => k_is)
    (case z_RUN => k_is)
    (case aHC => k_is)
    (case c1 => k_is)
    (case c2 => k_is)
    (case c3 => k_is)
    (case c4 => k_is)
    (case n_own_log => k_is)
    (case n_own_rows => k_is)
    (case a__law_cells__law_cells => k_is)
    (case l__law_cells => k_is)
    (case c__law_cells => k_is)
    (case k__law_cells => k_is)
    (case a__law_box__law_box => k_is)
    (case l__law_box => k_is)
    (case c__law_box => k_is)
    (case k__law_box => k_is)
    (case a__law_take__law_take => k_is)
    (case l__law_take => k_is)
    (case c__law_take => k_is)
    (case k__law_take => k_is)
    (case a__law_great__law_great => k_is)
    (case l__law_great => k_is)
    (case c__law_great => k_is)
    (case k__law_great => k_is)
    (case a__law_soft__law_soft => k_is)
    (case l__law_soft => k_is)
    (case c__law_soft => k_is)
    (case k__law_soft => k_is)
    (case a_Hall_init => k_is)
    (case l_Hall_init => k_is)
    (case c_Hall_init => k_is)
    (case k_Hall_init => k_is)
    (case t1_Hall_init => k_is)
    (case i_Hall_init => k_is)
    (case m_Hall_init => k_is)
    (case kHC => k_is)
    (case a__law_called__law_called => k_is)
    (case l__law_called => k_is)
    (case c__law_called => k_is)
    (case k__law_called => k_is)
    (case a_Hall_row => k_is)
    (case l_Hall_row => k_is)
    (case c_Hall_row => k_is)
    (case k_Hall_row => k_is)
    (case i_Hall_row => k_is)
    (case a_look_person_look_person => k_is)
    (case l_look_person => k_is)
    (case c_look_person => k_is)
    (case k_look_person => k_is)
    (case a_middle_of_middle_of => k_is)
    (case l_middle_of => k_is)
    (case c_middle_of => k_is)
    (case k_middle_of => k_is)
    (case a_called_called => k_is)
    (case l_called => k_is)
    (case c_called => k_is)
    (case k_called => k_is)
    (case a_Hall_call => k_is)
    (case l_Hall_call => k_is)
    (case c_Hall_call => k_is)
    (case k_Hall_call => k_is)
    (case i_Hall_call => k_is)
    (case a_middle_middle => k_is)
    (case l_middle => k_is)
    (case c_middle => k_is)
    (case k_middle => k_is)
    (case a__law_same__law_same => k_is)
    (case l__law_same => k_is)
    (case c__law_same => k_is)
    (case k__law_same => k_is)
    (case a_inner_inner => k_is)
    (case l_inner => k_is)
    (case c_inner => k_is)
    (case k_inner => k_is)
    (case a_tops_tops_rows => k_is)
    (case l_tops => k_is)
    (case c_tops => k_is)
    (case k_tops => k_is)
    (case a_dips_dips_rows => k_is)
    (case l_dips => k_is)
    (case c_dips => k_is)
    (case k_dips => k_is)
    (case a_look_many_look_many => k_is)
    (case l_look_many => k_is)
    (case c_look_many => k_is)
    (case k_look_many => k_is)
    (case a_wrong_orders_wrong_orders => k_is)
    (case l_wrong_orders => k_is)
    (case c_wrong_orders => k_is)
    (case k_wrong_orders => k_is)
    (case a_wrong_changes_wrong_changes => k_is)
    (case l_wrong_changes => k_is)
    (case c_wrong_changes => k_is)
    (case k_wrong_changes => k_is)
    (case a_runs_runs => k_is)
    (case l_runs => k_is)
    (case c_runs => k_is)
    (case k_runs => k_is)
    (case a_stayed_stayed => k_is)
    (case l_stayed => k_is)
    (case c_stayed => k_is)
    (case k_stayed => k_is)
    (case a_wrong_runs_wrong_runs => k_is)
    (case l_wrong_runs => k_is)
    (case c_wrong_runs => k_is)
    (case k_wrong_runs => k_is)
    (case a_bar_bar => k_is)
    (case l_bar => k_is)
    (case c_bar => k_is)
    (case k_bar => k_is)
    (case a_look_leads_look_leads => k_is)
    (case l_look_leads => k_is)
    (case c_look_leads => k_is)
    (case k_look_leads => k_is)
    (case a_changed_changed => k_is)
    (case l_changed => k_is)
    (case c_changed => k_is)
    (case k_changed => k_is)
    (case a_distance_distance => k_is)
    (case l_distance => k_is)
    (case c_distance => k_is)
    (case k_distance => k_is)
    (case a_leads_leads => k_is)
    (case l_leads => k_is)
    (case c_leads => k_is)
    (case k_leads => k_is)
    (case a_run_run_calling => k_is)
    (case l_run => k_is)
    (case c_run => k_is)
    (case k_run => k_is)
    (case a_idle_idle => k_is)
    (case l_idle => k_is)
    (case c_idle => k_is)
    (case k_idle => k_is)
    (case a_Hall_run => k_is)
    (case l_Hall_run => k_is)
    (case c_Hall_run => k_is)
    (case k_Hall_run => k_is)
    (case i_Hall_run => k_is)
    (case a_Hall_deeds => k_is)
    (case l_Hall_deeds => k_is)
    (case c_Hall_deeds => k_is)
    (case k_Hall_deeds => k_is)
    (case i_Hall_deeds => k_is)
    (case a_Hall_dips => k_is)
    (case l_Hall_dips => k_is)
    (case c_Hall_dips => k_is)
    (case k_Hall_dips => k_is)
    (case i_Hall_dips => k_is)
    (case a_Hall_tops => k_is)
    (case l_Hall_tops => k_is)
    (case c_Hall_tops => k_is)
    (case k_Hall_tops => k_is)
    (case i_Hall_tops => k_is)
    (case a_at_rest_at_rest => k_is)
    (case l_at_rest => k_is)
    (case c_at_rest => k_is)
    (case k_at_rest => k_is)
    (case a_open_parts_open_parts => k_is)
    (case l_open_parts => k_is)
    (case c_open_parts => k_is)
    (case k_open_parts => k_is)
    (case a_parts_parts => k_is)
    (case l_parts => k_is)
    (case c_parts => k_is)
    (case k_parts => k_is)
    (case a__law_flat__law_flat => k_is)
    (case l__law_flat => k_is)
    (case c__law_flat => k_is)
    (case k__law_flat => k_is)
    (case a_next_calls_next_calls => k_is)
    (case l_next_calls => k_is)
    (case c_next_calls => k_is)
    (case k_next_calls => k_is)
    (case a_firsts_firsts => k_is)
    (case l_firsts => k_is)
    (case c_firsts => k_is)
    (case k_firsts => k_is)
    (case a__law_of__law_of => k_is)
    (case l__law_of => k_is)
    (case c__law_of => k_is)
    (case k__law_of => k_is)
    (case a__law_bar__law_bar => k_is)
    (case l__law_bar => k_is)
    (case c__law_bar => k_is)
    (case k__law_bar => k_is)
    (case a_Hall_go => k_is)
    (case l_Hall_go => k_is)
    (case c_Hall_go => k_is)
    (case k_Hall_go => k_is)
    (case i_Hall_go => k_is)
    (case a__law_go__law_go => k_is)
    (case l__law_go => k_is)
    (case c__law_go => k_is)
    (case k__law_go => k_is)
    (case a_Hall_undo => k_is)
    (case l_Hall_undo => k_is)
    (case c_Hall_undo => k_is)
    (case k_Hall_undo => k_is)
    (case i_Hall_undo => k_is)
    (case a_law_law => k_is)
    (case l_law => k_is)
    (case c_law => k_is)
    (case k_law => k_is)
    (case e0_Barred => k_is)
    (case e1_Barred => k_is)
    (case e2_Barred => k_is)
    (case e3_Barred => k_is)
    (case e4_Barred => k_is)
    (case e5_Barred => k_is)
    (case e6_Barred => k_is)
    (case e7_Barred => k_is)
    (case e8_Barred => k_is)
    (case e9_Barred => k_is)
    (case ea_Barred => k_is)
    (case eb_Barred => k_is)
    (case ec_Barred => k_is)
    (case ed_Barred => k_is)
    (case e0_NoPerson => k_is)
    (case e1_NoPerson => k_is)
    (case e2_NoPerson => k_is)
    (case e3_NoPerson => k_is)
    (case e4_NoPerson => k_is)
    (case e5_NoPerson => k_is)
    (case e6_NoPerson => k_is)
    (case e7_NoPerson => k_is)
    (case e8_NoPerson => k_is)
    (case e9_NoPerson => k_is)
    (case ea_NoPerson => k_is)
    (case eb_NoPerson => k_is)
    (case ec_NoPerson => k_is)
    (case ed_NoPerson => k_is)
    (case e0_OtherPeople => k_is)
    (case e1_OtherPeople => k_is)
    (case e2_OtherPeople => k_is)
    (case e3_OtherPeople => k_is)
    (case e4_OtherPeople => k_is)
    (case e5_OtherPeople => k_is)
    (case e6_OtherPeople => k_is)
    (case e7_OtherPeople => k_is)
    (case e8_OtherPeople => k_is)
    (case e9_OtherPeople => k_is)
    (case ea_OtherPeople => k_is)
    (case eb_OtherPeople => k_is)
    (case ec_OtherPeople => k_is)
    (case ed_OtherPeople => k_is)
    (case g1_Barred => k_is)
    (case g2_Barred => k_is)
    (case g3_Barred => k_is)
    (case g4_Barred => k_is)
    (case g5_Barred => first | rfl | k_is)
