import PyProof.Rows.All
import Wide.All
import OpenK.AllK
import Wide.FinOn
import HandS.ForMost
import HandS.IsInst
import HandS.TupAny
import HandS.SortInts
import PySem.Challenge.RW_courthouse_k82_marks_stay_in_turned_cell
set_option Elab.async false
set_option linter.all false
set_option maxRecDepth 100000
set_option maxHeartbeats 4000000
/-! The layer of pure data: what a def computes as a plain function of data, mutable data owned by one place each. -/
namespace CW
open PySem L2

/-- a mutable thing: owned by its place; given up to be read for ever; one of the written part or the script -/
inductive Md where
  | o | f | x
  deriving DecidableEq
/-- data -/
inductive D where
  | any | non
  | bl (b : Bool)
  | int (i : Int)
  | str (x : Str)
  | tup (ds : List D)
  | lst (m : Md) (ds : List D)
  | dic (m : Md) (ks : List Key) (ds : List D)
  | ins (C : Addr) (ns : List Str) (ds : List D)
abbrev Env := List D
abbrev Ow := Addr → Option (List Nat)
abbrev Sl := List (Option V)

mutual
def Rep (K : PySem.W.Frag) (G : Hp) : D → V → Prop
  | .any, _ => True
  | .non, v => v = .non
  | .bl b, v => v = .bl b
  | .int i, v => v = .int i
  | .str x, v => v = .str x
  | .tup ds, v => ∃ a vs, v = .ref a ∧ SqT K G a vs ∧ RepL K G ds vs
  | .lst m ds, v => ∃ a vs, v = .ref a ∧ (match m with | .o => False | .f => G a = some (.lst vs) | .x => SqL K G a vs) ∧ RepL K G ds vs
  | .dic m ks ds, v => ∃ a vs, v = .ref a ∧ m = .f ∧ G a = some (.dK (ks.zip vs)) ∧ ks.length = ds.length ∧ RepL K G ds vs
  | .ins _ _ _, _ => False
def RepL (K : PySem.W.Frag) (G : Hp) : List D → List V → Prop
  | [], vs => vs = []
  | d :: ds, vs => ∃ v r, vs = v :: r ∧ Rep K G d v ∧ RepL K G ds r
end
mutual
def Own (K : PySem.W.Frag) (G H : Hp) (ω : Ow) (p : List Nat) : D → V → Prop
  | .lst m ds, v => match m with
    | .o => ∃ a vs, v = .ref a ∧ H a = some (.lst vs) ∧ ω a = some p ∧ RepL K G ds vs
    | m => Rep K G (.lst m ds) v
  | .dic m ks ds, v => match m with
    | .o => ∃ a vs, v = .ref a ∧ H a = some (.dK (ks.zip vs)) ∧ ω a = some p ∧ ks.length = ds.length ∧ RepL K G ds vs
    | m => Rep K G (.dic m ks ds) v
  | .ins C ns ds, v => ∃ a dx vs, v = .ref a ∧ H a = some (.ins C dx (ns.zip vs)) ∧ ω a = some p ∧ ns.length = ds.length ∧ OwnL K G H ω p 0 ds vs
  | d, v => Rep K G d v
def OwnL (K : PySem.W.Frag) (G H : Hp) (ω : Ow) (p : List Nat) : Nat → List D → List V → Prop
  | _, [], vs => vs = []
  | j, d :: ds, vs => ∃ v r, vs = v :: r ∧ Own K G H ω (p ++ [j]) d v ∧ OwnL K G H ω p (j + 1) ds r
end

section
variable {K : PySem.W.Frag} {G H G' H' : Hp} {ω ω' : Ow} {p : List Nat}
theorem Same.seqT {a : Addr} {xs : List V} (e : Same H H') (h : SqT K H a xs) : SqT K H' a xs := by
  rcases h with (h | ⟨o, h⟩) | h
  · exact .inl (.inl (e _ _ h))
  · exact .inl (.inr ⟨o, e _ _ h⟩)
  · exact .inr h
mutual
theorem Rep.mono (hG : Same G G') : ∀ (d : D) (v : V), Rep K G d v → Rep K G' d v
  | .any, _, _ => by unfold Rep; trivial
  | .non, _, h => by unfold Rep at h ⊢; exact h
  | .bl _, _, h => by unfold Rep at h ⊢; exact h
  | .int _, _, h => by unfold Rep at h ⊢; exact h
  | .str _, _, h => by unfold Rep at h ⊢; exact h
  | .tup ds, v, h => by
    unfold Rep at h ⊢
    obtain ⟨a, vs, e, h1, h2⟩ := h
    exact ⟨a, vs, e, Same.seqT hG h1, RepL.mono hG ds vs h2⟩
  | .lst m ds, v, h => by
    unfold Rep at h ⊢
    obtain ⟨a, vs, e, h1, h2⟩ := h
    refine ⟨a, vs, e, ?_, RepL.mono hG ds vs h2⟩
    cases m with
    | o => exact h1
    | f => exact hG _ _ h1
    | x => exact hG.seq h1
  | .dic m ks ds, v, h => by
    unfold Rep at h ⊢
    obtain ⟨a, vs, e, hm, h1, hl, h2⟩ := h
    exact ⟨a, vs, e, hm, hG _ _ h1, hl, RepL.mono hG ds vs h2⟩
  | .ins _ _ _, _, h => by unfold Rep at h; exact h.elim
theorem RepL.mono (hG : Same G G') : ∀ (ds : List D) (vs : List V), RepL K G ds vs → RepL K G' ds vs
  | [], _, h => by unfold RepL at h ⊢; exact h
  | d :: ds, vs, h => by
    unfold RepL at h ⊢
    obtain ⟨v, r, e, h1, h2⟩ := h
    exact ⟨v, r, e, Rep.mono hG d v h1, RepL.mono hG ds r h2⟩
end
mutual
/-- what is owned at p is owned at p' under another owner map, where its cells are as they were -/
theorem Own.move (hG : Same G G') : ∀ (p p' : List Nat) (_ : ∀ b r, ω b = some (p ++ r) → H' b = H b ∧ ω' b = some (p' ++ r)) (d : D) (v : V), Own K G H ω p d v → Own K G' H' ω' p' d v
  | p, p', hk, .lst m ds, v, h => by
    unfold Own at h ⊢
    cases m with
    | o =>
      obtain ⟨a, vs, e, h1, h2, h3⟩ := h
      have q := hk a [] (by rw [List.append_nil]; exact h2)
      rw [List.append_nil] at q
      exact ⟨a, vs, e, by rw [q.1]; exact h1, q.2, RepL.mono hG ds vs h3⟩
    | f => exact Rep.mono hG _ _ h
    | x => exact Rep.mono hG _ _ h
  | p, p', hk, .dic m ks ds, v, h => by
    unfold Own at h ⊢
    cases m with
    | o =>
      obtain ⟨a, vs, e, h1, h2, hl, h3⟩ := h
      have q := hk a [] (by rw [List.append_nil]; exact h2)
      rw [List.append_nil] at q
      exact ⟨a, vs, e, by rw [q.1]; exact h1, q.2, hl, RepL.mono hG ds vs h3⟩
    | f => exact Rep.mono hG _ _ h
    | x => exact Rep.mono hG _ _ h
  | p, p', hk, .ins C ns ds, v, h => by
    unfold Own at h ⊢
    obtain ⟨a, dx, vs, e, h1, h2, hl, h3⟩ := h
    have q := hk a [] (by rw [List.append_nil]; exact h2)
    rw [List.append_nil] at q
    exact ⟨a, dx, vs, e, by rw [q.1]; exact h1, q.2, hl, OwnL.move hG p p' hk 0 ds vs h3⟩
  | p, p', hk, .any, v, h => by unfold Own at h ⊢; exact Rep.mono hG _ _ h
  | p, p', hk, .non, v, h => by unfold Own at h ⊢; exact Rep.mono hG _ _ h
  | p, p', hk, .bl _, v, h => by unfold Own at h ⊢; exact Rep.mono hG _ _ h
  | p, p', hk, .int _, v, h => by unfold Own at h ⊢; exact Rep.mono hG _ _ h
  | p, p', hk, .str _, v, h => by unfold Own at h ⊢; exact Rep.mono hG _ _ h
  | p, p', hk, .tup _, v, h => by unfold Own at h ⊢; exact Rep.mono hG _ _ h
theorem OwnL.move (hG : Same G G') : ∀ (p p' : List Nat) (_ : ∀ b r, ω b = some (p ++ r) → H' b = H b ∧ ω' b = some (p' ++ r)) (j : Nat) (ds : List D) (vs : List V), OwnL K G H ω p j ds vs → OwnL K G' H' ω' p' j ds vs
  | p, p', hk, j, [], vs, h => by unfold OwnL at h ⊢; exact h
  | p, p', hk, j, d :: ds, vs, h => by
    unfold OwnL at h ⊢
    obtain ⟨v, r, e, h1, h2⟩ := h
    exact ⟨v, r, e, Own.move hG (p ++ [j]) (p' ++ [j]) (fun b r e1 => by
      have q := hk b (j :: r) (by rw [e1, List.append_assoc]; rfl)
      exact ⟨q.1, by rw [q.2, List.append_assoc]; rfl⟩) d v h1, OwnL.move hG p p' hk (j + 1) ds r h2⟩
end
/-! ### scalars -/
theorem Own.frz {d : D} {v : V} (h : Rep K G d v) : Own K G H ω p d v := by
  cases d with
  | lst m ds =>
    unfold Own
    cases m with
    | o => unfold Rep at h; obtain ⟨_, _, _, h, _⟩ := h; exact h.elim
    | f => exact h
    | x => exact h
  | dic m ks ds =>
    unfold Own
    cases m with
    | o => unfold Rep at h; obtain ⟨_, _, _, h, _⟩ := h; cases h
    | f => exact h
    | x => exact h
  | ins C ns ds => unfold Rep at h; exact h.elim
  | any => unfold Own; exact h
  | non => unfold Own; exact h
  | bl _ => unfold Own; exact h
  | int _ => unfold Own; exact h
  | str _ => unfold Own; exact h
  | tup _ => unfold Own; exact h
/-- the value of a scalar -/
def scV : D → Option V
  | .non => some .non
  | .bl b => some (.bl b)
  | .int i => some (.int i)
  | .str x => some (.str x)
  | _ => none
theorem rep_sc {d : D} {v : V} (e : scV d = some v) : Rep K G d v := by
  cases d <;> simp [scV] at e <;> (subst e; unfold Rep; rfl)
theorem sc_rep {d : D} {v u : V} (e : scV d = some v) (h : Rep K G d u) : u = v := by
  cases d <;> simp [scV] at e <;> (subst e; unfold Rep at h; exact h)
/-- at the top not owned -/
def isF : D → Bool
  | .any => false
  | .lst .o _ => false
  | .dic .o _ _ => false
  | .ins _ _ _ => false
  | _ => true
theorem Own.rep {d : D} {v : V} (e : isF d = true) (h : Own K G H ω p d v) : Rep K G d v := by
  cases d with
  | lst m ds =>
    unfold Own at h
    cases m with
    | o => simp [isF] at e
    | f => exact h
    | x => exact h
  | dic m ks ds =>
    unfold Own at h
    cases m with
    | o => simp [isF] at e
    | f => exact h
    | x => exact h
  | ins C ns ds => simp [isF] at e
  | any => simp [isF] at e
  | non => unfold Own at h; exact h
  | bl _ => unfold Own at h; exact h
  | int _ => unfold Own at h; exact h
  | str _ => unfold Own at h; exact h
  | tup _ => unfold Own at h; exact h
theorem RepL.length : ∀ {ds : List D} {vs : List V}, RepL K G ds vs → ds.length = vs.length
  | [], _, h => by unfold RepL at h; rw [h]; rfl
  | d :: ds, vs, h => by
    unfold RepL at h
    obtain ⟨v, r, rfl, _, h2⟩ := h
    rw [List.length_cons, List.length_cons, RepL.length h2]
theorem OwnL.length : ∀ {j : Nat} {ds : List D} {vs : List V}, OwnL K G H ω p j ds vs → ds.length = vs.length
  | _, [], _, h => by unfold OwnL at h; rw [h]; rfl
  | j, d :: ds, vs, h => by
    unfold OwnL at h
    obtain ⟨v, r, rfl, _, h2⟩ := h
    rw [List.length_cons, List.length_cons, OwnL.length h2]
theorem RepL.get : ∀ {ds : List D} {vs : List V} {i : Nat} {d : D}, RepL K G ds vs → ds[i]? = some d → ∃ v, vs[i]? = some v ∧ Rep K G d v
  | [], _, _, _, _, e => by simp at e
  | d :: ds, vs, i, d', h, e => by
    unfold RepL at h
    obtain ⟨v, r, rfl, h1, h2⟩ := h
    cases i with
    | zero => simp at e; subst e; exact ⟨v, rfl, h1⟩
    | succ i =>
      obtain ⟨u, e1, e2⟩ := RepL.get (i := i) h2 (by simpa using e)
      exact ⟨u, by simpa using e1, e2⟩
theorem RepL.app : ∀ {ds es : List D} {vs us : List V}, RepL K G ds vs → RepL K G es us → RepL K G (ds ++ es) (vs ++ us)
  | [], _, _, _, h, h' => by unfold RepL at h; rw [h]; exact h'
  | d :: ds, es, vs, us, h, h' => by
    unfold RepL at h
    obtain ⟨v, r, rfl, h1, h2⟩ := h
    show RepL K G (d :: (ds ++ es)) _
    unfold RepL
    exact ⟨v, r ++ us, rfl, h1, RepL.app h2 h'⟩
theorem RepL.one {d : D} {v : V} (h : Rep K G d v) : RepL K G [d] [v] := by
  unfold RepL
  exact ⟨v, [], rfl, h, by unfold RepL; rfl⟩
theorem RepL.nil : RepL K G [] [] := by unfold RepL; rfl
theorem RepL.take : ∀ {ds : List D} {vs : List V} (n : Nat), RepL K G ds vs → RepL K G (ds.take n) (vs.take n)
  | _, _, 0, _ => by simp; exact RepL.nil
  | [], _, n + 1, h => by unfold RepL at h; rw [h]; simp; exact RepL.nil
  | d :: ds, vs, n + 1, h => by
    unfold RepL at h
    obtain ⟨v, r, rfl, h1, h2⟩ := h
    simp only [List.take_succ_cons]
    unfold RepL
    exact ⟨v, _, rfl, h1, RepL.take n h2⟩
theorem RepL.drop : ∀ {ds : List D} {vs : List V} (n : Nat), RepL K G ds vs → RepL K G (ds.drop n) (vs.drop n)
  | _, _, 0, h => h
  | [], _, n + 1, h => by unfold RepL at h; rw [h]; simp; exact RepL.nil
  | d :: ds, vs, n + 1, h => by
    unfold RepL at h
    obtain ⟨v, r, rfl, h1, h2⟩ := h
    exact RepL.drop n h2
theorem RepL.set : ∀ {ds : List D} {vs : List V} (i : Nat) {d : D} {v : V}, RepL K G ds vs → Rep K G d v → RepL K G (ds.set i d) (vs.set i v)
  | [], vs, i, d, v, h, _ => by unfold RepL at h; rw [h]; simp; exact RepL.nil
  | d0 :: ds, vs, i, d, v, h, hv => by
    unfold RepL at h
    obtain ⟨v0, r, rfl, h1, h2⟩ := h
    cases i with
    | zero => simp only [List.set_cons_zero]; unfold RepL; exact ⟨v, r, rfl, hv, h2⟩
    | succ i => simp only [List.set_cons_succ]; unfold RepL; exact ⟨v0, _, rfl, h1, RepL.set i h2 hv⟩
theorem OwnL.get : ∀ {k : Nat} {ds : List D} {vs : List V} {i : Nat} {d : D}, OwnL K G H ω p k ds vs → ds[i]? = some d → ∃ v, vs[i]? = some v ∧ Own K G H ω (p ++ [k + i]) d v
  | _, [], _, _, _, _, e => by simp at e
  | k, d :: ds, vs, i, d', h, e => by
    unfold OwnL at h
    obtain ⟨v, r, rfl, h1, h2⟩ := h
    cases i with
    | zero => simp at e; subst e; exact ⟨v, rfl, h1⟩
    | succ i =>
      obtain ⟨u, e1, e2⟩ := OwnL.get (i := i) h2 (by simpa using e)
      refine ⟨u, by simpa using e1, ?_⟩
      rw [show k + (i + 1) = k + 1 + i by omega]
      exact e2
/-- another field in place of one, the others moved -/
theorem OwnL.set (hG : Same G G') {d' : D} {v' : V} : ∀ {k : Nat} {ds : List D} {vs : List V} (i : Nat), OwnL K G H ω p k ds vs →
    (∀ j, j ≠ k + i → ∀ b r, ω b = some (p ++ [j] ++ r) → H' b = H b ∧ ω' b = some (p ++ [j] ++ r)) → (i < ds.length → Own K G' H' ω' (p ++ [k + i]) d' v') → OwnL K G' H' ω' p k (ds.set i d') (vs.set i v')
  | k, [], vs, i, h, _, _ => by
    unfold OwnL at h
    rw [h]
    simp only [List.set_nil]
    unfold OwnL
    rfl
  | k, d :: ds, vs, i, h, hk, hn => by
    unfold OwnL at h
    obtain ⟨v, r, rfl, h1, h2⟩ := h
    cases i with
    | zero =>
      simp only [List.set_cons_zero]
      unfold OwnL
      refine ⟨v', r, rfl, hn (by simp), ?_⟩
      have go : ∀ (ds : List D) (r : List V) (k' : Nat), k < k' → OwnL K G H ω p k' ds r → OwnL K G' H' ω' p k' ds r := by
        intro ds
        induction ds with
        | nil => intro r k' _ h; unfold OwnL at h ⊢; exact h
        | cons d ds ih =>
          intro r k' hlt h
          unfold OwnL at h ⊢
          obtain ⟨v, r', rfl, h1, h2⟩ := h
          exact ⟨v, r', rfl, Own.move hG _ _ (fun b r e => hk k' (by omega) b r e) d v h1, ih r' (k' + 1) (by omega) h2⟩
      exact go ds r (k + 1) (by omega) h2
    | succ i =>
      simp only [List.set_cons_succ]
      unfold OwnL
      refine ⟨v, _, rfl, Own.move hG _ _ (fun b r e => hk k (by omega) b r e) d v h1, ?_⟩
      refine OwnL.set hG i h2 (fun j hj => hk j (by omega)) fun hi => ?_
      rw [show k + 1 + i = k + (i + 1) by omega]
      exact hn (by simpa using hi)
end
end CW

namespace CW
open PySem L2
/-! ### states -/
structure Good (K : PySem.W.Frag) (G H : Hp) (ω : Ow) (σ : Sl) (ρ : List D) : Prop where
  same : Same G H
  out : ∀ b, ω b ≠ none → G b = none
  live : ∀ b, ω b ≠ none → H b ≠ none
  len : σ.length = ρ.length
  sl : ∀ i d, ρ[i]? = some d → d = .any ∨ ∃ v, σ[i]? = some (some v) ∧ Own K G H ω [i] d v
structure Tr (ω ω' : Ow) (G H G' H' : Hp) : Prop where
  gs : Same G G'
  keep : ∀ b o, H b = some o → ω b = none → H' b = some o
  gnew : ∀ b, G' b ≠ none → G b ≠ none ∨ H b = none ∨ ω b ≠ none
  fnew : ∀ b, ω' b ≠ none → H b = none ∨ ω b ≠ none
section
variable {K : PySem.W.Frag} {G H G' H' G'' H'' : Hp} {ω ω' ω'' : Ow} {σ τ : Sl} {ρ δ : List D}
theorem Tr.refl : Tr ω ω G H G H := ⟨Same.refl _, fun _ _ e _ => e, fun _ h => .inl h, fun _ h => .inr h⟩
theorem Tr.trans (a : Tr ω ω' G H G' H') (b : Tr ω' ω'' G' H' G'' H'') : Tr ω ω'' G H G'' H'' where
  gs := a.gs.trans b.gs
  keep := fun c o e h => b.keep c o (a.keep c o e h) (by
    cases q : ω' c with
    | none => rfl
    | some p =>
      rcases a.fnew c (by rw [q]; simp) with z | z
      · rw [e] at z; cases z
      · exact absurd h z)
  gnew := fun c h => by
    have back : H' c = none → H c = none ∨ ω c ≠ none := fun z => by
      cases q : H c with
      | none => exact .inl rfl
      | some o =>
        cases q2 : ω c with
        | none => rw [a.keep c o q q2] at z; cases z
        | some p => exact .inr (by simp)
    rcases b.gnew c h with z | z | z
    · exact a.gnew c z
    · exact .inr (back z)
    · exact .inr (a.fnew c z)
  fnew := fun c h => by
    have back : H' c = none → H c = none ∨ ω c ≠ none := fun z => by
      cases q : H c with
      | none => exact .inl rfl
      | some o =>
        cases q2 : ω c with
        | none => rw [a.keep c o q q2] at z; cases z
        | some p => exact .inr (by simp)
    rcases b.fnew c h with z | z
    · exact back z
    · exact a.fnew c z
/-- forget the last -/
theorem Good.pop {ov : Option V} {d : D} (g : Good K G H ω (σ ++ [ov]) (ρ ++ [d])) : Good K G H ω σ ρ := by
  have hl : σ.length = ρ.length := by have := g.len; simp at this; exact this
  refine ⟨g.same, g.out, g.live, hl, fun i d' e => ?_⟩
  have hi : i < ρ.length := (List.getElem?_eq_some_iff.mp e).1
  rcases g.sl i d' (by rw [List.getElem?_append_left hi]; exact e) with z | ⟨v, e1, h⟩
  · exact .inl z
  · exact .inr ⟨v, by rw [List.getElem?_append_left (by omega)] at e1; exact e1, h⟩
/-- a frozen thing besides -/
theorem Good.pushF {d : D} {v : V} (g : Good K G H ω σ ρ) (h : Rep K G d v) : Good K G H ω (σ ++ [some v]) (ρ ++ [d]) := by
  refine ⟨g.same, g.out, g.live, by simp [g.len], fun i d' e => ?_⟩
  by_cases hi : i < ρ.length
  · rw [List.getElem?_append_left hi] at e
    rcases g.sl i d' e with z | ⟨v, e1, h⟩
    · exact .inl z
    · exact .inr ⟨v, by rw [List.getElem?_append_left (by rw [g.len]; exact hi)]; exact e1, h⟩
  · have hi2 : i = ρ.length := by
      have := (List.getElem?_eq_some_iff.mp e).1
      simp at this; omega
    subst hi2
    simp at e
    subst e
    exact .inr ⟨v, by rw [← g.len]; simp, Own.frz h⟩
theorem Good.pushAny {ov : Option V} (g : Good K G H ω σ ρ) : Good K G H ω (σ ++ [ov]) (ρ ++ [.any]) := by
  refine ⟨g.same, g.out, g.live, by simp [g.len], fun i d' e => ?_⟩
  by_cases hi : i < ρ.length
  · rw [List.getElem?_append_left hi] at e
    rcases g.sl i d' e with z | ⟨v, e1, h⟩
    · exact .inl z
    · exact .inr ⟨v, by rw [List.getElem?_append_left (by rw [g.len]; exact hi)]; exact e1, h⟩
  · have hi2 : i = ρ.length := by
      have := (List.getElem?_eq_some_iff.mp e).1
      simp at this; omega
    subst hi2
    simp at e
    exact .inl e.symm
/-- a new thing laid, given up at once -/
theorem Good.layF {p : Addr} {o : HO} (g : Good K G H ω σ ρ) (hp : H p = none) : Good K (upd G p o) (upd H p o) ω σ ρ ∧ Tr ω ω G H (upd G p o) (upd H p o) := by
  have gp : G p = none := g.same.free hp
  have wp : ω p = none := by
    cases q : ω p with
    | none => rfl
    | some z => exact absurd hp (g.live p (by rw [q]; simp))
  have s1 : Same G (upd G p o) := fun b x e => by rw [upd_ne (ne_of_none e gp)]; exact e
  have nw : ∀ b, ω b ≠ none → b ≠ p := fun b h e => by rw [e] at h; exact h wp
  refine ⟨⟨fun b x e => ?_, fun b h => by rw [upd_ne (nw b h)]; exact g.out b h, fun b h => by rw [upd_ne (nw b h)]; exact g.live b h, g.len, fun i d e => ?_⟩, s1, fun b x e _ => by rw [upd_ne (ne_of_none e hp)]; exact e, fun b h => ?_, fun b h => .inr h⟩
  · by_cases hb : b = p
    · subst hb; rw [upd_same] at e ⊢; exact e
    · rw [upd_ne hb] at e ⊢; exact g.same b x e
  · rcases g.sl i d e with z | ⟨v, e1, h⟩
    · exact .inl z
    · exact .inr ⟨v, e1, Own.move s1 _ _ (fun b r e => ⟨upd_ne (nw b (by rw [e]; simp)), e⟩) d v h⟩
  · by_cases hb : b = p
    · subst hb; exact .inr (.inl hp)
    · rw [upd_ne hb] at h; exact .inl h
/-- another owner map for the addresses that are not owned -/
def setO (ω : Ow) (p : Addr) (q : List Nat) : Ow := fun b => if b = p then some q else ω b
/-- a new thing laid, owned by the new last place -/
theorem Good.layO {p : Addr} {o : HO} {d : D} (g : Good K G H ω σ ρ) (hp : H p = none) (hd : Own K G (upd H p o) (setO ω p [ρ.length]) [ρ.length] d (.ref p)) :
    Good K G (upd H p o) (setO ω p [ρ.length]) (σ ++ [some (.ref p)]) (ρ ++ [d]) ∧ Tr ω (setO ω p [ρ.length]) G H G (upd H p o) := by
  have gp : G p = none := g.same.free hp
  have wp : ω p = none := by
    cases q : ω p with
    | none => rfl
    | some z => exact absurd hp (g.live p (by rw [q]; simp))
  have nw : ∀ b, ω b ≠ none → b ≠ p := fun b h e => by rw [e] at h; exact h wp
  have so : ∀ b, setO ω p [ρ.length] b ≠ none → b = p ∨ ω b ≠ none := fun b h => by
    by_cases hb : b = p
    · exact .inl hb
    · refine .inr ?_
      unfold setO at h
      rw [if_neg hb] at h
      exact h
  refine ⟨⟨fun b x e => ?_, fun b h => ?_, fun b h => ?_, by simp [g.len], fun i d' e => ?_⟩, Same.refl _, fun b x e _ => by rw [upd_ne (ne_of_none e hp)]; exact e, fun b h => .inl h, fun b h => ?_⟩
  · rw [upd_ne (ne_of_none e gp)]; exact g.same b x e
  · rcases so b h with z | z
    · rw [z]; exact gp
    · exact g.out b z
  · rcases so b h with z | z
    · rw [z, upd_same]; simp
    · rw [upd_ne (nw b z)]; exact g.live b z
  · by_cases hi : i < ρ.length
    · rw [List.getElem?_append_left hi] at e
      rcases g.sl i d' e with z | ⟨v, e1, h⟩
      · exact .inl z
      · refine .inr ⟨v, by rw [List.getElem?_append_left (by rw [g.len]; exact hi)]; exact e1, Own.move (Same.refl _) _ _ (fun b r e => ?_) d' v h⟩
        have nb := nw b (by rw [e]; simp)
        exact ⟨upd_ne nb, by unfold setO; rw [if_neg nb]; exact e⟩
    · have hi2 : i = ρ.length := by
        have := (List.getElem?_eq_some_iff.mp e).1
        simp at this; omega
      subst hi2
      simp at e
      subst e
      exact .inr ⟨.ref p, by rw [← g.len]; simp, hd⟩
  · rcases so b h with z | z
    · rw [z]; exact .inl hp
    · exact .inr z
end

/-! ### what may be read of a value -/
def VE (K : PySem.W.Frag) (G H : Hp) : D → V → Prop
  | .lst m ds, v => ∃ a vs, v = .ref a ∧ (match m with | .x => SqL K H a vs | _ => H a = some (.lst vs)) ∧ RepL K G ds vs
  | .dic m ks ds, v => ∃ a vs, v = .ref a ∧ H a = some (.dK (ks.zip vs)) ∧ ks.length = ds.length ∧ RepL K G ds vs
  | .ins C ns ds, v => ∃ a dx vs, v = .ref a ∧ H a = some (.ins C dx (ns.zip vs)) ∧ ns.length = ds.length ∧ vs.length = ds.length
  | d, v => Rep K G d v
section
variable {K : PySem.W.Frag} {G H G' H' : Hp} {ω : Ow} {p : List Nat}
theorem Rep.ve (s : Same G H) : ∀ {d : D} {v : V}, Rep K G d v → VE K G H d v
  | .lst m ds, v, h => by
    unfold Rep at h
    obtain ⟨a, vs, e, h1, h2⟩ := h
    refine ⟨a, vs, e, ?_, h2⟩
    cases m with
    | o => exact h1.elim
    | f => exact s _ _ h1
    | x => exact s.seq h1
  | .dic m ks ds, v, h => by
    unfold Rep at h
    obtain ⟨a, vs, e, _, h1, hl, h2⟩ := h
    exact ⟨a, vs, e, s _ _ h1, hl, h2⟩
  | .ins C ns ds, v, h => by unfold Rep at h; exact h.elim
  | .any, _, h => h
  | .non, _, h => h
  | .bl _, _, h => h
  | .int _, _, h => h
  | .str _, _, h => h
  | .tup _, _, h => h
theorem Own.ve (s : Same G H) {d : D} {v : V} (h : Own K G H ω p d v) : VE K G H d v := by
  cases d with
  | lst m ds =>
    unfold Own at h
    cases m with
    | o => obtain ⟨a, vs, e, h1, _, h3⟩ := h; exact ⟨a, vs, e, h1, h3⟩
    | f => exact Rep.ve s h
    | x => exact Rep.ve s h
  | dic m ks ds =>
    unfold Own at h
    cases m with
    | o => obtain ⟨a, vs, e, h1, _, hl, h3⟩ := h; exact ⟨a, vs, e, h1, hl, h3⟩
    | f => exact Rep.ve s h
    | x => exact Rep.ve s h
  | ins C ns ds =>
    unfold Own at h
    obtain ⟨a, dx, vs, e, h1, _, hl, h3⟩ := h
    exact ⟨a, dx, vs, e, h1, hl, h3.length.symm⟩
  | any => unfold Own at h; exact h
  | non => unfold Own at h; exact h
  | bl _ => unfold Own at h; exact h
  | int _ => unfold Own at h; exact h
  | str _ => unfold Own at h; exact h
  | tup _ => unfold Own at h; exact h
/-- frozen, or a scalar: what is read is what it is -/
theorem VE.sc {d : D} {v u : V} (e : scV d = some v) (h : VE K G H d u) : u = v := by
  cases d <;> simp [scV] at e <;> (subst e; unfold VE Rep at h; exact h)
end

abbrev VR (K : PySem.W.Frag) (G H : Hp) (d : D) (v : V) : Prop := VE K G H d v ∧ (isF d = true → Rep K G d v)
/-! ### judgements -/
/-- an expression that changes nothing -/
structure EQ (X : Cx) (e : Expr) (f : Env → Option D) : Prop where
  ex : ∃ te, PE X e te ∧ ∀ (G H : Hp) (ω : Ow) (σ τ : Sl) (ρ δ : List D) (d : D) (Q : VK), σ.length = ρ.length → Good X.K G H ω (σ ++ τ) (ρ ++ δ) → f ρ = some d → (∀ v, VR X.K G H d v → Q v H) → te σ H Q
/-- an expression: its value comes to the last place -/
structure EV (X : Cx) (e : Expr) (m : Env → Option (D × Env)) : Prop where
  ex : ∃ te, PE X e te ∧ ∀ (G H : Hp) (ω : Ow) (σ τ : Sl) (ρ δ : List D) (d : D) (ρ' : Env) (Q : VK), σ.length = ρ.length → Good X.K G H ω (σ ++ τ) (ρ ++ δ) → m ρ = some (d, ρ') →
    (∀ G' H' ω' v, Tr ω ω' G H G' H' → Good X.K G' H' ω' (σ ++ (τ ++ [some v])) (ρ' ++ (δ ++ [d])) → Q v H') → te σ H Q
/-- a test that changes nothing -/
structure TQ (X : Cx) (e : Expr) (f : Env → Option Bool) : Prop where
  ex : ∃ t, PT X e t ∧ ∀ (G H : Hp) (ω : Ow) (σ τ : Sl) (ρ δ : List D) (b : Bool) (Q : Bool → Hp → Prop), σ.length = ρ.length → Good X.K G H ω (σ ++ τ) (ρ ++ δ) → f ρ = some b → Q b H → t σ H Q
structure TV (X : Cx) (e : Expr) (m : Env → Option (Bool × Env)) : Prop where
  ex : ∃ t, PT X e t ∧ ∀ (G H : Hp) (ω : Ow) (σ τ : Sl) (ρ δ : List D) (b : Bool) (ρ' : Env) (Q : Bool → Hp → Prop), σ.length = ρ.length → Good X.K G H ω (σ ++ τ) (ρ ++ δ) → m ρ = some (b, ρ') →
    (∀ G' H' ω', Tr ω ω' G H G' H' → Good X.K G' H' ω' (σ ++ τ) (ρ' ++ δ) → Q b H') → t σ H Q
/-- several expressions from the left, their values at the last places -/
structure AV (X : Cx) (es : List Expr) (m : Env → Option (List D × Env)) : Prop where
  ex : ∃ t, PA X es t ∧ ∀ (G H : Hp) (ω : Ow) (σ τ : Sl) (ρ δ : List D) (ds : List D) (ρ' : Env) (Q : List V → Hp → Prop), σ.length = ρ.length → Good X.K G H ω (σ ++ τ) (ρ ++ δ) → m ρ = some (ds, ρ') →
    (∀ G' H' ω' vs, vs.length = ds.length → Tr ω ω' G H G' H' → Good X.K G' H' ω' (σ ++ (τ ++ vs.map some)) (ρ' ++ (δ ++ ds)) → Q vs H') → t σ H Q
structure AQ (X : Cx) (es : List Expr) (f : Env → Option (List D)) : Prop where
  ex : ∃ t, PA X es t ∧ ∀ (G H : Hp) (ω : Ow) (σ τ : Sl) (ρ δ : List D) (ds : List D) (Q : List V → Hp → Prop), σ.length = ρ.length → Good X.K G H ω (σ ++ τ) (ρ ++ δ) → f ρ = some ds →
    (∀ vs, Paired (VR X.K G H) ds vs → Q vs H) → t σ H Q

section
variable {X : Cx} {e a b : Expr} {pos : Pos}
theorem lens {σ τ : Sl} {ρ ρ' δ : List D} {K : PySem.W.Frag} {G H G' H' : Hp} {ω ω' : Ow} {ov : List (Option V)} {ds : List D} (g : Good K G H ω (σ ++ τ) (ρ ++ δ)) (g' : Good K G' H' ω' (σ ++ (τ ++ ov)) (ρ' ++ (δ ++ ds))) (h : ov.length = ds.length) (hl : σ.length = ρ.length) : σ.length = ρ'.length := by
  have h1 := g.len
  have h2 := g'.len
  simp only [List.length_append] at h1 h2
  omega
theorem Good.last {K : PySem.W.Frag} {G H : Hp} {ω : Ow} {σ τ : Sl} {ρ δ : List D} {v : V} {d : D} (g : Good K G H ω (σ ++ (τ ++ [some v])) (ρ ++ (δ ++ [d]))) : VE K G H d v ∧ (isF d = true → Rep K G d v) := by
  have hl := g.len
  simp only [List.length_append, List.length_cons, List.length_nil] at hl
  have e1 : (ρ ++ (δ ++ [d]))[ρ.length + δ.length]? = some d := by
    rw [List.getElem?_append_right (by omega), List.getElem?_append_right (by omega)]
    simp
  have e2 : (σ ++ (τ ++ [some v]))[ρ.length + δ.length]? = some (some v) := by
    rw [← List.append_assoc, show ρ.length + δ.length = (σ ++ τ).length by simp; omega, List.getElem?_append_right (Nat.le_refl _)]
    simp
  rcases g.sl _ d e1 with z | ⟨u, e3, h⟩
  · subst z
    exact ⟨by unfold VE Rep; trivial, fun z => by simp [isF] at z⟩
  · rw [e2] at e3
    cases e3
    exact ⟨h.ve g.same, fun z => h.rep z⟩
theorem Good.drop1 {K : PySem.W.Frag} {G H : Hp} {ω : Ow} {σ τ : Sl} {ρ δ : List D} {ov : Option V} {d : D} (g : Good K G H ω (σ ++ (τ ++ [ov])) (ρ ++ (δ ++ [d]))) : Good K G H ω (σ ++ τ) (ρ ++ δ) := by
  rw [← List.append_assoc, ← List.append_assoc] at g
  exact g.pop
theorem Good.add1 {K : PySem.W.Frag} {G H : Hp} {ω : Ow} {σ τ : Sl} {ρ δ : List D} {d : D} {v : V} (g : Good K G H ω (σ ++ τ) (ρ ++ δ)) (h : Rep K G d v) : Good K G H ω (σ ++ (τ ++ [some v])) (ρ ++ (δ ++ [d])) := by
  rw [← List.append_assoc, ← List.append_assoc]
  exact g.pushF h
/-- quiet, not owned at the top -/
def vQ (f : Env → Option D) : Env → Option (D × Env) := fun ρ => match f ρ with
  | some d => if isF d = true then some (d, ρ) else none
  | none => none
theorem EQ.ev {f : Env → Option D} (h : EQ X e f) : EV X e (vQ f) := by
  obtain ⟨te, hp, hs⟩ := h.ex
  refine ⟨te, hp, fun G H ω σ τ ρ δ d ρ' Q hl g e q => ?_⟩
  unfold vQ at e
  split at e
  · rename_i d' e1
    split at e
    · rename_i hf
      cases e
      exact hs G H ω σ τ ρ δ d Q hl g e1 fun v hv => q G H ω v Tr.refl (g.add1 (hv.2 hf))
    · cases e
  · cases e
end
end CW

namespace CW
open PySem L2
theorem VR.sc {K : PySem.W.Frag} {G H : Hp} {d : D} {v : V} (e : scV d = some v) : VR K G H d v := by
  cases d <;> simp [scV] at e <;> (subst e; exact ⟨by unfold VE Rep; rfl, fun _ => by unfold Rep; rfl⟩)
theorem Rep.vr {K : PySem.W.Frag} {G H : Hp} {d : D} {v : V} (s : Same G H) (h : Rep K G d v) : VR K G H d v := ⟨h.ve s, fun _ => h⟩

/-! ### names, constants -/
/-- the data at a place of the frame -/
def rdS (i : Nat) : Env → Option D := fun ρ => match ρ[i]? with
  | some .any => none
  | r => r
theorem rdS_some {i : Nat} {ρ : Env} {d : D} (h : rdS i ρ = some d) : ρ[i]? = some d ∧ d ≠ .any := by
  unfold rdS at h
  split at h
  · cases h
  · rename_i q
    exact ⟨h, fun z => q (by rw [h, z])⟩
theorem Good.at {K : PySem.W.Frag} {G H : Hp} {ω : Ow} {σ τ : Sl} {ρ δ : List D} {i : Nat} {d : D} (g : Good K G H ω (σ ++ τ) (ρ ++ δ)) (hl : σ.length = ρ.length) (e : rdS i ρ = some d) : ∃ v, σ[i]? = some (some v) ∧ Own K G H ω [i] d v := by
  obtain ⟨e1, hne⟩ := rdS_some e
  have hi : i < ρ.length := (List.getElem?_eq_some_iff.mp e1).1
  rcases g.sl i d (by rw [List.getElem?_append_left hi]; exact e1) with z | ⟨v, e2, h⟩
  · exact absurd z hne
  · exact ⟨v, by rw [List.getElem?_append_left (by omega)] at e2; exact e2, h⟩
section
variable {X : Cx} {e a b : Expr} {pos : Pos}
theorem eq_name (i : Nat) {x : Str} (h : PE X (.Name x pos) (tVar i)) : EQ X (.Name x pos) (rdS i) := by
  refine ⟨_, h, fun G H ω σ τ ρ δ d Q hl g e q => ?_⟩
  obtain ⟨v, e1, h1⟩ := g.at hl e
  exact ⟨v, e1, q v ⟨h1.ve g.same, fun z => h1.rep z⟩⟩
def cst (d : D) : Env → Option D := fun _ => some d
theorem eq_c {d : D} {v : V} (h : PE X e (tC v)) (hv : scV d = some v) : EQ X e (cst d) := by
  refine ⟨_, h, fun G H ω σ τ ρ δ d' Q hl g e q => ?_⟩
  have e9 : d = d' := Option.some.inj e
  subst e9
  show Q v H
  exact q v (VR.sc hv)
theorem eq_int {i : Int} {j : Nat} : EQ X (.Constant (.int i) j pos) (cst (.int i)) := eq_c pe_int rfl
theorem eq_bl {i : Bool} {j : Nat} : EQ X (.Constant (.bool i) j pos) (cst (.bl i)) := eq_c pe_bl rfl
theorem eq_non {j : Nat} : EQ X (.Constant .none j pos) (cst .non) := eq_c pe_non rfl
theorem eq_str {i : Str} {j : Nat} : EQ X (.Constant (.str i) j pos) (cst (.str i)) := eq_c pe_str rfl
/-- one of two -/
def orM {α : Type} (f g : Env → Option α) : Env → Option α := fun ρ => match f ρ with
  | some d => some d
  | none => g ρ
theorem orM_some {α : Type} {f g : Env → Option α} {ρ : Env} {d : α} (h : orM f g ρ = some d) : f ρ = some d ∨ g ρ = some d := by
  unfold orM at h
  split at h
  · rename_i d' e; cases h; exact .inl e
  · exact .inr h
theorem PE.or {t u : TE} (h : PE X e t) (h' : PE X e u) : PE X e (fun σ H Q => t σ H Q ∨ u σ H Q) :=
  ⟨fun pins s σ H Q I z => z.elim (h.run pins s σ H Q I) (h'.run pins s σ H Q I)⟩
theorem EQ.or {f g : Env → Option D} (h : EQ X e f) (h' : EQ X e g) : EQ X e (orM f g) := by
  obtain ⟨t, p, s⟩ := h.ex
  obtain ⟨u, p', s'⟩ := h'.ex
  refine ⟨_, PE.or p p', fun G H ω σ τ ρ δ d Q hl gd e q => ?_⟩
  rcases orM_some e with e | e
  · exact .inl (s G H ω σ τ ρ δ d Q hl gd e q)
  · exact .inr (s' G H ω σ τ ρ δ d Q hl gd e q)
theorem EV.or {f g : Env → Option (D × Env)} (h : EV X e f) (h' : EV X e g) : EV X e (orM f g) := by
  obtain ⟨t, p, s⟩ := h.ex
  obtain ⟨u, p', s'⟩ := h'.ex
  refine ⟨_, PE.or p p', fun G H ω σ τ ρ δ d ρ' Q hl gd e q => ?_⟩
  rcases orM_some e with e | e
  · exact .inl (s G H ω σ τ ρ δ d ρ' Q hl gd e q)
  · exact .inr (s' G H ω σ τ ρ δ d ρ' Q hl gd e q)

/-! ### fields -/
def fldD (C : Addr) (f : Str) : D → Option D
  | .ins C' ns ds => if C' = C then (match (ns.zip ds).lookup f with | some .any => none | r => r) else none
  | _ => none
theorem zip_own {K : PySem.W.Frag} {G H : Hp} {ω : Ow} {p : List Nat} {f : Str} {d : D} : ∀ {ns : List Str} {ds : List D} {vs : List V} {k : Nat}, OwnL K G H ω p k ds vs → (ns.zip ds).lookup f = some d → ∃ j v, (ns.zip vs).lookup f = some v ∧ vs[j]? = some v ∧ ds[j]? = some d ∧ Own K G H ω (p ++ [k + j]) d v
  | [], _, _, _, _, e => by simp at e
  | n :: ns, [], _, _, _, e => by simp at e
  | n :: ns, d0 :: ds, vs, k, h, e => by
    unfold OwnL at h
    obtain ⟨v, r, rfl, h1, h2⟩ := h
    simp only [List.zip_cons_cons, List.lookup_cons] at e ⊢
    cases hb : f == n with
    | true =>
      rw [hb] at e
      simp at e
      subst e
      exact ⟨0, v, by simp, rfl, rfl, h1⟩
    | false =>
      rw [hb] at e
      simp at e
      obtain ⟨j, u, e1, e2, e3, e4⟩ := zip_own h2 e
      refine ⟨j + 1, u, by simpa using e1, by simpa using e2, by simpa using e3, ?_⟩
      rw [show k + (j + 1) = k + 1 + j by omega]
      exact e4
def rdF (i : Nat) (C : Addr) (f : Str) : Env → Option D := fun ρ => match rdS i ρ with
  | some d => fldD C f d
  | none => none
theorem fldD_some {C : Addr} {f : Str} {d0 d : D} (h : fldD C f d0 = some d) : ∃ ns ds, d0 = .ins C ns ds ∧ (ns.zip ds).lookup f = some d ∧ d ≠ .any := by
  cases d0 with
  | ins C' ns ds =>
    simp only [fldD] at h
    by_cases hc : C' = C
    · subst hc
      rw [if_pos rfl] at h
      split at h
      · cases h
      · rename_i q
        exact ⟨ns, ds, rfl, h, fun z => q (by rw [h, z])⟩
    · rw [if_neg hc] at h; cases h
  | _ => simp [fldD] at h
theorem eq_fld {x f : Str} {C : Addr} {i : Nat} {pos' : Pos} (h : PE X (.Name x pos') (tVar i)) (cl : Cls X.K C) (na : NoAttr X.K C f) (hb : attributeBase (.Name x pos') f X.env (eval (.Name x pos') X.env) = eval (.Name x pos') X.env := by rfl) :
    EQ X (.Attribute (.Name x pos') f pos) (rdF i C f) := by
  refine ⟨_, pe_fld h hb, fun G H ω σ τ ρ δ d Q hl g e q => ?_⟩
  unfold rdF at e
  split at e
  · rename_i d0 e0
    obtain ⟨ns, ds, rfl, e1, hne⟩ := fldD_some e
    obtain ⟨v, e2, h1⟩ := g.at hl e0
    unfold Own at h1
    obtain ⟨a, dx, vs, rfl, h2, _, hlen, h3⟩ := h1
    obtain ⟨j, u, e3, _, _, h4⟩ := zip_own h3 e1
    exact ⟨_, e2, a, C, dx, _, u, rfl, h2, cl, na, e3, q u ⟨h4.ve g.same, fun z => h4.rep z⟩⟩
  · cases e

/-! ### operators on two quiet things -/
/-- what a quiet operator gives -/
def QOp (K : PySem.W.Frag) (r : R2) (F : D → D → Option D) : Prop := ∀ (G H : Hp) (d1 d2 d : D) (v1 v2 : V) (Q : VK), Same G H → VR K G H d1 v1 → VR K G H d2 v2 → F d1 d2 = some d → (∀ v, VR K G H d v → Q v H) → r v1 v2 H Q
def op2 (F : D → D → Option D) (f g : Env → Option D) : Env → Option D := fun ρ => match f ρ with
  | some x => (match g ρ with
    | some y => F x y
    | none => none)
  | none => none
theorem eq_op {r : R2} {F : D → D → Option D} {f g : Env → Option D} (hr : QOp X.K r F) (ha : EQ X a f) (hb : EQ X b g) (hp : ∀ {ta tb : TE}, PE X a ta → PE X b tb → PE X e (tOp r ta tb)) : EQ X e (op2 F f g) := by
  obtain ⟨ta, pa, sa⟩ := ha.ex
  obtain ⟨tb, pb, sb⟩ := hb.ex
  refine ⟨_, hp pa pb, fun G H ω σ τ ρ δ d Q hl gd e q => ?_⟩
  unfold op2 at e
  split at e
  · rename_i x ex
    split at e
    · rename_i y ey
      refine sa G H ω σ τ ρ δ x _ hl gd ex fun v1 h1 => ?_
      refine sb G H ω σ τ ρ δ y _ hl gd ey fun v2 h2 => ?_
      exact hr G H x y d v1 v2 Q gd.same h1 h2 e fun v hv => q v hv
    · cases e
  · cases e
theorem VR.eqS {K : PySem.W.Frag} {G H : Hp} {d : D} {v u : V} (h : VR K G H d v) (e : scV d = some u) : v = u := VE.sc e h.1
/-- ints to an int -/
def opI (C : Int → Int → Bool) (f : Int → Int → D) : D → D → Option D
  | .int i, .int j => if C i j = true then some (f i j) else none
  | _, _ => none
theorem q_opI {K : PySem.W.Frag} {P : Int → Int → Prop} {C : Int → Int → Bool} {f : Int → Int → D} {g : Int → Int → V} (hC : ∀ i j, C i j = true → P i j) (hf : ∀ i j, scV (f i j) = some (g i j)) : QOp K (rI P g) (opI C f) := by
  intro G H d1 d2 d v1 v2 Q s h1 h2 e q
  cases d1 <;> cases d2 <;> simp only [opI] at e <;> try (cases e; done)
  rename_i i j
  split at e
  · rename_i hc
    cases e
    exact ⟨i, j, h1.eqS rfl, h2.eqS rfl, hC i j hc, q _ (VR.sc (hf i j))⟩
  · cases e
theorem q_opI0 {K : PySem.W.Frag} {f : Int → Int → D} {g : Int → Int → V} (hf : ∀ i j, scV (f i j) = some (g i j)) : QOp K (rI0 g) (opI (fun _ _ => true) f) := by
  intro G H d1 d2 d v1 v2 Q s h1 h2 e q
  cases d1 <;> cases d2 <;> simp only [opI] at e <;> try (cases e; done)
  rename_i i j
  simp at e
  subst e
  exact ⟨i, j, h1.eqS rfl, h2.eqS rfl, q _ (VR.sc (hf i j))⟩
abbrev addI : D → D → Option D := opI (fun _ _ => true) fun i j => .int (i + j)
abbrev subI : D → D → Option D := opI (fun _ _ => true) fun i j => .int (i - j)
abbrev mulI : D → D → Option D := opI (fun i j => decide (-2 ^ 64 < i ∧ i < 2 ^ 64 ∨ -2 ^ 64 < j ∧ j < 2 ^ 64)) fun i j => .int (i * j)
abbrev divI : D → D → Option D := opI (fun _ j => decide (0 < j ∧ j < 1073741824)) fun i j => .int (i / j)
abbrev modI : D → D → Option D := opI (fun _ j => decide (0 < j)) fun i j => .int (i % j)
abbrev powI : D → D → Option D := opI (fun i j => decide (0 ≤ j ∧ j ≤ 1000000 ∧ i.natAbs < 2 ^ 64)) fun i j => .int (i ^ j.toNat)
variable {f g : Env → Option D}
theorem eq_add (ha : EQ X a f) (hb : EQ X b g) : EQ X (.BinOp a .Add b pos) (op2 addI f g) := eq_op (q_opI0 fun _ _ => rfl) ha hb fun p q => pe_op op_add p q
theorem eq_sub (ha : EQ X a f) (hb : EQ X b g) : EQ X (.BinOp a .Sub b pos) (op2 subI f g) := eq_op (q_opI0 fun _ _ => rfl) ha hb fun p q => pe_op op_sub p q
theorem eq_mul (ha : EQ X a f) (hb : EQ X b g) : EQ X (.BinOp a .Mult b pos) (op2 mulI f g) := eq_op (q_opI (fun _ _ h => of_decide_eq_true h) fun _ _ => rfl) ha hb fun p q => pe_op op_mul p q
theorem eq_div (ha : EQ X a f) (hb : EQ X b g) : EQ X (.BinOp a .FloorDiv b pos) (op2 divI f g) := eq_op (q_opI (P := CDiv) (fun i j h => (of_decide_eq_true h : (0 < j ∧ j < 1073741824))) fun _ _ => rfl) ha hb fun p q => pe_op op_fdiv p q
theorem eq_mod (ha : EQ X a f) (hb : EQ X b g) : EQ X (.BinOp a .Mod b pos) (op2 modI f g) := eq_op (q_opI (fun _ _ h => of_decide_eq_true h) fun _ _ => rfl) ha hb fun p q => pe_op op_mod p q
theorem eq_pow (ha : EQ X a f) (hb : EQ X b g) : EQ X (.BinOp a .Pow b pos) (op2 powI f g) := eq_op (q_opI (P := CPow) (fun i j h => (of_decide_eq_true h : (0 ≤ j ∧ j ≤ 1000000 ∧ i.natAbs < 2 ^ 64))) fun _ _ => rfl) ha hb fun p q => pe_op op_pow p q
def negI : D → Option D
  | .int i => some (.int (-i))
  | _ => none
def un1 (F : D → Option D) (f : Env → Option D) : Env → Option D := fun ρ => match f ρ with
  | some x => F x
  | none => none
theorem eq_neg (ha : EQ X a f) : EQ X (.UnaryOp .USub a pos) (un1 negI f) := by
  obtain ⟨ta, pa, sa⟩ := ha.ex
  refine ⟨_, pe_un un_neg pa, fun G H ω σ τ ρ δ d Q hl gd e q => ?_⟩
  unfold un1 at e
  split at e
  · rename_i x ex
    refine sa G H ω σ τ ρ δ x _ hl gd ex fun v1 h1 => ?_
    cases x <;> simp only [negI] at e <;> try (cases e; done)
    cases e
    exact ⟨_, VR.eqS h1 rfl, q _ (VR.sc rfl)⟩
  · cases e
abbrev ltI : D → D → Option D := opI (fun _ _ => true) fun i j => .bl (decide (i < j))
abbrev leI : D → D → Option D := opI (fun _ _ => true) fun i j => .bl (decide (i ≤ j))
abbrev gtI : D → D → Option D := opI (fun _ _ => true) fun i j => .bl (decide (j < i))
abbrev geI : D → D → Option D := opI (fun _ _ => true) fun i j => .bl (decide (j ≤ i))
/-- the bool that comes -/
def asB (h : Env → Option D) : Env → Option Bool := fun ρ => match h ρ with
  | some (.bl c) => some c
  | _ => none
theorem TQ.or {f g : Env → Option Bool} (h : TQ X e f) (h' : TQ X e g) : TQ X e (orM f g) := by
  obtain ⟨t, p, s⟩ := h.ex
  obtain ⟨u, p', s'⟩ := h'.ex
  refine ⟨_, (⟨fun pins s σ H Q I z => z.elim (p.run pins s σ H Q I) (p'.run pins s σ H Q I)⟩ : PT X e (fun σ H Q => t σ H Q ∨ u σ H Q)), fun G H ω σ τ ρ δ d Q hl gd e q => ?_⟩
  rcases orM_some e with e | e
  · exact .inl (s G H ω σ τ ρ δ d Q hl gd e q)
  · exact .inr (s' G H ω σ τ ρ δ d Q hl gd e q)
theorem TQ.eq {f g : Env → Option Bool} (h : TQ X e f) (hf : ∀ ρ b, g ρ = some b → f ρ = some b) : TQ X e g := by
  obtain ⟨t, p, s⟩ := h.ex
  exact ⟨t, p, fun G H ω σ τ ρ δ d Q hl gd e q => s G H ω σ τ ρ δ d Q hl gd (hf ρ d e) q⟩
/-- a comparison, as a value and as a test -/
structure EC (X : Cx) (op : CmpOp) (a b : Expr) (h : Env → Option D) : Prop where
  val : ∀ pos, EQ X (.Compare a [op] [b] pos) h
  tst : ∀ pos, TQ X (.Compare a [op] [b] pos) (asB h)
theorem ec_op {op : CmpOp} {r : R2} {F : D → D → Option D} (ho : OpR X (compareOp op) r) (hr : QOp X.K r F) (ha : EQ X a f) (hb : EQ X b g) (hm : behindInMarks op b = false) : EC X op a b (op2 F f g) where
  val := fun pos => eq_op hr ha hb fun p q => pe_cmpR ho p q hm
  tst := fun pos => by
    obtain ⟨ta, pa, sa⟩ := ha.ex
    obtain ⟨tb, pb, sb⟩ := hb.ex
    refine ⟨_, pt_cmpR ho pa pb hm, fun G H ω σ τ ρ δ c Q hl gd e q => ?_⟩
    unfold asB at e
    split at e
    · rename_i c' ec
      cases e
      unfold op2 at ec
      split at ec
      · rename_i x ex
        split at ec
        · rename_i y ey
          refine sa G H ω σ τ ρ δ x _ hl gd ex fun v1 h1 => ?_
          refine sb G H ω σ τ ρ δ y _ hl gd ey fun v2 h2 => ?_
          exact hr G H x y _ v1 v2 _ gd.same h1 h2 ec fun v hv => ⟨c, hv.eqS rfl, q⟩
        · cases ec
      · cases ec
    · cases e
theorem ec_pc {op : CmpOp} {r : R2} {F : D → D → Option D} (hr : QOp X.K r F) (ha : EQ X a f) (hb : EQ X b g) (hp : ∀ {ta tb : TE}, PE X a ta → PE X b tb → PC X op a b (tOp r ta tb)) (hm : behindInMarks op b = false) : EC X op a b (op2 F f g) where
  val := fun pos => eq_op hr ha hb fun p q => pe_cmp (hp p q) hm
  tst := fun pos => by
    obtain ⟨ta, pa, sa⟩ := ha.ex
    obtain ⟨tb, pb, sb⟩ := hb.ex
    refine ⟨_, pt_cmp (hp pa pb) hm, fun G H ω σ τ ρ δ c Q hl gd e q => ?_⟩
    unfold asB at e
    split at e
    · rename_i c' ec
      cases e
      unfold op2 at ec
      split at ec
      · rename_i x ex
        split at ec
        · rename_i y ey
          refine sa G H ω σ τ ρ δ x _ hl gd ex fun v1 h1 => ?_
          refine sb G H ω σ τ ρ δ y _ hl gd ey fun v2 h2 => ?_
          exact hr G H x y _ v1 v2 _ gd.same h1 h2 ec fun v hv => ⟨c, hv.eqS rfl, q⟩
        · cases ec
      · cases ec
    · cases e
theorem EC.or {op : CmpOp} {h h' : Env → Option D} (x : EC X op a b h) (y : EC X op a b h') : EC X op a b (orM h h') where
  val := fun pos => (x.val pos).or (y.val pos)
  tst := fun pos => ((x.tst pos).or (y.tst pos)).eq fun ρ c e => by
    unfold asB orM at e
    unfold orM asB
    cases q : h ρ with
    | none => rw [q] at e; exact e
    | some d => rw [q] at e; cases d <;> first | (cases e; done) | (cases e; rfl)
theorem ec_lt (ha : EQ X a f) (hb : EQ X b g) : EC X .Lt a b (op2 ltI f g) := ec_op op_lt (q_opI0 fun _ _ => rfl) ha hb (nomark _)
theorem ec_le (ha : EQ X a f) (hb : EQ X b g) : EC X .LtE a b (op2 leI f g) := ec_op op_le (q_opI0 fun _ _ => rfl) ha hb (nomark _)
theorem ec_gt (ha : EQ X a f) (hb : EQ X b g) : EC X .Gt a b (op2 gtI f g) := ec_op op_gt (q_opI0 fun _ _ => rfl) ha hb (nomark _)
theorem ec_ge (ha : EQ X a f) (hb : EQ X b g) : EC X .GtE a b (op2 geI f g) := ec_op op_ge (q_opI0 fun _ _ => rfl) ha hb (nomark _)
end
end CW

namespace CW
open PySem L2
/-! ### equality -/
mutual
def toP : D → Option PyData
  | .non => some .none
  | .bl b => some (.bool b)
  | .int i => some (.int i)
  | .str x => some (.str x)
  | .tup ds => (toPs ds).map .tuple
  | .lst _ ds => (toPs ds).map .list
  | _ => none
def toPs : List D → Option (List PyData)
  | [] => some []
  | d :: ds => match toP d, toPs ds with
    | some p, some ps => some (p :: ps)
    | _, _ => none
end
section
variable {K : PySem.W.Frag} {G H : Hp}
mutual
theorem rep_dp : ∀ (d : D) (v : V) (p : PyData), Rep K H d v → toP d = some p → Dp K H v p
  | .non, v, p, h, e => by unfold Rep at h; unfold toP at e; cases e; subst h; exact .non
  | .bl b, v, p, h, e => by unfold Rep at h; unfold toP at e; cases e; subst h; exact .bl b
  | .int i, v, p, h, e => by unfold Rep at h; unfold toP at e; cases e; subst h; exact .int i
  | .str x, v, p, h, e => by unfold Rep at h; unfold toP at e; cases e; subst h; exact .str x
  | .tup ds, v, p, h, e => by
    unfold Rep at h
    unfold toP at e
    obtain ⟨a, vs, rfl, h1, h2⟩ := h
    cases q : toPs ds with
    | none => rw [q] at e; cases e
    | some ps => rw [q] at e; cases e; exact .tup h1 (reps_dp ds vs ps h2 q)
  | .lst m ds, v, p, h, e => by
    unfold Rep at h
    unfold toP at e
    obtain ⟨a, vs, rfl, h1, h2⟩ := h
    cases q : toPs ds with
    | none => rw [q] at e; cases e
    | some ps =>
      rw [q] at e; cases e
      refine .lst ?_ (reps_dp ds vs ps h2 q)
      cases m with
      | o => exact h1.elim
      | f => exact SqL.of h1
      | x => exact h1
  | .any, _, _, _, e => by unfold toP at e; cases e
  | .dic _ _ _, _, _, _, e => by unfold toP at e; cases e
  | .ins _ _ _, _, _, _, e => by unfold toP at e; cases e
theorem reps_dp : ∀ (ds : List D) (vs : List V) (ps : List PyData), RepL K H ds vs → toPs ds = some ps → DpAll K H vs ps
  | [], vs, ps, h, e => by unfold RepL at h; unfold toPs at e; cases e; subst h; exact .nil
  | d :: ds, vs, ps, h, e => by
    unfold RepL at h
    unfold toPs at e
    obtain ⟨v, r, rfl, h1, h2⟩ := h
    split at e
    · rename_i p ps' e1 e2
      cases e
      exact .cons (rep_dp d v p h1 e1) (reps_dp ds r ps' h2 e2)
    · cases e
end
theorem vr_dp {d : D} {v : V} {p : PyData} (s : Same G H) (h : VR K G H d v) (e : toP d = some p) : Dp K H v p := by
  by_cases hf : isF d = true
  · exact rep_dp d v p (Rep.mono s d v (h.2 hf)) e
  · cases d with
    | lst m ds =>
      cases m with
      | o =>
        obtain ⟨a, vs, rfl, h1, h2⟩ := h.1
        unfold toP at e
        cases q : toPs ds with
        | none => rw [q] at e; cases e
        | some ps => rw [q] at e; cases e; exact .lst (SqL.of h1) (reps_dp ds vs ps (RepL.mono s ds vs h2) q)
      | f => simp [isF] at hf
      | x => simp [isF] at hf
    | any => unfold toP at e; cases e
    | dic _ _ _ => unfold toP at e; cases e
    | ins _ _ _ => unfold toP at e; cases e
    | _ => simp [isF] at hf
end
def deepEq (d e : D) : Option Bool := match toP d, toP e with
  | some p, some q => if SeqAt.shaped p = true ∧ SeqAt.shaped q = true then some (PyData.eqv p q) else none
  | _, _ => none
/-- d == e -/
def eqB : D → D → Option Bool
  | .int i, .int j => some (decide (i = j))
  | .str i, .str j => some (decide (i = j))
  | .bl i, .bl j => some (decide (i = j))
  | .non, .non => some true
  | .non, .int _ => some false
  | .int _, .non => some false
  | .non, .bl _ => some false
  | .bl _, .non => some false
  | .non, .str _ => some false
  | .str _, .non => some false
  | .int _, .str _ => some false
  | .str _, .int _ => some false
  | .bl _, .str _ => some false
  | .str _, .bl _ => some false
  | d, e => deepEq d e
def eqD (d e : D) : Option D := (eqB d e).map .bl
def neD (d e : D) : Option D := (eqB d e).map fun b => .bl (!b)
section
variable {X : Cx} {e a b : Expr} {pos : Pos} {f g : Env → Option D}
theorem OpR.or {h : Value → Value → Sem Value} {r r' : R2} (x : OpR X h r) (y : OpR X h r') : OpR X h (fun v u H Q => r v u H Q ∨ r' v u H Q) :=
  fun pins s σ H v u a b Q I q1 q2 z => z.elim (x pins s σ H v u a b Q I q1 q2) (y pins s σ H v u a b Q I q1 q2)
theorem eq_cases {K : PySem.W.Frag} {G H : Hp} {d1 d2 : D} {v1 v2 : V} {b : Bool} (s : Same G H) (h1 : VR K G H d1 v1) (h2 : VR K G H d2 v2) (e : eqB d1 d2 = some b) :
    (scal v1 v2 = true ∧ decide (v1 = v2) = b) ∨ ∃ p q, Dp K H v1 p ∧ Dp K H v2 q ∧ SeqAt.shaped p = true ∧ SeqAt.shaped q = true ∧ PyData.eqv p q = b := by
  have deep : deepEq d1 d2 = some b → ∃ p q, Dp K H v1 p ∧ Dp K H v2 q ∧ SeqAt.shaped p = true ∧ SeqAt.shaped q = true ∧ PyData.eqv p q = b := fun e => by
    unfold deepEq at e
    split at e
    · rename_i p q e1 e2
      split at e
      · rename_i hs
        cases e
        exact ⟨p, q, vr_dp s h1 e1, vr_dp s h2 e2, hs.1, hs.2, rfl⟩
      · cases e
    · cases e
  unfold eqB at e
  split at e
  all_goals first
    | exact .inr (deep e)
    | (cases e
       refine .inl ?_
       rw [h1.eqS rfl, h2.eqS rfl]
       refine ⟨rfl, ?_⟩
       simp)
theorem q_eq {K : PySem.W.Frag} : QOp K (fun x y H Q => rEq x y H Q ∨ rEqD K x y H Q) eqD := by
  intro G H d1 d2 d v1 v2 Q s h1 h2 e q
  unfold eqD at e
  cases eb : eqB d1 d2 with
  | none => rw [eb] at e; cases e
  | some c =>
    rw [eb] at e
    cases e
    have qq : Q (.bl c) H := q _ (VR.sc rfl)
    rcases eq_cases s h1 h2 eb with ⟨z1, z2⟩ | ⟨p, p', z1, z2, z3, z4, z5⟩
    · exact .inl ⟨z1, by rw [z2]; exact qq⟩
    · exact .inr ⟨p, p', z1, z2, z3, z4, by rw [z5]; exact qq⟩
theorem q_ne {K : PySem.W.Frag} : QOp K (fun x y H Q => rNe x y H Q ∨ rNeD K x y H Q) neD := by
  intro G H d1 d2 d v1 v2 Q s h1 h2 e q
  unfold neD at e
  cases eb : eqB d1 d2 with
  | none => rw [eb] at e; cases e
  | some c =>
    rw [eb] at e
    cases e
    have qq : Q (.bl (!c)) H := q _ (VR.sc rfl)
    rcases eq_cases s h1 h2 eb with ⟨z1, z2⟩ | ⟨p, p', z1, z2, z3, z4, z5⟩
    · exact .inl ⟨z1, by rw [z2]; exact qq⟩
    · exact .inr ⟨p, p', z1, z2, z3, z4, by rw [z5]; exact qq⟩
theorem ec_eq (hu : X.A.units + 64 < cLine) (ha : EQ X a f) (hb : EQ X b g) : EC X .Eq a b (op2 eqD f g) := ec_op (OpR.or op_eq (op_eqD hu)) q_eq ha hb (nomark _)
theorem ec_ne (hu : X.A.units + 64 < cLine) (ha : EQ X a f) (hb : EQ X b g) : EC X .NotEq a b (op2 neD f g) := ec_op (OpR.or op_ne (op_neD hu)) q_ne ha hb (nomark _)

/-! ### is None -/
def isND : D → Option Bool
  | .non => some true
  | .any => none
  | _ => some false
def isNo (x y : D) : Option D := match y with
  | .non => (isND x).map .bl
  | _ => none
def notNo (x y : D) : Option D := match y with
  | .non => (isND x).map fun b => .bl (!b)
  | _ => none
theorem isN_ok {K : PySem.W.Frag} {G H : Hp} {d : D} {v : V} {b : Bool} (h : VR K G H d v) (e : isND d = some b) : decide (v = .non) = b := by
  cases d with
  | non => cases e; rw [h.eqS rfl]; rfl
  | any => cases e
  | bl _ => cases e; rw [h.eqS rfl]; rfl
  | int _ => cases e; rw [h.eqS rfl]; rfl
  | str _ => cases e; rw [h.eqS rfl]; rfl
  | tup ds => cases e; obtain ⟨a, vs, rfl, _⟩ := (show Rep K G (.tup ds) v from h.1); rfl
  | lst m ds => cases e; obtain ⟨a, vs, rfl, _⟩ := h.1; rfl
  | dic m ks ds => cases e; obtain ⟨a, vs, rfl, _⟩ := h.1; rfl
  | ins C ns ds => cases e; obtain ⟨a, dx, vs, rfl, _⟩ := h.1; rfl
theorem q_isN {K : PySem.W.Frag} : QOp K (fun x y H Q => y = V.non ∧ Q (V.bl (decide (x = V.non))) H) isNo := by
  intro G H d1 d2 d v1 v2 Q s h1 h2 e q
  cases d2 <;> simp only [isNo] at e <;> try (cases e; done)
  cases eb : isND d1 with
  | none => rw [eb] at e; cases e
  | some c =>
    rw [eb] at e
    cases e
    refine ⟨h2.eqS rfl, ?_⟩
    rw [isN_ok h1 eb]
    exact q _ (VR.sc rfl)
theorem q_notN {K : PySem.W.Frag} : QOp K (fun x y H Q => y = V.non ∧ Q (V.bl (!decide (x = V.non))) H) notNo := by
  intro G H d1 d2 d v1 v2 Q s h1 h2 e q
  cases d2 <;> simp only [notNo] at e <;> try (cases e; done)
  cases eb : isND d1 with
  | none => rw [eb] at e; cases e
  | some c =>
    rw [eb] at e
    cases e
    refine ⟨h2.eqS rfl, ?_⟩
    rw [isN_ok h1 eb]
    exact q _ (VR.sc rfl)
theorem ec_isN (ha : EQ X a f) (hb : EQ X b g) : EC X .Is a b (op2 isNo f g) := ec_op op_isN q_isN ha hb (nomark _)
theorem ec_notN (ha : EQ X a f) (hb : EQ X b g) : EC X .IsNot a b (op2 notNo f g) := ec_op op_notN q_notN ha hb (nomark _)

/-! ### in, items -/
def scVs : List D → Option (List V)
  | [] => some []
  | d :: ds => match scV d, scVs ds with
    | some v, some vs => some (v :: vs)
    | _, _ => none
theorem scV_flat {d : D} {v : V} (e : scV d = some v) : flatV v = true := by
  cases d <;> simp [scV] at e <;> (subst e; rfl)
theorem scVs_ok {K : PySem.W.Frag} {G : Hp} : ∀ {ds : List D} {vs us : List V}, RepL K G ds vs → scVs ds = some us → vs = us ∧ us.all flatV = true
  | [], vs, us, h, e => by unfold RepL at h; unfold scVs at e; cases e; exact ⟨h, rfl⟩
  | d :: ds, vs, us, h, e => by
    unfold RepL at h
    unfold scVs at e
    obtain ⟨v, r, rfl, h1, h2⟩ := h
    split at e
    · rename_i u us' e1 e2
      cases e
      obtain ⟨q1, q2⟩ := scVs_ok h2 e2
      rw [q1, sc_rep e1 h1]
      exact ⟨rfl, by rw [List.all_cons, scV_flat e1, q2]; rfl⟩
    · cases e
/-- x in a list, a tuple of scalars -/
def inB (x : D) (ds : List D) : Option Bool := match scV x, scVs ds with
  | some v, some vs => some (inV v vs)
  | _, _ => none
def keyD : D → Option Key
  | .int i => some (.inl i)
  | .str x => some (.inr x)
  | _ => none
def lk (k : Key) : List Key → List D → Option D
  | k0 :: ks, d :: ds => if k0 = k then some d else lk k ks ds
  | _, _ => none
def hasK (k : Key) (ks : List Key) : Bool := ks.any fun k0 => decide (k0 = k)
theorem keyD_ok {K : PySem.W.Frag} {G H : Hp} {d : D} {v : V} {k : Key} (h : VR K G H d v) (e : keyD d = some k) : v = kV k := by
  cases d <;> simp only [keyD] at e <;> first | (cases e; done) | (cases e; rw [h.eqS rfl]; rfl)
theorem lk_ok {K : PySem.W.Frag} {G : Hp} {k : Key} : ∀ {ks : List Key} {ds : List D} {vs : List V}, RepL K G ds vs → ks.length = ds.length →
    (∀ d, lk k ks ds = some d → ∃ v, valV (ks.zip vs) k = some v ∧ Rep K G d v) ∧ (lk k ks ds = none → valV (ks.zip vs) k = none) ∧ ((valV (ks.zip vs) k).isSome = hasK k ks)
  | [], ds, vs, h, hl => by
    refine ⟨fun d e => (by unfold lk at e; cases e), fun _ => (by simp [valV]), (by simp [valV, hasK])⟩
  | k0 :: ks, [], vs, h, hl => by simp at hl
  | k0 :: ks, d0 :: ds, vs, h, hl => by
    unfold RepL at h
    obtain ⟨v, r, rfl, h1, h2⟩ := h
    have ih := lk_ok (k := k) (ks := ks) h2 (by simpa using hl)
    have ev : valV ((k0 :: ks).zip (v :: r)) k = if k0 = k then some v else valV (ks.zip r) k := by
      simp only [valV, List.zip_cons_cons, List.find?_cons]
      by_cases hk : k0 = k
      · simp [hk]
      · simp [hk]
    rw [ev]
    unfold lk hasK
    by_cases hk : k0 = k
    · simp only [if_pos hk]
      refine ⟨fun d e => ?_, fun e => (by cases e), (by simp [hk])⟩
      cases e
      exact ⟨v, rfl, h1⟩
    · simp only [if_neg hk]
      refine ⟨ih.1, ih.2.1, ?_⟩
      rw [ih.2.2]
      simp [hk, hasK]
def rDIn : R2 := fun y x H Q => ∃ a o, x = .ref a ∧ DGet H a y o ∧ Q (.bl o.isSome) H
def rDNotIn : R2 := fun y x H Q => ∃ a o, x = .ref a ∧ DGet H a y o ∧ Q (.bl (!o.isSome)) H
theorem seq_of {K : PySem.W.Frag} {G H : Hp} {d : D} {ds : List D} {v : V} (s : Same G H) (hd : (∃ m, d = .lst m ds) ∨ d = .tup ds) (h : VR K G H d v) : ∃ p xs, v = .ref p ∧ (SqL K H p xs ∨ SqT K H p xs) ∧ RepL K G ds xs := by
  rcases hd with ⟨m, rfl⟩ | rfl
  · obtain ⟨a, vs, rfl, h1, h2⟩ := h.1
    refine ⟨a, vs, rfl, .inl ?_, h2⟩
    cases m with
    | o => exact SqL.of h1
    | f => exact SqL.of h1
    | x => exact h1
  · have h1 : Rep K G (.tup ds) v := h.1
    unfold Rep at h1
    obtain ⟨a, vs, rfl, h1, h2⟩ := h1
    exact ⟨a, vs, rfl, .inr (Same.seqT s h1), h2⟩
/-- the items of a list, a tuple -/
def itemsD : D → Option (List D)
  | .lst _ ds => some ds
  | .tup ds => some ds
  | _ => none
theorem itemsD_some {d : D} {ds : List D} (e : itemsD d = some ds) : (∃ m, d = .lst m ds) ∨ d = .tup ds := by
  cases d <;> simp [itemsD] at e
  · exact .inr (by rw [e])
  · exact .inl ⟨_, by rw [e]⟩
def inS (x y : D) : Option Bool := match itemsD y with
  | some ds => inB x ds
  | none => none
def inK (x : D) : D → Option Bool
  | .dic _ ks _ => (keyD x).map fun k => hasK k ks
  | _ => none
theorem inS_ok {K : PySem.W.Frag} {G H : Hp} {d1 d2 : D} {v1 v2 : V} {c : Bool} (s : Same G H) (h1 : VR K G H d1 v1) (h2 : VR K G H d2 v2) (e : inS d1 d2 = some c) :
    ∃ p xs, v2 = .ref p ∧ (SqL K H p xs ∨ SqT K H p xs) ∧ flatV v1 = true ∧ xs.all flatV = true ∧ inV v1 xs = c := by
  unfold inS at e
  split at e
  · rename_i ds ed
    obtain ⟨p, xs, z1, hs, hr⟩ := seq_of s (itemsD_some ed) h2
    unfold inB at e
    split at e
    · rename_i v vs e1 e2
      have e3 : inV v vs = c := Option.some.inj e
      obtain ⟨q1, q2⟩ := scVs_ok hr e2
      subst q1
      exact ⟨p, xs, z1, hs, by rw [h1.eqS e1]; exact scV_flat e1, q2, by rw [h1.eqS e1]; exact e3⟩
    · cases e
  · cases e
theorem inK_ok {K : PySem.W.Frag} {G H : Hp} {d1 d2 : D} {v1 v2 : V} {c : Bool} (h1 : VR K G H d1 v1) (h2 : VR K G H d2 v2) (e : inK d1 d2 = some c) : ∃ a o, v2 = .ref a ∧ DGet H a v1 o ∧ o.isSome = c := by
  cases d2 with
  | dic m ks ds =>
    unfold inK at e
    cases ek : keyD d1 with
    | none => rw [ek] at e; cases e
    | some k =>
      rw [ek] at e
      cases e
      obtain ⟨a, vs, rfl, q1, q2, q3⟩ := h2.1
      refine ⟨a, _, rfl, ?_, (lk_ok (k := k) q3 q2).2.2⟩
      rw [keyD_ok h1 ek]
      exact DGet.k q1
  | _ => simp [inK] at e
def posD (h : D → D → Option Bool) (x y : D) : Option D := (h x y).map .bl
def negD (h : D → D → Option Bool) (x y : D) : Option D := (h x y).map fun b => .bl (!b)
theorem map_bl {o : Option Bool} {g : Bool → Bool} {d : D} (e : o.map (fun b => D.bl (g b)) = some d) : ∃ c, o = some c ∧ d = .bl (g c) := by
  cases o with
  | none => cases e
  | some c => exact ⟨c, rfl, (Option.some.inj e).symm⟩
theorem ec_inS (ha : EQ X a f) (hb : EQ X b g) (hm : behindInMarks .In b = false := by rfl) : EC X .In a b (op2 (posD inS) f g) := ec_op op_in_seq (fun G H d1 d2 d v1 v2 Q s h1 h2 e q => by
  obtain ⟨c, ec, rfl⟩ := map_bl (g := id) e
  obtain ⟨p, xs, z1, z2, z3, z4, z5⟩ := inS_ok s h1 h2 ec
  exact ⟨p, xs, z1, z2, z3, z4, by rw [if_neg Bool.false_ne_true, z5]; exact q _ (VR.sc rfl)⟩) ha hb hm
theorem ec_notInS (ha : EQ X a f) (hb : EQ X b g) (hm : behindInMarks .NotIn b = false := by rfl) : EC X .NotIn a b (op2 (negD inS) f g) := ec_op op_notIn_seq (fun G H d1 d2 d v1 v2 Q s h1 h2 e q => by
  obtain ⟨c, ec, rfl⟩ := map_bl e
  obtain ⟨p, xs, z1, z2, z3, z4, z5⟩ := inS_ok s h1 h2 ec
  exact ⟨p, xs, z1, z2, z3, z4, by rw [if_pos rfl, z5]; exact q _ (VR.sc rfl)⟩) ha hb hm
theorem ec_inK (hu : X.A.units + 1 < cLine) (ha : EQ X a f) (hb : EQ X b g) (hm : behindInMarks .In b = false := by rfl) : EC X .In a b (op2 (posD inK) f g) := ec_pc (r := rDIn) (fun G H d1 d2 d v1 v2 Q s h1 h2 e q => by
  obtain ⟨c, ec, rfl⟩ := map_bl (g := id) e
  obtain ⟨p, o, z1, z2, z3⟩ := inK_ok h1 h2 ec
  exact ⟨p, o, z1, z2, by rw [z3]; exact q _ (VR.sc rfl)⟩) ha hb (fun p q => pc_din hu p q) hm
theorem ec_notInK (hu : X.A.units + 1 < cLine) (ha : EQ X a f) (hb : EQ X b g) (hm : behindInMarks .NotIn b = false := by rfl) : EC X .NotIn a b (op2 (negD inK) f g) := ec_pc (r := rDNotIn) (fun G H d1 d2 d v1 v2 Q s h1 h2 e q => by
  obtain ⟨c, ec, rfl⟩ := map_bl e
  obtain ⟨p, o, z1, z2, z3⟩ := inK_ok h1 h2 ec
  exact ⟨p, o, z1, z2, by rw [z3]; exact q _ (VR.sc rfl)⟩) ha hb (fun p q => pc_dnotin hu p q) hm
/-- x in y, a list, a tuple or a dict -/
theorem ec_in (hu : X.A.units + 1 < cLine) (ha : EQ X a f) (hb : EQ X b g) (hm : behindInMarks .In b = false := by rfl) : EC X .In a b (orM (op2 (posD inS) f g) (op2 (posD inK) f g)) := (ec_inS ha hb hm).or (ec_inK hu ha hb hm)
theorem ec_notIn (hu : X.A.units + 1 < cLine) (ha : EQ X a f) (hb : EQ X b g) (hm : behindInMarks .NotIn b = false := by rfl) : EC X .NotIn a b (orM (op2 (negD inS) f g) (op2 (negD inK) f g)) := (ec_notInS ha hb hm).or (ec_notInK hu ha hb hm)

/-! ### items by a place, by a key -/
def ixD (x y : D) : Option D := match itemsD x, y with
  | some ds, .int i => (match atI ds i with | some .any => none | r => r)
  | _, _ => none
theorem atI_ok {K : PySem.W.Frag} {G : Hp} {ds : List D} {vs : List V} {i : Int} {d : D} (h : RepL K G ds vs) (e : atI ds i = some d) : ∃ v, atI vs i = some v ∧ Rep K G d v := by
  unfold atI at e ⊢
  rw [← h.length]
  cases q : ixN ds.length i with
  | none => rw [q] at e; cases e
  | some j =>
    rw [q] at e
    exact h.get e
def rIxS (K : PySem.W.Frag) : R2 := fun x y H Q => rIxL K x y H Q ∨ rIxT K x y H Q
theorem IxR.or {r r' : R2} (x : IxR X r) (y : IxR X r') : IxR X (fun v u H Q => r v u H Q ∨ r' v u H Q) :=
  fun va sl pins s σ H v u a b Q I q1 q2 z w => z.elim (fun z => x va sl pins s σ H v u a b Q I q1 q2 z w) (fun z => y va sl pins s σ H v u a b Q I q1 q2 z w)
theorem q_ixS {K : PySem.W.Frag} : QOp K (fun v u H Q => rIxL K v u H Q ∨ rIxT K v u H Q) ixD := by
  intro G H d1 d2 d v1 v2 Q s h1 h2 e q
  unfold ixD at e
  split at e
  · rename_i ds i ed
    obtain ⟨p, xs, z1, hs, hr⟩ := seq_of s (itemsD_some ed) h1
    have ea : atI ds i = some d := by
      split at e
      · cases e
      · exact e
    obtain ⟨v, e1, hv⟩ := atI_ok hr ea
    have qq := q v (hv.vr s)
    rcases hs with hs | hs
    · exact .inl ⟨p, xs, i, v, z1, h2.eqS rfl, hs, e1, qq⟩
    · exact .inr ⟨p, xs, i, v, z1, h2.eqS rfl, hs, e1, qq⟩
  · cases e
theorem eq_ixS (ha : EQ X a f) (hb : EQ X b g) (hs : PlainIx b := by intro _ _; rfl) : EQ X (.Subscript a b pos) (op2 ixD f g) := eq_op q_ixS ha hb fun p q => pe_ix (IxR.or ix_list ix_tup) p q hs
def ixK (x y : D) : Option D := match x with
  | .dic _ ks ds => (match keyD y with | some k => (match lk k ks ds with | some .any => none | r => r) | none => none)
  | _ => none
def rDG : R2 := fun x y H Q => ∃ a v, x = .ref a ∧ DGet H a y (some v) ∧ Q v H
theorem ixK_ok {K : PySem.W.Frag} {G H : Hp} {d1 d2 d : D} {v1 v2 : V} (h1 : VR K G H d1 v1) (h2 : VR K G H d2 v2) (e : ixK d1 d2 = some d) : ∃ a v, v1 = .ref a ∧ DGet H a v2 (some v) ∧ Rep K G d v := by
  cases d1 with
  | dic m ks ds =>
    unfold ixK at e
    simp only at e
    cases ek : keyD d2 with
    | none => rw [ek] at e; cases e
    | some k =>
      rw [ek] at e
      simp only at e
      have el : lk k ks ds = some d := by
        split at e
        · cases e
        · exact e
      obtain ⟨a, vs, rfl, q1, q2, q3⟩ := h1.1
      obtain ⟨v, ev, hv⟩ := (lk_ok (k := k) q3 q2).1 d el
      refine ⟨a, v, rfl, ?_, hv⟩
      rw [keyD_ok h2 ek, ← ev]
      exact DGet.k q1
  | _ => simp [ixK] at e
theorem q_ixK {K : PySem.W.Frag} : QOp K rDG ixK := by
  intro G H d1 d2 d v1 v2 Q s h1 h2 e q
  obtain ⟨a, v, z1, z2, hv⟩ := ixK_ok h1 h2 e
  exact ⟨a, v, z1, z2, q v (hv.vr s)⟩
theorem eq_ixK (hu : X.A.units + 1 < cLine) (ha : EQ X a f) (hb : EQ X b g) (hs : NoSl b := by intro _ _; rfl) : EQ X (.Subscript a b pos) (op2 ixK f g) := eq_op q_ixK ha hb fun p q => pe_dget hu p q hs
theorem eq_ix (hu : X.A.units + 1 < cLine) (ha : EQ X a f) (hb : EQ X b g) (hs : PlainIx b := by intro _ _; rfl) : EQ X (.Subscript a b pos) (orM (op2 ixD f g) (op2 ixK f g)) := (eq_ixS ha hb hs).or (eq_ixK hu ha hb hs)
end
end CW

namespace CW
open PySem L2
section
variable {X : Cx} {e a b : Expr} {pos : Pos} {f g : Env → Option D} {rest : List Expr}
/-! ### tests -/
def truthD : D → Option Bool
  | .non => some false
  | .bl b => some b
  | .int i => some (i != 0)
  | .tup ds => some (!ds.isEmpty)
  | .lst _ ds => some (!ds.isEmpty)
  | .dic _ ks _ => some (!ks.isEmpty)
  | _ => none
theorem RepL.emp {K : PySem.W.Frag} {G : Hp} {ds : List D} {vs : List V} (h : RepL K G ds vs) : vs.isEmpty = ds.isEmpty := by
  have := h.length
  cases ds <;> cases vs <;> simp_all
theorem truth_ok {K : PySem.W.Frag} {G H : Hp} {d : D} {v : V} {c : Bool} (s : Same G H) (h : VR K G H d v) (e : truthD d = some c) : TruV K v H c := by
  cases d with
  | non => cases e; rw [h.eqS rfl]; rfl
  | bl b => cases e; rw [h.eqS rfl]; rfl
  | int i => cases e; rw [h.eqS rfl]; rfl
  | tup ds =>
    cases e
    obtain ⟨p, xs, rfl, hs, hr⟩ := seq_of s (.inr rfl) h
    rcases hs with hs | hs
    · exact .inl ⟨xs, hs, by rw [hr.emp]⟩
    · exact .inr (.inl ⟨xs, hs, by rw [hr.emp]⟩)
  | lst m ds =>
    cases e
    obtain ⟨p, xs, rfl, hs, hr⟩ := seq_of s (.inl ⟨m, rfl⟩) h
    rcases hs with hs | hs
    · exact .inl ⟨xs, hs, by rw [hr.emp]⟩
    · exact .inr (.inl ⟨xs, hs, by rw [hr.emp]⟩)
  | dic m ks ds =>
    cases e
    obtain ⟨p, vs, rfl, h1, hl, hr⟩ := h.1
    refine .inr (.inr ⟨_, h1, ?_⟩)
    have := hr.length
    cases ks with
    | nil => simp
    | cons k ks =>
      cases vs with
      | nil =>
        rw [this] at hl
        cases hl
      | cons v vs => simp
  | _ => simp [truthD] at e
def bindB {α : Type} (f : Env → Option α) (t : α → Option Bool) : Env → Option Bool := fun ρ => match f ρ with
  | some d => t d
  | none => none
theorem tq_truth (ha : EQ X a f) (he : ∀ whole, isTrue a X.env whole = (do let v ← whole; standAt a.pos; holding [v] (truthy v)) := by intro _; rfl) : TQ X a (bindB f truthD) := by
  obtain ⟨ta, pa, sa⟩ := ha.ex
  refine ⟨_, pt_truth pa he, fun G H ω σ τ ρ δ c Q hl gd e q => ?_⟩
  unfold bindB at e
  split at e
  · rename_i d ed
    exact sa G H ω σ τ ρ δ d _ hl gd ed fun v hv => ⟨c, truth_ok gd.same hv e, q⟩
  · cases e
def notB (f : Env → Option Bool) : Env → Option Bool := fun ρ => (f ρ).map not
def andB (f g : Env → Option Bool) : Env → Option Bool := fun ρ => match f ρ with
  | some true => g ρ
  | r => r
def orB (f g : Env → Option Bool) : Env → Option Bool := fun ρ => match f ρ with
  | some false => g ρ
  | r => r
variable {tf tg : Env → Option Bool}
theorem tq_not (ha : TQ X a tf) : TQ X (.UnaryOp .Not a pos) (notB tf) := by
  obtain ⟨ta, pa, sa⟩ := ha.ex
  refine ⟨_, pt_not pa, fun G H ω σ τ ρ δ c Q hl gd e q => ?_⟩
  unfold notB at e
  cases ef : tf ρ with
  | none => rw [ef] at e; cases e
  | some b =>
    rw [ef] at e
    cases e
    exact sa G H ω σ τ ρ δ b _ hl gd ef q
structure WQ (X : Cx) (e : Expr) (f : Env → Option Bool) : Prop where
  ex : ∃ t, PW X e t ∧ ∀ (G H : Hp) (ω : Ow) (σ τ : Sl) (ρ δ : List D) (b : Bool) (Q : Bool → Hp → Prop), σ.length = ρ.length → Good X.K G H ω (σ ++ τ) (ρ ++ δ) → f ρ = some b → Q b H → t σ H Q
theorem WQ.tq (h : WQ X e tf) : TQ X e tf := by
  obtain ⟨t, p, s⟩ := h.ex
  exact ⟨t, p.pt, s⟩
theorem wq_and1 (ha : TQ X a tf) : WQ X (.BoolOp .And [a] pos) tf := by
  obtain ⟨t, p, s⟩ := ha.ex
  exact ⟨t, pw_and1 p, s⟩
theorem wq_or1 (ha : TQ X a tf) : WQ X (.BoolOp .Or [a] pos) tf := by
  obtain ⟨t, p, s⟩ := ha.ex
  exact ⟨t, pw_or1 p, s⟩
theorem wq_and (ha : TQ X a tf) (hb : WQ X (.BoolOp .And (b :: rest) pos) tg) : WQ X (.BoolOp .And (a :: b :: rest) pos) (andB tf tg) := by
  obtain ⟨t, p, s⟩ := ha.ex
  obtain ⟨t', p', s'⟩ := hb.ex
  refine ⟨_, pw_and p p', fun G H ω σ τ ρ δ c Q hl gd e q => ?_⟩
  unfold andB at e
  cases ef : tf ρ with
  | none => rw [ef] at e; cases e
  | some x =>
    rw [ef] at e
    refine s G H ω σ τ ρ δ x _ hl gd ef ?_
    cases x with
    | true => exact iteT (s' G H ω σ τ ρ δ c Q hl gd e q)
    | false => cases e; exact iteF q
theorem wq_or (ha : TQ X a tf) (hb : WQ X (.BoolOp .Or (b :: rest) pos) tg) : WQ X (.BoolOp .Or (a :: b :: rest) pos) (orB tf tg) := by
  obtain ⟨t, p, s⟩ := ha.ex
  obtain ⟨t', p', s'⟩ := hb.ex
  refine ⟨_, pw_or p p', fun G H ω σ τ ρ δ c Q hl gd e q => ?_⟩
  unfold orB at e
  cases ef : tf ρ with
  | none => rw [ef] at e; cases e
  | some x =>
    rw [ef] at e
    refine s G H ω σ τ ρ δ x _ hl gd ef ?_
    cases x with
    | false => exact iteF (s' G H ω σ τ ρ δ c Q hl gd e q)
    | true => cases e; exact iteT q
/-- a if t else b -/
def ifD {α : Type} (t : Env → Option Bool) (f g : Env → Option α) : Env → Option α := fun ρ => match t ρ with
  | some true => f ρ
  | some false => g ρ
  | none => none
theorem eq_if {c : Expr} (hc : TQ X c tf) (ha : EQ X a f) (hb : EQ X b g) : EQ X (.IfExp c a b pos) (ifD tf f g) := by
  obtain ⟨t, p, s⟩ := hc.ex
  obtain ⟨ta, pa, sa⟩ := ha.ex
  obtain ⟨tb, pb, sb⟩ := hb.ex
  refine ⟨_, pe_ifExp p pa pb, fun G H ω σ τ ρ δ d Q hl gd e q => ?_⟩
  unfold ifD at e
  cases ef : tf ρ with
  | none => rw [ef] at e; cases e
  | some x =>
    rw [ef] at e
    refine s G H ω σ τ ρ δ x _ hl gd ef ?_
    cases x with
    | true => exact iteT (sa G H ω σ τ ρ δ d Q hl gd e q)
    | false => exact iteF (sb G H ω σ τ ρ δ d Q hl gd e q)
/-- and, or of bools, as values -/
def andV (f g : Env → Option D) : Env → Option D := fun ρ => match f ρ with
  | some (.bl true) => g ρ
  | some (.bl false) => some (.bl false)
  | _ => none
def orV (f g : Env → Option D) : Env → Option D := fun ρ => match f ρ with
  | some (.bl false) => g ρ
  | some (.bl true) => some (.bl true)
  | _ => none
theorem eq_one {op} (ha : EQ X a f) : EQ X (.BoolOp op [a] pos) f := by
  obtain ⟨ta, pa, sa⟩ := ha.ex
  exact ⟨ta, pe_one pa, sa⟩
theorem eq_and (ha : EQ X a f) (hb : EQ X (.BoolOp .And (b :: rest) pos) g) : EQ X (.BoolOp .And (a :: b :: rest) pos) (andV f g) := by
  obtain ⟨ta, pa, sa⟩ := ha.ex
  obtain ⟨tb, pb, sb⟩ := hb.ex
  refine ⟨_, pe_and pa pb, fun G H ω σ τ ρ δ d Q hl gd e q => ?_⟩
  unfold andV at e
  split at e
  · rename_i ef
    exact sa G H ω σ τ ρ δ _ _ hl gd ef fun v hv => ⟨true, hv.eqS rfl, iteT (sb G H ω σ τ ρ δ d Q hl gd e q)⟩
  · rename_i ef
    cases e
    exact sa G H ω σ τ ρ δ _ _ hl gd ef fun v hv => ⟨false, hv.eqS rfl, iteF (q _ (VR.sc rfl))⟩
  · cases e
theorem eq_or (ha : EQ X a f) (hb : EQ X (.BoolOp .Or (b :: rest) pos) g) : EQ X (.BoolOp .Or (a :: b :: rest) pos) (orV f g) := by
  obtain ⟨ta, pa, sa⟩ := ha.ex
  obtain ⟨tb, pb, sb⟩ := hb.ex
  refine ⟨_, pe_or pa pb, fun G H ω σ τ ρ δ d Q hl gd e q => ?_⟩
  unfold orV at e
  split at e
  · rename_i ef
    exact sa G H ω σ τ ρ δ _ _ hl gd ef fun v hv => ⟨false, hv.eqS rfl, iteF (sb G H ω σ τ ρ δ d Q hl gd e q)⟩
  · rename_i ef
    cases e
    exact sa G H ω σ τ ρ δ _ _ hl gd ef fun v hv => ⟨true, hv.eqS rfl, iteT (q _ (VR.sc rfl))⟩
  · cases e
def notD : D → Option D
  | .bl b => some (.bl (!b))
  | _ => none
theorem eq_not (ha : EQ X a f) : EQ X (.UnaryOp .Not a pos) (un1 notD f) := by
  obtain ⟨ta, pa, sa⟩ := ha.ex
  refine ⟨_, pe_not pa, fun G H ω σ τ ρ δ d Q hl gd e q => ?_⟩
  unfold un1 at e
  split at e
  · rename_i x ex
    refine sa G H ω σ τ ρ δ x _ hl gd ex fun v1 h1 => ?_
    cases x <;> simp only [notD] at e <;> try (cases e; done)
    cases e
    exact ⟨_, VR.eqS h1 rfl, q _ (VR.sc rfl)⟩
  · cases e
/-! ### built-ins of one argument that change nothing -/
theorem eq_b1 {r : List V → Hp → VK → Prop} {F : D → Option D} (hr : ∀ (G H : Hp) (d1 d : D) (v1 : V) (Q : VK), Same G H → VR X.K G H d1 v1 → F d1 = some d → (∀ v, VR X.K G H d v → Q v H) → r [v1] H Q)
    (ha : EQ X a f) (hp : ∀ {t : TA}, PA X [a] t → PE X e (tCB r t)) (hs : starEach [a] X.env = (false, eval a X.env) :: starEach [] X.env := by rfl) : EQ X e (un1 F f) := by
  obtain ⟨ta, pa, sa⟩ := ha.ex
  refine ⟨_, hp (pa_cons pa pa_nil hs), fun G H ω σ τ ρ δ d Q hl gd e q => ?_⟩
  unfold un1 at e
  split at e
  · rename_i x ex
    exact sa G H ω σ τ ρ δ x _ hl gd ex fun v1 h1 => hr G H x d v1 Q gd.same h1 e q
  · cases e
def lenD : D → Option D
  | .lst _ ds => some (.int ds.length)
  | .tup ds => some (.int ds.length)
  | _ => none
theorem eq_len {p : Pos} (hg : Gl X "len") (hm : X.mg "len" = none) (ha : EQ X a f) (hs : starEach [a] X.env = (false, eval a X.env) :: starEach [] X.env := by rfl) : EQ X (.Call (.Name "len" p) [a] [] pos) (un1 lenD f) := by
  refine eq_b1 (fun G H d1 d v1 Q s h1 e q => ?_) ha (fun pa => pe_callB call_len_seq hg hm PySem.boot_len pa (by decide) (by decide) hs) hs
  have e' : ∃ ds, itemsD d1 = some ds ∧ d = .int ds.length := by
    cases d1 <;> simp only [lenD] at e <;> first | (cases e; done) | (cases e; exact ⟨_, rfl, rfl⟩)
  obtain ⟨ds, ed, rfl⟩ := e'
  obtain ⟨p, xs, z1, hs, hr⟩ := seq_of s (itemsD_some ed) h1
  exact ⟨p, xs, by rw [z1], hs, by rw [← hr.length]; exact q _ (VR.sc rfl)⟩
def rLenD : List V → Hp → VK → Prop := fun xs H Q => ∃ d kvs, xs = [V.ref d] ∧ H d = some (.dK kvs) ∧ Q (.int (kvs.length : Int)) H
def intD : D → Option D
  | .int i => some (.int i)
  | .bl b => some (.int (if b = true then 1 else 0))
  | _ => none
theorem eq_intc {p : Pos} (hg : Gl X "int") (hm : X.mg "int" = none) (ha : EQ X a f) (hs : starEach [a] X.env = (false, eval a X.env) :: starEach [] X.env := by rfl) : EQ X (.Call (.Name "int" p) [a] [] pos) (un1 intD f) := by
  refine eq_b1 (fun G H d1 d v1 Q s h1 e q => ?_) ha (fun pa => pe_callTy call_int1 hg hm PyProof.Rows.boot_int pa (by decide) (by decide) hs) hs
  cases d1 <;> simp only [intD] at e <;> first | (cases e; done) | skip
  · rename_i b
    cases e
    exact .inr ⟨b, by rw [h1.eqS rfl], q _ (VR.sc rfl)⟩
  · rename_i i
    cases e
    exact .inl ⟨i, by rw [h1.eqS rfl], q _ (VR.sc rfl)⟩
/-! ### isinstance -/
def tyD : D → Option String
  | .non => some "NoneType"
  | .bl _ => some "bool"
  | .int _ => some "int"
  | .str _ => some "str"
  | .tup _ => some "tuple"
  | .lst _ _ => some "list"
  | .dic _ _ _ => some "dict"
  | _ => none
theorem tyD_ok {K : PySem.W.Frag} {G H : Hp} {d : D} {v : V} {T : String} (s : Same G H) (h : VR K G H d v) (e : tyD d = some T) : TyX K H v (.type T) := by
  cases d with
  | non => cases e; rw [h.eqS rfl]; exact .base .non
  | bl _ => cases e; rw [h.eqS rfl]; exact .base (.bl _)
  | int _ => cases e; rw [h.eqS rfl]; exact .base (.int _)
  | str _ => cases e; rw [h.eqS rfl]; exact .base (.str _)
  | tup ds =>
    cases e
    have h1 : Rep K G (.tup ds) v := h.1
    unfold Rep at h1
    obtain ⟨a, vs, rfl, h1, h2⟩ := h1
    rcases Same.seqT s h1 with (z | ⟨o, z⟩) | ⟨o, its, n, z, c, _⟩
    · exact .base (.tup z)
    · exact .fTuple z
    · exact .kTuple z c
  | lst m ds =>
    cases e
    obtain ⟨a, vs, rfl, h1, h2⟩ := h.1
    have h3 : SqL K H a vs := by
      cases m with
      | o => exact SqL.of h1
      | f => exact SqL.of h1
      | x => exact h1
    rcases h3 with (z | ⟨o, z⟩) | ⟨o, its, n, z, c, _⟩
    · exact .base (.lst z)
    · exact .base (.frz z)
    · exact .kList z c
  | dic m ks ds =>
    cases e
    obtain ⟨a, vs, rfl, h1, _⟩ := h.1
    exact .base (.dK h1)
  | _ => simp [tyD] at e
/-- which built-in class is below which -/
def isTy (t T : String) : Option Bool := if t = T then some true else if t = "bool" ∧ T = "int" then some true else
  if (t = "NoneType" ∨ t = "bool" ∨ t = "int" ∨ t = "str" ∨ t = "tuple" ∨ t = "list" ∨ t = "dict") ∧ (T = "bool" ∨ T = "int" ∨ T = "str" ∨ T = "tuple" ∨ T = "list" ∨ T = "dict") then some false else none
theorem kit_isTy {K : PySem.W.Frag} {t T : String} {b : Bool} (e : isTy t T = some b) : PySem.W.kitOne K (.type t) (.type T) = some b := by
  unfold isTy at e
  by_cases h1 : t = T
  · rw [if_pos h1] at e
    cases e
    subst h1
    unfold PySem.W.kitOne
    simp
  · rw [if_neg h1] at e
    by_cases h2 : t = "bool" ∧ T = "int"
    · rw [if_pos h2] at e
      cases e
      obtain ⟨rfl, rfl⟩ := h2
      first | rfl | decide +kernel
    · rw [if_neg h2] at e
      split at e
      · rename_i h3
        cases e
        obtain ⟨h3, h4⟩ := h3
        rcases h3 with rfl | rfl | rfl | rfl | rfl | rfl | rfl <;> rcases h4 with rfl | rfl | rfl | rfl | rfl | rfl <;> first | exact absurd rfl h1 | exact absurd ⟨rfl, rfl⟩ h2 | rfl | decide +kernel
      · cases e
def isiD (T : String) (d : D) : Option D := match tyD d with
  | some t => (isTy t T).map .bl
  | none => none
theorem eq_isi {p pT : Pos} {T : String} {T' : Str} (hg : Gl X "isinstance") (hm : X.mg "isinstance" = none) (hT : PE X (.Name T' pT) (tC (.ty T))) (ha : EQ X a f)
    (hs : starEach [a, .Name T' pT] X.env = (false, eval a X.env) :: starEach [.Name T' pT] X.env := by rfl) (hs2 : starEach [.Name T' pT] X.env = (false, eval (.Name T' pT) X.env) :: starEach [] X.env := by rfl)
    (hpl : ((backTo pos (starEach [.Name T' pT] X.env)).any fun x => x.1) = false := by rfl) :
    EQ X (.Call (.Name "isinstance" p) [a, .Name T' pT] [] pos) (un1 (isiD T) f) := by
  obtain ⟨ta, pa, sa⟩ := ha.ex
  refine ⟨_, pe_callB call_isi hg hm PyProof.Rows.boot_isinstance (pa_cons pa (pa_cons hT pa_nil hs2) hs) (by decide) (by decide) hs hpl, fun G H ω σ τ ρ δ d Q hl gd e q => ?_⟩
  unfold un1 at e
  split at e
  · rename_i x ex
    refine sa G H ω σ τ ρ δ x _ hl gd ex fun v1 h1 => ?_
    unfold isiD at e
    split at e
    · rename_i t et
      obtain ⟨c, ec, rfl⟩ := map_bl (g := id) e
      exact ⟨v1, .ty T, .type t, .type T, c, rfl, .ty T, tyD_ok gd.same h1 et, kit_isTy ec, q _ (VR.sc rfl)⟩
    · cases e
  · cases e
end
end CW

namespace CW
open PySem L2
section
variable {K : PySem.W.Frag} {G H G' H' : Hp} {ω ω' : Ow} {σ τ σ2 : Sl} {ρ δ ρ2 : List D}
/-! ### states, further -/
theorem Good.pre (g : Good K G H ω (σ ++ σ2) (ρ ++ ρ2)) (hl : σ.length = ρ.length) : Good K G H ω σ ρ := by
  refine ⟨g.same, g.out, g.live, hl, fun i d' e => ?_⟩
  have hi : i < ρ.length := (List.getElem?_eq_some_iff.mp e).1
  rcases g.sl i d' (by rw [List.getElem?_append_left hi]; exact e) with z | ⟨v, e1, h⟩
  · exact .inl z
  · exact .inr ⟨v, by rw [List.getElem?_append_left (by omega)] at e1; exact e1, h⟩
/-- given up for good -/
def frz : D → Option D
  | .any => none
  | .ins _ _ _ => none
  | .lst .o ds => some (.lst .f ds)
  | .dic .o ks ds => some (.dic .f ks ds)
  | d => some d
theorem frz_F {d d' : D} (e : frz d = some d') : isF d' = true := by
  unfold frz at e
  split at e
  all_goals first | (cases e; done) | (cases e; rfl) | skip
  rename_i h1 h2 h3 h4
  cases e
  cases d with
  | any => exact absurd rfl h1
  | ins _ _ _ => exact absurd rfl (h2 _ _ _)
  | lst m ds => cases m with
    | o => exact absurd rfl (h3 _)
    | f => rfl
    | x => rfl
  | dic m ks ds => cases m with
    | o => exact absurd rfl (h4 _ _)
    | f => rfl
    | x => rfl
  | _ => rfl
theorem Good.freeze1 {i : Nat} {d d' : D} {a : Addr} {o : HO} (g : Good K G H ω σ ρ) (e : ρ[i]? = some d) (hs : σ[i]? = some (some (.ref a))) (ha : H a = some o) (hw : ω a = some [i]) (hd : Rep K (upd G a o) d' (.ref a)) :
    ∃ G' ω', Good K G' H ω' σ (ρ.set i d') ∧ Tr ω ω' G H G' H ∧ Rep K G' d' (.ref a) := by
  have ga : G a = none := g.out a (by rw [hw]; simp)
  have s1 : Same G (upd G a o) := fun b x e => by rw [upd_ne (ne_of_none e ga)]; exact e
  refine ⟨upd G a o, fun b => if b = a then none else ω b, ⟨fun b x e => ?_, fun b h => ?_, fun b h => ?_, by rw [List.length_set]; exact g.len, fun j dj ej => ?_⟩, ⟨s1, fun _ _ e _ => e, fun b h => ?_, fun b h => ?_⟩, hd⟩
  · by_cases hb : b = a
    · subst hb; rw [upd_same] at e; rw [← e]; exact ha
    · rw [upd_ne hb] at e; exact g.same b x e
  · by_cases hb : b = a
    · rw [if_pos hb] at h; exact absurd rfl h
    · rw [if_neg hb] at h; rw [upd_ne hb]; exact g.out b h
  · by_cases hb : b = a
    · rw [if_pos hb] at h; exact absurd rfl h
    · rw [if_neg hb] at h; exact g.live b h
  · by_cases hj : j = i
    · subst hj
      rw [List.getElem?_set_self ((List.getElem?_eq_some_iff.mp e).1)] at ej
      cases ej
      exact .inr ⟨.ref a, hs, Own.frz hd⟩
    · rw [List.getElem?_set_ne (Ne.symm hj)] at ej
      rcases g.sl j dj ej with z | ⟨v, e1, h⟩
      · exact .inl z
      · refine .inr ⟨v, e1, Own.move s1 _ _ (fun b r er => ⟨rfl, ?_⟩) dj v h⟩
        have hb : b ≠ a := fun z => by
          rw [z, hw] at er
          have : [i] = [j] ++ r := Option.some.inj er
          simp at this
          exact hj this.1.symm
        rw [if_neg hb]; exact er
  · by_cases hb : b = a
    · subst hb; exact .inr (.inr (by rw [hw]; simp))
    · rw [upd_ne hb] at h; exact .inl h
  · by_cases hb : b = a
    · rw [if_pos hb] at h; exact absurd rfl h
    · rw [if_neg hb] at h; exact .inr h
theorem Good.freeze {i : Nat} {d d' : D} (g : Good K G H ω σ ρ) (e : ρ[i]? = some d) (hd : frz d = some d') :
    ∃ G' ω' v, σ[i]? = some (some v) ∧ Good K G' H ω' σ (ρ.set i d') ∧ Tr ω ω' G H G' H ∧ Rep K G' d' v := by
  have plain : isF d = true → d = d' → ∃ G' ω' v, σ[i]? = some (some v) ∧ Good K G' H ω' σ (ρ.set i d') ∧ Tr ω ω' G H G' H ∧ Rep K G' d' v := fun hf hdd => by
    subst hdd
    have es : ρ.set i d = ρ := by
      obtain ⟨hi, e2⟩ := List.getElem?_eq_some_iff.mp e
      rw [← e2]; exact List.set_getElem_self hi
    rw [es]
    rcases g.sl i d e with z | ⟨v, e1, h⟩
    · subst z; simp [isF] at hf
    · exact ⟨G, ω, v, e1, g, Tr.refl, h.rep hf⟩
  cases d with
  | any => simp [frz] at hd
  | ins _ _ _ => simp [frz] at hd
  | lst m ds =>
    cases m with
    | o =>
      simp [frz] at hd
      subst hd
      rcases g.sl i _ e with z | ⟨v, e1, h⟩
      · cases z
      · unfold Own at h
        obtain ⟨a, vs, rfl, h1, h2, h3⟩ := h
        have ga : G a = none := g.out a (by rw [h2]; simp)
        obtain ⟨G', ω', z1, z2, z3⟩ := g.freeze1 e e1 h1 h2 (d' := .lst .f ds) (by
          unfold Rep
          refine ⟨a, vs, rfl, upd_same, RepL.mono (fun b x e => ?_) ds vs h3⟩
          rw [upd_ne (ne_of_none e ga)]; exact e)
        exact ⟨G', ω', _, e1, z1, z2, z3⟩
    | f => exact plain rfl (by simpa [frz] using hd)
    | x => exact plain rfl (by simpa [frz] using hd)
  | dic m ks ds =>
    cases m with
    | o =>
      simp [frz] at hd
      subst hd
      rcases g.sl i _ e with z | ⟨v, e1, h⟩
      · cases z
      · unfold Own at h
        obtain ⟨a, vs, rfl, h1, h2, hl, h3⟩ := h
        have ga : G a = none := g.out a (by rw [h2]; simp)
        obtain ⟨G', ω', z1, z2, z3⟩ := g.freeze1 e e1 h1 h2 (d' := .dic .f ks ds) (by
          unfold Rep
          refine ⟨a, vs, rfl, rfl, upd_same, hl, RepL.mono (fun b x e => ?_) ds vs h3⟩
          rw [upd_ne (ne_of_none e ga)]; exact e)
        exact ⟨G', ω', _, e1, z1, z2, z3⟩
    | f => exact plain rfl (by simpa [frz] using hd)
    | x => exact plain rfl (by simpa [frz] using hd)
  | non => exact plain rfl (by simpa [frz] using hd)
  | bl _ => exact plain rfl (by simpa [frz] using hd)
  | int _ => exact plain rfl (by simpa [frz] using hd)
  | str _ => exact plain rfl (by simpa [frz] using hd)
  | tup _ => exact plain rfl (by simpa [frz] using hd)
/-- what is owned at i goes to j, where the same value stands -/
def mvO (ω : Ow) (i j : Nat) : Ow := fun b => match ω b with
  | some (k :: r) => if k = i then some (j :: r) else some (k :: r)
  | r => r
theorem mvO_none {i j : Nat} {b : Addr} : mvO ω i j b ≠ none ↔ ω b ≠ none := by
  unfold mvO
  split
  · rename_i k r e
    rw [e]
    split <;> simp
  · exact Iff.rfl
theorem Tr.mv {i j : Nat} : Tr ω (mvO ω i j) G H G H := ⟨Same.refl _, fun _ _ e _ => e, fun _ h => .inl h, fun _ h => .inr (mvO_none.mp h)⟩
theorem Good.mv {i j : Nat} {d : D} {v : V} (g : Good K G H ω σ ρ) (hij : i ≠ j) (ei : ρ[i]? = some d) (hi : σ[i]? = some (some v)) (hj : σ[j]? = some (some v)) (ej : ρ[j]? = some .any) :
    Good K G H (mvO ω i j) σ ((ρ.set i .any).set j d) := by
  have li : i < ρ.length := (List.getElem?_eq_some_iff.mp ei).1
  have lj : j < ρ.length := (List.getElem?_eq_some_iff.mp ej).1
  refine ⟨g.same, fun b h => g.out b (mvO_none.mp h), fun b h => g.live b (mvO_none.mp h), by simp [g.len], fun k dk ek => ?_⟩
  by_cases hkj : k = j
  · subst hkj
    rw [List.getElem?_set_self (by simpa using lj)] at ek
    cases ek
    rcases g.sl i d ei with z | ⟨u, e1, h⟩
    · exact .inl z
    · rw [hi] at e1
      cases e1
      refine .inr ⟨v, hj, Own.move (Same.refl _) _ _ (fun b r er => ⟨rfl, ?_⟩) d v h⟩
      unfold mvO
      rw [er]
      show (if i = i then some (k :: r) else some (i :: r)) = _
      rw [if_pos rfl]; rfl
  · rw [List.getElem?_set_ne (Ne.symm hkj)] at ek
    by_cases hki : k = i
    · subst hki
      rw [List.getElem?_set_self li] at ek
      cases ek
      exact .inl rfl
    · rw [List.getElem?_set_ne (Ne.symm hki)] at ek
      rcases g.sl k dk ek with z | ⟨u, e1, h⟩
      · exact .inl z
      · refine .inr ⟨u, e1, Own.move (Same.refl _) _ _ (fun b r er => ⟨rfl, ?_⟩) dk u h⟩
        unfold mvO
        rw [er]
        show (if k = i then some (j :: r) else some (k :: r)) = _
        rw [if_neg hki]; rfl
/-- the places between are forgotten -/
def sqO (ω : Ow) (n m : Nat) : Ow := fun b => match ω b with
  | some (k :: r) => if k < n then some (k :: r) else if k = m then some (n :: r) else none
  | _ => none
theorem sqO_some {n m : Nat} {b : Addr} (h : sqO ω n m b ≠ none) : ω b ≠ none := by
  unfold sqO at h
  split at h
  · rename_i k r e; rw [e]; simp
  · exact absurd rfl h
theorem Good.squash {B : Sl} {P : List D} {v : V} {d : D} (g : Good K G H ω (σ ++ (B ++ [some v])) (ρ ++ (P ++ [d]))) (h1 : σ.length = ρ.length) (h2 : B.length = P.length) :
    Good K G H (sqO ω ρ.length (ρ.length + P.length)) (σ ++ [some v]) (ρ ++ [d]) ∧ Tr ω (sqO ω ρ.length (ρ.length + P.length)) G H G H := by
  refine ⟨⟨g.same, fun b h => g.out b (sqO_some h), fun b h => g.live b (sqO_some h), by simp [h1], fun i d' e => ?_⟩, Same.refl _, fun _ _ e _ => e, fun _ h => .inl h, fun _ h => .inr (sqO_some h)⟩
  by_cases hi : i < ρ.length
  · rw [List.getElem?_append_left hi] at e
    rcases g.sl i d' (by rw [List.getElem?_append_left hi]; exact e) with z | ⟨u, e1, h⟩
    · exact .inl z
    · rw [List.getElem?_append_left (by omega)] at e1
      refine .inr ⟨u, by rw [List.getElem?_append_left (by omega)]; exact e1, Own.move (Same.refl _) _ _ (fun b r er => ⟨rfl, ?_⟩) d' u h⟩
      unfold sqO
      rw [er]
      show (if i < ρ.length then some (i :: r) else _) = _
      rw [if_pos hi]; rfl
  · have hi2 : i = ρ.length := by
      have := (List.getElem?_eq_some_iff.mp e).1
      simp at this; omega
    subst hi2
    simp at e
    subst e
    have e0 : (ρ ++ (P ++ [d]))[ρ.length + P.length]? = some d := by
      rw [← List.append_assoc, List.getElem?_append_right (by simp)]; simp
    have s0 : (σ ++ (B ++ [some v]))[ρ.length + P.length]? = some (some v) := by
      rw [← List.append_assoc, List.getElem?_append_right (by simp; omega)]; simp [h1, h2]
    rcases g.sl _ d e0 with z | ⟨u, e1, h⟩
    · exact .inl z
    · rw [s0] at e1
      cases e1
      refine .inr ⟨v, by rw [List.getElem?_append_right (by omega)]; simp [h1], Own.move (Same.refl _) _ _ (fun b r er => ⟨rfl, ?_⟩) d v h⟩
      unfold sqO
      rw [er]
      show (if ρ.length + P.length < ρ.length then _ else if ρ.length + P.length = ρ.length + P.length then some (ρ.length :: r) else none) = _
      rw [if_neg (by omega), if_pos rfl]; rfl
/-- the callee's owner map: what is owned from the n-th place on -/
def subO (ω : Ow) (n : Nat) : Ow := fun b => match ω b with
  | some (k :: r) => if n ≤ k then some ((k - n) :: r) else none
  | _ => none
/-- behind the call -/
def supO (ω ω1 : Ow) (n : Nat) : Ow := fun b => match ω1 b with
  | some (k :: r) => some ((n + k) :: r)
  | some [] => none
  | none => if subO ω n b = none then ω b else none
theorem subO_some {n : Nat} {b : Addr} (h : subO ω n b ≠ none) : ω b ≠ none := by
  unfold subO at h
  split at h
  · rename_i k r e; rw [e]; simp
  · exact absurd rfl h
theorem Good.sub {n : Nat} (g : Good K G H ω (σ ++ σ2) (ρ ++ ρ2)) (h1 : σ.length = ρ.length) (hn : n = ρ.length) : Good K G H (subO ω n) σ2 ρ2 := by
  subst hn
  refine ⟨g.same, fun b h => g.out b (subO_some h), fun b h => g.live b (subO_some h), by have := g.len; simp [h1] at this; exact this, fun i d e => ?_⟩
  rcases g.sl (ρ.length + i) d (by rw [List.getElem?_append_right (by omega)]; simpa using e) with z | ⟨v, e1, h⟩
  · exact .inl z
  · refine .inr ⟨v, by rw [List.getElem?_append_right (by omega)] at e1; simpa [h1] using e1, Own.move (Same.refl _) _ _ (fun b r er => ⟨rfl, ?_⟩) d v h⟩
    unfold subO
    rw [er]
    show (if ρ.length ≤ ρ.length + i then some ((ρ.length + i - ρ.length) :: r) else none) = _
    rw [if_pos (by omega), show ρ.length + i - ρ.length = i by omega]; rfl
theorem Good.sup {n : Nat} {ω1 : Ow} {σ3 : Sl} {ρ3 : List D} (g : Good K G H ω (σ ++ σ2) (ρ ++ ρ2)) (h1 : σ.length = ρ.length) (hn : n = ρ.length) (t : Tr (subO ω n) ω1 G H G' H') (g' : Good K G' H' ω1 σ3 ρ3) :
    Good K G' H' (supO ω ω1 n) (σ ++ σ3) (ρ ++ ρ3) ∧ Tr ω (supO ω ω1 n) G H G' H' := by
  subst hn
  -- what the callee did not own
  have two : ∀ b, supO ω ω1 ρ.length b ≠ none → ω1 b ≠ none ∨ (ω1 b = none ∧ subO ω ρ.length b = none ∧ ω b ≠ none) := fun b h => by
    unfold supO at h
    split at h
    · rename_i k r e; exact .inl (by rw [e]; simp)
    · exact absurd rfl h
    · rename_i e
      split at h
      · rename_i e2; exact .inr ⟨e, e2, h⟩
      · exact absurd rfl h
  have hk : ∀ b, subO ω ρ.length b = none → H b ≠ none → H' b = H b := fun b e h => by
    cases q : H b with
    | none => exact absurd q h
    | some o => exact t.keep b o q e
  have h1n : ∀ b, subO ω ρ.length b = none → H b ≠ none → ω1 b = none := fun b e h => by
    cases q : ω1 b with
    | none => rfl
    | some p =>
      rcases t.fnew b (by rw [q]; simp) with z | z
      · exact absurd z h
      · exact absurd e z
  refine ⟨⟨g'.same, fun b h => ?_, fun b h => ?_, by simp [h1, g'.len], fun i d e => ?_⟩, t.gs, fun b o e h => t.keep b o e ?_, fun b h => ?_, fun b h => ?_⟩
  · rcases two b h with z | ⟨z1, z2, z3⟩
    · exact g'.out b z
    · cases q : G' b with
      | none => rfl
      | some o =>
        rcases t.gnew b (by rw [q]; simp) with y | y | y
        · exact absurd (g.out b z3) y
        · exact absurd y (g.live b z3)
        · exact absurd z2 y
  · rcases two b h with z | ⟨z1, z2, z3⟩
    · exact g'.live b z
    · rw [hk b z2 (g.live b z3)]; exact g.live b z3
  · by_cases hi : i < ρ.length
    · rw [List.getElem?_append_left hi] at e
      rcases g.sl i d (by rw [List.getElem?_append_left hi]; exact e) with z | ⟨v, e1, h⟩
      · exact .inl z
      · rw [List.getElem?_append_left (by omega)] at e1
        refine .inr ⟨v, by rw [List.getElem?_append_left (by omega)]; exact e1, Own.move t.gs _ _ (fun b r er => ?_) d v h⟩
        have e2 : subO ω ρ.length b = none := by
          unfold subO
          rw [er]
          show (if ρ.length ≤ i then _ else none) = none
          rw [if_neg (by omega)]
        have e3 := g.live b (by rw [er]; simp)
        refine ⟨hk b e2 e3, ?_⟩
        unfold supO
        rw [h1n b e2 e3]
        show (if subO ω ρ.length b = none then ω b else none) = _
        rw [if_pos e2, er]
    · rw [List.getElem?_append_right (by omega)] at e
      rcases g'.sl _ d e with z | ⟨v, e1, h⟩
      · exact .inl z
      · refine .inr ⟨v, by rw [List.getElem?_append_right (by omega), h1]; exact e1, Own.move (Same.refl _) _ _ (fun b r er => ⟨rfl, ?_⟩) d v h⟩
        unfold supO
        rw [er]
        show some ((ρ.length + (i - ρ.length)) :: r) = some (i :: r)
        rw [show ρ.length + (i - ρ.length) = i by omega]
  · cases q : subO ω ρ.length b with
    | none => rfl
    | some p => exact absurd h (subO_some (n := ρ.length) (b := b) (by rw [q]; simp))
  · rcases t.gnew b h with z | z | z
    · exact .inl z
    · exact .inr (.inl z)
    · exact .inr (.inr (subO_some z))
  · rcases two b h with z | ⟨_, _, z⟩
    · rcases t.fnew b z with y | y
      · exact .inl y
      · exact .inr (subO_some y)
    · exact .inr z
end
end CW

namespace CW
open PySem L2
section
variable {K : PySem.W.Frag} {G H G' H' : Hp} {ω ω' : Ow} {σ τ σ2 : Sl} {ρ δ ρ2 : List D}
theorem Good.lensL (g : Good K G H ω (σ ++ τ) (ρ ++ δ)) (hl : σ.length = ρ.length) : τ.length = δ.length := by
  have := g.len
  simp only [List.length_append] at this
  omega
theorem set_last {α : Type} (l m : List α) (x y : α) : (l ++ (m ++ [x])).set (l.length + m.length) y = l ++ (m ++ [y]) := by
  rw [List.set_append_right _ _ (by omega), show l.length + m.length - l.length = m.length by omega, List.set_append_right _ _ (Nat.le_refl _)]
  simp
theorem get_last {α : Type} (l m : List α) (x : α) : (l ++ (m ++ [x]))[l.length + m.length]? = some x := by
  rw [← List.append_assoc, List.getElem?_append_right (by simp)]; simp
theorem RepL.of_get : ∀ {ds : List D} {vs : List V}, vs.length = ds.length → (∀ (i : Nat) (d : D) (v : V), ds[i]? = some d → vs[i]? = some v → Rep K G d v) → RepL K G ds vs
  | [], vs, hl, _ => by
    cases vs with
    | nil => exact RepL.nil
    | cons v vs => simp at hl
  | d :: ds, [], hl, _ => by simp at hl
  | d :: ds, v :: vs, hl, h => by
    unfold RepL
    exact ⟨v, vs, rfl, h 0 d v rfl rfl, RepL.of_get (by simpa using hl) fun i d' v' e1 e2 => h (i + 1) d' v' (by simpa using e1) (by simpa using e2)⟩
/-- the values at the last places -/
theorem Good.tops {vs : List V} {ds : List D} (g : Good K G H ω (σ ++ (τ ++ vs.map some)) (ρ ++ (δ ++ ds))) (hl : σ.length = ρ.length) (h2 : τ.length = δ.length) : vs.length = ds.length ∧ ∀ (i : Nat) (d : D) (v : V), ds[i]? = some d → vs[i]? = some v → VR K G H d v := by
  have h3 : vs.length = ds.length := by
    have := g.len
    simp only [List.length_append, List.length_map] at this
    omega
  refine ⟨h3, fun i d v e1 e2 => ?_⟩
  have q1 : (ρ ++ (δ ++ ds))[ρ.length + (δ.length + i)]? = some d := by
    rw [List.getElem?_append_right (by omega), List.getElem?_append_right (by omega), show ρ.length + (δ.length + i) - ρ.length - δ.length = i by omega]; exact e1
  have q2 : (σ ++ (τ ++ vs.map some))[ρ.length + (δ.length + i)]? = some (some v) := by
    rw [List.getElem?_append_right (by omega), List.getElem?_append_right (by omega), show ρ.length + (δ.length + i) - σ.length - τ.length = i by omega, List.getElem?_map, e2]; rfl
  rcases g.sl _ d q1 with z | ⟨u, e3, h⟩
  · subst z; exact ⟨by unfold VE Rep; trivial, fun z => by simp [isF] at z⟩
  · rw [q2] at e3; cases e3; exact ⟨h.ve g.same, fun z => h.rep z⟩
theorem Good.topsF {vs : List V} {ds : List D} (g : Good K G H ω (σ ++ (τ ++ vs.map some)) (ρ ++ (δ ++ ds))) (hl : σ.length = ρ.length) (h2 : τ.length = δ.length) (hf : ds.all isF = true) : RepL K G ds vs := by
  obtain ⟨h3, h4⟩ := g.tops hl h2
  refine RepL.of_get h3 fun i d v e1 e2 => (h4 i d v e1 e2).2 ?_
  exact List.all_eq_true.mp hf d (List.mem_of_getElem? e1)
theorem Good.dropN {ov : Sl} {ds : List D} (g : Good K G H ω (σ ++ (τ ++ ov)) (ρ ++ (δ ++ ds))) (hl : σ.length = ρ.length) (h2 : τ.length = δ.length) : Good K G H ω (σ ++ τ) (ρ ++ δ) := by
  rw [← List.append_assoc, ← List.append_assoc] at g
  exact g.pre (by simp [hl, h2])
end
section
variable {X : Cx} {e a b : Expr} {es : List Expr} {pos : Pos} {f g : Env → Option D} {m ma mb : Env → Option (D × Env)} {ms : Env → Option (List D × Env)}
/-! ### given up -/
def frzM (m : Env → Option (D × Env)) : Env → Option (D × Env) := fun ρ => match m ρ with
  | some (d, ρ') => (match frz d with
    | some d' => some (d', ρ')
    | none => none)
  | none => none
theorem ev_frz (h : EV X e m) : EV X e (frzM m) := by
  obtain ⟨te, p, s⟩ := h.ex
  refine ⟨te, p, fun G H ω σ τ ρ δ d ρ' Q hl g e q => ?_⟩
  unfold frzM at e
  split at e
  · rename_i d0 ρ0 e0
    split at e
    · rename_i d1 e1
      cases e
      refine s G H ω σ τ ρ δ d0 _ Q hl g e0 fun G1 H1 ω1 v t1 g1 => ?_
      have hl' := lens g g1 rfl hl
      have hl2 := (g1.pre hl').len
      obtain ⟨G2, ω2, u, e2, g2, t2, _⟩ := g1.freeze (get_last _ _ _) e1
      rw [set_last] at g2
      exact q G2 H1 ω2 v (t1.trans t2) g2
    · cases e
  · cases e
/-- a name, given up -/
def nmM (i : Nat) : Env → Option (D × Env) := fun ρ => match rdS i ρ with
  | some d => (match frz d with
    | some d' => some (d', ρ.set i d')
    | none => none)
  | none => none
theorem ev_name (i : Nat) {x : Str} (h : PE X (.Name x pos) (tVar i)) : EV X (.Name x pos) (nmM i) := by
  refine ⟨_, h, fun G H ω σ τ ρ δ d ρ' Q hl g e q => ?_⟩
  unfold nmM at e
  split at e
  · rename_i d0 e0
    split at e
    · rename_i d1 e1
      cases e
      obtain ⟨e2, _⟩ := rdS_some e0
      have hi : i < ρ.length := (List.getElem?_eq_some_iff.mp e2).1
      obtain ⟨G2, ω2, v, e3, g2, t2, r2⟩ := g.freeze (i := i) (by rw [List.getElem?_append_left hi]; exact e2) e1
      rw [List.set_append_left _ _ hi] at g2
      rw [List.getElem?_append_left (by omega)] at e3
      exact ⟨v, e3, q G2 H ω2 v t2 (g2.add1 r2)⟩
    · cases e
  · cases e
/-- a name whose value moves on (return x) -/
def mvM (i : Nat) : Env → Option (D × Env) := fun ρ => match rdS i ρ with
  | some d => some (d, ρ.set i .any)
  | none => none
theorem ev_move (i : Nat) {x : Str} (h : PE X (.Name x pos) (tVar i)) : EV X (.Name x pos) (mvM i) := by
  refine ⟨_, h, fun G H ω σ τ ρ δ d ρ' Q hl g e q => ?_⟩
  unfold mvM at e
  split at e
  · rename_i d0 e0
    cases e
    obtain ⟨e2, _⟩ := rdS_some e0
    have hi : i < ρ.length := (List.getElem?_eq_some_iff.mp e2).1
    obtain ⟨v, e3, _⟩ := g.at hl e0
    have g1 := g.pushAny (ov := some v)
    have n1 : (ρ ++ δ ++ [D.any])[(ρ ++ δ).length]? = some .any := by simp
    have n2 : (σ ++ τ ++ [some v])[(ρ ++ δ).length]? = some (some v) := by rw [← g.len]; simp
    have i1 : (ρ ++ δ ++ [D.any])[i]? = some d := by rw [List.append_assoc, List.getElem?_append_left hi]; exact e2
    have i2 : (σ ++ τ ++ [some v])[i]? = some (some v) := by rw [List.append_assoc, List.getElem?_append_left (by omega)]; exact e3
    have hne : i ≠ (ρ ++ δ).length := by simp; omega
    have g2 := g1.mv hne i1 i2 n2 n1
    have es : ((ρ ++ δ ++ [D.any]).set i .any).set (ρ ++ δ).length d = ρ.set i .any ++ (δ ++ [d]) := by
      rw [List.append_assoc, List.set_append_left _ _ hi, show (ρ ++ δ).length = (ρ.set i D.any).length + δ.length by simp, set_last]
    rw [es, List.append_assoc] at g2
    exact ⟨v, e3, q G H _ v Tr.mv g2⟩
  · cases e
/-! ### several -/
structure AVl (X : Cx) (es : List Expr) (m : Env → Option (List D × Env)) : Prop extends AV X es m where
  n : ∀ ρ ds ρ', m ρ = some (ds, ρ') → ds.length = es.length
def nilM : Env → Option (List D × Env) := fun ρ => some ([], ρ)
def consM (m : Env → Option (D × Env)) (ms : Env → Option (List D × Env)) : Env → Option (List D × Env) := fun ρ => match m ρ with
  | some (d, ρ') => (match ms ρ' with
    | some (ds, ρ'') => some (d :: ds, ρ'')
    | none => none)
  | none => none
theorem av_nil : AVl X [] nilM where
  ex := ⟨_, pa_nil, fun G H ω σ τ ρ δ ds ρ' Q hl g e q => by
    cases e
    exact q G H ω [] rfl Tr.refl (by simpa using g)⟩
  n := fun ρ ds ρ' e => by cases e; rfl
theorem av_cons (h : EV X e m) (hs : AVl X es ms) (hst : starEach (e :: es) X.env = (false, eval e X.env) :: starEach es X.env := by rfl) : AVl X (e :: es) (consM m ms) where
  ex := by
    obtain ⟨te, p, s⟩ := h.ex
    obtain ⟨t, p', s'⟩ := hs.ex
    refine ⟨_, pa_cons p p' hst, fun G H ω σ τ ρ δ ds ρ' Q hl g e q => ?_⟩
    unfold consM at e
    split at e
    · rename_i d ρ1 e1
      split at e
      · rename_i ds1 ρ2 e2
        cases e
        refine s G H ω σ τ ρ δ d ρ1 _ hl g e1 fun G1 H1 ω1 v t1 g1 => ?_
        refine s' G1 H1 ω1 σ (τ ++ [some v]) ρ1 (δ ++ [d]) ds1 _ _ (lens g g1 rfl hl) g1 e2 fun G2 H2 ω2 vs n2 t2 g2 => ?_
        refine q G2 H2 ω2 (v :: vs) (by rw [List.length_cons, List.length_cons, n2]) (t1.trans t2) ?_
        rw [List.append_assoc, List.append_assoc] at g2
        exact g2
      · cases e
    · cases e
  n := fun ρ ds ρ' e => by
    unfold consM at e
    split at e
    · rename_i d ρ1 e1
      split at e
      · rename_i ds1 ρ2 e2
        cases e
        rw [List.length_cons, List.length_cons, hs.n _ _ _ e2]
      · cases e
    · cases e
/-! ### displays -/
def tupM (ms : Env → Option (List D × Env)) : Env → Option (D × Env) := fun ρ => match ms ρ with
  | some (ds, ρ') => if ds.all isF = true then some (.tup ds, ρ') else none
  | none => none
def lstM (ms : Env → Option (List D × Env)) : Env → Option (D × Env) := fun ρ => match ms ρ with
  | some (ds, ρ') => if ds.all isF = true then some (.lst .o ds, ρ') else none
  | none => none
/-- a new tuple -/
theorem new_tup {K : PySem.W.Frag} {G H : Hp} {ω : Ow} {σ τ : Sl} {ρ δ : List D} {ds : List D} {vs : List V} {p : Addr} (g : Good K G H ω (σ ++ τ) (ρ ++ δ)) (hr : RepL K G ds vs) (hp : H p = none) :
    Good K (upd G p (.tup vs)) (upd H p (.tup vs)) ω (σ ++ (τ ++ [some (.ref p)])) (ρ ++ (δ ++ [.tup ds])) ∧ Tr ω ω G H (upd G p (.tup vs)) (upd H p (.tup vs)) := by
  obtain ⟨g1, t1⟩ := g.layF (o := .tup vs) hp
  refine ⟨g1.add1 ?_, t1⟩
  unfold Rep
  exact ⟨p, vs, rfl, SqT.of upd_same, RepL.mono t1.gs ds vs hr⟩
/-- a new list -/
theorem new_lst {K : PySem.W.Frag} {G H : Hp} {ω : Ow} {σ τ : Sl} {ρ δ : List D} {ds : List D} {vs : List V} {p : Addr} (g : Good K G H ω (σ ++ τ) (ρ ++ δ)) (hr : RepL K G ds vs) (hp : H p = none) :
    ∃ ω', Good K G (upd H p (.lst vs)) ω' (σ ++ (τ ++ [some (.ref p)])) (ρ ++ (δ ++ [.lst .o ds])) ∧ Tr ω ω' G H G (upd H p (.lst vs)) := by
  obtain ⟨g1, t1⟩ := g.layO (o := .lst vs) (d := .lst .o ds) hp (by
    unfold Own
    exact ⟨p, vs, rfl, upd_same, (by unfold setO; rw [if_pos rfl]), hr⟩)
  rw [List.append_assoc, List.append_assoc] at g1
  exact ⟨_, g1, t1⟩
theorem AVl.use (h : AVl X es ms) : ∃ t, PA X es t ∧ ∀ (G H : Hp) (ω : Ow) (σ τ : Sl) (ρ δ : List D) (ds : List D) (ρ' : Env) (Q : List V → Hp → Prop), σ.length = ρ.length → Good X.K G H ω (σ ++ τ) (ρ ++ δ) → ms ρ = some (ds, ρ') →
    (∀ G' H' ω' vs, Tr ω ω' G H G' H' → Good X.K G' H' ω' (σ ++ (τ ++ vs.map some)) (ρ' ++ (δ ++ ds)) → σ.length = ρ'.length → τ.length = δ.length → vs.length = ds.length → ds.length = es.length → Q vs H') → t σ H Q := by
  obtain ⟨t, p, s⟩ := h.ex
  exact ⟨t, p, fun G H ω σ τ ρ δ ds ρ' Q hl g e q => s G H ω σ τ ρ δ ds ρ' Q hl g e fun G1 H1 ω1 vs n1 t1 g1 => q G1 H1 ω1 vs t1 g1 (lens g g1 (by simpa using n1) hl) (g.lensL hl) n1 (h.n _ _ _ e)⟩
theorem ev_tup {k : Nat} (h : AVl X es ms) (hn : es.length ≤ 1000 := by decide) : EV X (.Tuple es k pos) (tupM ms) := by
  obtain ⟨t, p, s⟩ := h.use
  refine ⟨_, pe_tup p, fun G H ω σ τ ρ δ d ρ' Q hl g e q => ?_⟩
  unfold tupM at e
  split at e
  · rename_i ds ρ1 e1
    split at e
    · rename_i hf
      cases e
      refine s G H ω σ τ ρ δ ds ρ' _ hl g e1 fun G1 H1 ω1 vs t1 g1 hl' h2 h3 hn2 => ?_
      have hr := g1.topsF hl' h2 hf
      refine ⟨by rw [h3, hn2]; exact Nat.le_trans hn (by decide), fun p hp => ?_⟩
      obtain ⟨g2, t2⟩ := new_tup (g1.dropN hl' h2) hr hp
      exact q _ _ _ _ (t1.trans t2) g2
    · cases e
  · cases e
theorem ev_lst (h : AVl X es ms) (hn : es.length ≤ 1000 := by decide) : EV X (.List es pos) (lstM ms) := by
  obtain ⟨t, p, s⟩ := h.use
  refine ⟨_, pe_lst p, fun G H ω σ τ ρ δ d ρ' Q hl g e q => ?_⟩
  unfold lstM at e
  split at e
  · rename_i ds ρ1 e1
    split at e
    · rename_i hf
      cases e
      refine s G H ω σ τ ρ δ ds ρ' _ hl g e1 fun G1 H1 ω1 vs t1 g1 hl' h2 h3 hn2 => ?_
      have hr := g1.topsF hl' h2 hf
      refine ⟨by rw [h3, hn2]; exact Nat.le_trans hn (by decide), fun p hp => ?_⟩
      obtain ⟨ω2, g2, t2⟩ := new_lst (g1.dropN hl' h2) hr hp
      exact q _ _ _ _ (t1.trans t2) g2
    · cases e
  · cases e
/-! ### operators on two values -/
/-- what an operator gives that makes nothing -/
def op2M (F : D → D → Option D) (ma mb : Env → Option (D × Env)) : Env → Option (D × Env) := fun ρ => match ma ρ with
  | some (x, ρ1) => (match mb ρ1 with
    | some (y, ρ2) => (match F x y with
      | some d => if isF d = true then some (d, ρ2) else none
      | none => none)
    | none => none)
  | none => none
theorem pairM {P : D → V → Prop} {ds : List D} {vs : List V} (h3 : vs.length = ds.length) (h : ∀ (i : Nat) (d : D) (v : V), ds[i]? = some d → vs[i]? = some v → P d v) : Paired P ds vs := by
  induction ds generalizing vs with
  | nil => cases vs with
    | nil => exact .nil
    | cons v vs => simp at h3
  | cons d ds ih => cases vs with
    | nil => simp at h3
    | cons v vs => exact .cons (h 0 d v rfl rfl) (ih (by simpa using h3) fun i d' v' e1 e2 => h (i + 1) d' v' (by simpa using e1) (by simpa using e2))
/-- two values evaluated, with what is known of both in the end -/
theorem two {ta tb : TE} (sa : ∀ (G H : Hp) (ω : Ow) (σ τ : Sl) (ρ δ : List D) (d : D) (ρ' : Env) (Q : VK), σ.length = ρ.length → Good X.K G H ω (σ ++ τ) (ρ ++ δ) → ma ρ = some (d, ρ') →
      (∀ G' H' ω' v, Tr ω ω' G H G' H' → Good X.K G' H' ω' (σ ++ (τ ++ [some v])) (ρ' ++ (δ ++ [d])) → Q v H') → ta σ H Q)
    (sb : ∀ (G H : Hp) (ω : Ow) (σ τ : Sl) (ρ δ : List D) (d : D) (ρ' : Env) (Q : VK), σ.length = ρ.length → Good X.K G H ω (σ ++ τ) (ρ ++ δ) → mb ρ = some (d, ρ') →
      (∀ G' H' ω' v, Tr ω ω' G H G' H' → Good X.K G' H' ω' (σ ++ (τ ++ [some v])) (ρ' ++ (δ ++ [d])) → Q v H') → tb σ H Q)
    {G H : Hp} {ω : Ow} {σ τ : Sl} {ρ δ : List D} {x y : D} {ρ1 ρ2 : Env} {R : V → V → Hp → Prop} (hl : σ.length = ρ.length) (g : Good X.K G H ω (σ ++ τ) (ρ ++ δ)) (e1 : ma ρ = some (x, ρ1)) (e2 : mb ρ1 = some (y, ρ2))
    (q : ∀ G' H' ω' v u, Tr ω ω' G H G' H' → Good X.K G' H' ω' (σ ++ τ) (ρ2 ++ δ) → VR X.K G' H' x v → VR X.K G' H' y u → R v u H') : ta σ H fun v H1 => tb σ H1 fun u H2 => R v u H2 := by
  refine sa G H ω σ τ ρ δ x ρ1 _ hl g e1 fun G1 H1 ω1 v t1 g1 => ?_
  refine sb G1 H1 ω1 σ (τ ++ [some v]) ρ1 (δ ++ [x]) y ρ2 _ (lens g g1 rfl hl) g1 e2 fun G2 H2 ω2 u t2 g2 => ?_
  have g3 : Good X.K G2 H2 ω2 (σ ++ (τ ++ [v, u].map some)) (ρ2 ++ (δ ++ [x, y])) := by simpa [List.append_assoc] using g2
  have hl' : σ.length = ρ2.length := lens g g3 rfl hl
  obtain ⟨_, h4⟩ := g3.tops hl' (g.lensL hl)
  exact q G2 H2 ω2 v u (t1.trans t2) (g3.dropN hl' (g.lensL hl)) (h4 0 x v rfl rfl) (h4 1 y u rfl rfl)
theorem ev_op {r : R2} {F : D → D → Option D} (hr : QOp X.K r F) (ha : EV X a ma) (hb : EV X b mb) (hp : ∀ {ta tb : TE}, PE X a ta → PE X b tb → PE X e (tOp r ta tb)) : EV X e (op2M F ma mb) := by
  obtain ⟨ta, pa, sa⟩ := ha.ex
  obtain ⟨tb, pb, sb⟩ := hb.ex
  refine ⟨_, hp pa pb, fun G H ω σ τ ρ δ d ρ' Q hl g e q => ?_⟩
  unfold op2M at e
  split at e
  · rename_i x ρ1 e1
    split at e
    · rename_i y ρ2 e2
      split at e
      · rename_i d1 e3
        split at e
        · rename_i hf
          cases e
          exact two sa sb hl g e1 e2 fun G1 H1 ω1 v u t1 g1 hx hy => hr G1 H1 x y d v u Q g1.same hx hy e3 fun w hw => q G1 H1 ω1 w t1 (g1.add1 (hw.2 hf))
        · cases e
      · cases e
    · cases e
  · cases e
/-- an operator that makes a list -/
def opN (F : D → D → Option (List D)) (ma mb : Env → Option (D × Env)) : Env → Option (D × Env) := fun ρ => match ma ρ with
  | some (x, ρ1) => (match mb ρ1 with
    | some (y, ρ2) => (match F x y with
      | some ds => some (.lst .o ds, ρ2)
      | none => none)
    | none => none)
  | none => none
def NOp (K : PySem.W.Frag) (r : R2) (F : D → D → Option (List D)) : Prop := ∀ (G H : Hp) (d1 d2 : D) (ds : List D) (v1 v2 : V) (Q : VK), Same G H → VR K G H d1 v1 → VR K G H d2 v2 → F d1 d2 = some ds → (∀ vs p, RepL K G ds vs → H p = none → Q (.ref p) (upd H p (.lst vs))) → r v1 v2 H Q
theorem ev_opN {r : R2} {F : D → D → Option (List D)} (hr : NOp X.K r F) (ha : EV X a ma) (hb : EV X b mb) (hp : ∀ {ta tb : TE}, PE X a ta → PE X b tb → PE X e (tOp r ta tb)) : EV X e (opN F ma mb) := by
  obtain ⟨ta, pa, sa⟩ := ha.ex
  obtain ⟨tb, pb, sb⟩ := hb.ex
  refine ⟨_, hp pa pb, fun G H ω σ τ ρ δ d ρ' Q hl g e q => ?_⟩
  unfold opN at e
  split at e
  · rename_i x ρ1 e1
    split at e
    · rename_i y ρ2 e2
      split at e
      · rename_i ds e3
        cases e
        refine two sa sb hl g e1 e2 fun G1 H1 ω1 v u t1 g1 hx hy => hr G1 H1 x y ds v u Q g1.same hx hy e3 fun vs p hv hp => ?_
        obtain ⟨ω2, g2, t2⟩ := new_lst g1 hv hp
        exact q _ _ _ _ (t1.trans t2) g2
      · cases e
    · cases e
  · cases e
def catD (x y : D) : Option (List D) := match x, y with
  | .lst m ds, .lst m' es => if m ≠ .x ∧ m' ≠ .x ∧ ds.length + es.length ≤ 16777216 then some (ds ++ es) else none
  | _, _ => none
theorem lst_at {K : PySem.W.Frag} {G H : Hp} {m : Md} {ds : List D} {v : V} (h : VR K G H (.lst m ds) v) (hm : m ≠ .x) : ∃ a vs, v = .ref a ∧ H a = some (.lst vs) ∧ RepL K G ds vs := by
  obtain ⟨a, vs, e, h1, h2⟩ := h.1
  refine ⟨a, vs, e, ?_, h2⟩
  cases m with
  | o => exact h1
  | f => exact h1
  | x => exact absurd rfl hm
theorem n_cat {K : PySem.W.Frag} : NOp K rCat catD := by
  intro G H d1 d2 ds v1 v2 Q s h1 h2 e q
  unfold catD at e
  split at e
  · rename_i m ds1 m' ds2
    split at e
    · rename_i hc
      cases e
      obtain ⟨a, vs, rfl, z1, z2⟩ := lst_at h1 hc.1
      obtain ⟨b, us, rfl, y1, y2⟩ := lst_at h2 hc.2.1
      refine ⟨a, b, vs, us, rfl, rfl, z1, y1, by rw [← z2.length, ← y2.length]; exact hc.2.2, fun p hp => q _ p (z2.app y2) hp⟩
    · cases e
  · cases e
theorem ev_cat (ha : EV X a ma) (hb : EV X b mb) : EV X (.BinOp a .Add b pos) (opN catD ma mb) := ev_opN n_cat ha hb fun p q => pe_op op_cat p q
def repD (x y : D) : Option (List D) := match x, y with
  | .lst m ds, .int k => if m ≠ .x ∧ -(2 ^ 63) ≤ k ∧ k < 2 ^ 63 ∧ ds.length * k.toNat ≤ 16777216 then some (List.replicate k.toNat ds).flatten else none
  | _, _ => none
theorem RepL.rep {K : PySem.W.Frag} {G : Hp} {ds : List D} {vs : List V} (h : RepL K G ds vs) : ∀ n : Nat, RepL K G (List.replicate n ds).flatten (List.replicate n vs).flatten
  | 0 => RepL.nil
  | n + 1 => by
    rw [List.replicate_succ, List.replicate_succ, List.flatten_cons, List.flatten_cons]
    exact h.app (RepL.rep h n)
theorem n_rep {K : PySem.W.Frag} : NOp K rRep repD := by
  intro G H d1 d2 ds v1 v2 Q s h1 h2 e q
  unfold repD at e
  split at e
  · rename_i m ds1 k
    split at e
    · rename_i hc
      cases e
      obtain ⟨a, vs, rfl, z1, z2⟩ := lst_at h1 hc.1
      exact ⟨a, k, vs, rfl, h2.eqS rfl, z1, hc.2.1, hc.2.2.1, by rw [← z2.length]; exact hc.2.2.2, fun p hp => q _ p (z2.rep _) hp⟩
    · cases e
  · cases e
theorem ev_rep (ha : EV X a ma) (hb : EV X b mb) : EV X (.BinOp a .Mult b pos) (opN repD ma mb) := ev_opN n_rep ha hb fun p q => pe_op op_rep p q
/-- an operator that gives one of the two or makes a tuple -/
def TOp (K : PySem.W.Frag) (r : R2) (F : D → D → Option (List D)) : Prop := ∀ (G H : Hp) (d1 d2 : D) (ds : List D) (v1 v2 : V) (Q : VK), Same G H → VR K G H d1 v1 → VR K G H d2 v2 → F d1 d2 = some ds → (∀ v, Rep K G (.tup ds) v → Q v H) → (∀ vs p, RepL K G ds vs → H p = none → Q (.ref p) (upd H p (.tup vs))) → r v1 v2 H Q
def opT (F : D → D → Option (List D)) (ma mb : Env → Option (D × Env)) : Env → Option (D × Env) := fun ρ => match ma ρ with
  | some (x, ρ1) => (match mb ρ1 with
    | some (y, ρ2) => (match F x y with
      | some ds => some (.tup ds, ρ2)
      | none => none)
    | none => none)
  | none => none
theorem ev_opT {r : R2} {F : D → D → Option (List D)} (hr : TOp X.K r F) (ha : EV X a ma) (hb : EV X b mb) (hp : ∀ {ta tb : TE}, PE X a ta → PE X b tb → PE X e (tOp r ta tb)) : EV X e (opT F ma mb) := by
  obtain ⟨ta, pa, sa⟩ := ha.ex
  obtain ⟨tb, pb, sb⟩ := hb.ex
  refine ⟨_, hp pa pb, fun G H ω σ τ ρ δ d ρ' Q hl g e q => ?_⟩
  unfold opT at e
  split at e
  · rename_i x ρ1 e1
    split at e
    · rename_i y ρ2 e2
      split at e
      · rename_i ds e3
        cases e
        refine two sa sb hl g e1 e2 fun G1 H1 ω1 v u t1 g1 hx hy => hr G1 H1 x y ds v u Q g1.same hx hy e3 (fun w hw => q G1 H1 ω1 w t1 (g1.add1 hw)) fun vs p hv hp => ?_
        obtain ⟨g2, t2⟩ := new_tup g1 hv hp
        exact q _ _ _ _ (t1.trans t2) g2
      · cases e
    · cases e
  · cases e
def catT (x y : D) : Option (List D) := match x, y with
  | .tup ds, .tup es => if ds.length + es.length ≤ 16777216 then some (ds ++ es) else none
  | _, _ => none
theorem tup_at {K : PySem.W.Frag} {G H : Hp} {ds : List D} {v : V} (h : VR K G H (.tup ds) v) : ∃ a vs, v = .ref a ∧ SqT K G a vs ∧ RepL K G ds vs := by
  have h1 := h.2 rfl
  unfold Rep at h1
  exact h1
theorem t_cat {K : PySem.W.Frag} : TOp K (rCatA K) catT := by
  intro G H d1 d2 ds v1 v2 Q s h1 h2 e q q'
  unfold catT at e
  split at e
  · rename_i ds1 ds2
    split at e
    · rename_i hc
      cases e
      obtain ⟨a, vs, rfl, z1, z2⟩ := tup_at h1
      obtain ⟨b, us, rfl, y1, y2⟩ := tup_at h2
      refine ⟨a, b, vs, us, rfl, rfl, Same.seqT s z1, Same.seqT s y1, by rw [← z2.length, ← y2.length]; exact hc, fun e1 => ?_, fun e1 e2 => ?_, fun _ _ p hp => q' _ p (z2.app y2) hp⟩
      · subst e1
        have e2 : ds1 = [] := List.length_eq_zero_iff.mp z2.length
        subst e2
        exact q _ (by unfold Rep; exact ⟨b, us, rfl, y1, y2⟩)
      · subst e2
        have e3 : ds2 = [] := List.length_eq_zero_iff.mp y2.length
        subst e3
        rw [List.append_nil] at *
        exact q _ (by unfold Rep; exact ⟨a, vs, rfl, z1, z2⟩)
    · cases e
  · cases e
theorem ev_catT (ha : EV X a ma) (hb : EV X b mb) : EV X (.BinOp a .Add b pos) (opT catT ma mb) := ev_opT t_cat ha hb fun p q => pe_op op_catA p q
end
end CW

namespace CW
open PySem L2
/-! ### the promise of a def -/
/-- F: from the arguments' data the result's and what the arguments are then -/
def spP (K : PySem.W.Frag) (n : Nat) (F : List D → Option (D × List D)) : Sp := fun vs H Q _ => vs.length = n ∧ ∃ G ω ds d outs, Good K G H ω (vs.map some) ds ∧ F ds = some (d, outs) ∧
  ∀ G' H' ω' v, Tr ω ω' G H G' H' → Good K G' H' ω' (vs.map some ++ [some v]) (outs ++ [d]) → Q v H'
/-- an argument: a value, or a name lent -/
inductive Opd where
  | v (d : D)
  | s (i : Nat)
def opdD : Opd → D
  | .v d => d
  | .s _ => .any
def OpdAt (σ : Sl) (o : Opd) (v : V) : Prop := match o with
  | .v _ => True
  | .s i => σ[i]? = some (some v)
section
variable {X : Cx} {e a b : Expr} {es : List Expr} {pos : Pos} {f g : Env → Option D} {m ma mb : Env → Option (D × Env)} {mo : Env → Option (List Opd × Env)}
/-- the arguments of a call -/
structure CV (X : Cx) (es : List Expr) (m : Env → Option (List Opd × Env)) : Prop where
  ex : ∃ t, PA X es t ∧ ∀ (G H : Hp) (ω : Ow) (σ τ : Sl) (ρ δ : List D) (os : List Opd) (ρ' : Env) (Q : List V → Hp → Prop), σ.length = ρ.length → Good X.K G H ω (σ ++ τ) (ρ ++ δ) → m ρ = some (os, ρ') →
    (∀ G' H' ω' vs, vs.length = os.length → Tr ω ω' G H G' H' → Good X.K G' H' ω' (σ ++ (τ ++ vs.map some)) (ρ' ++ (δ ++ os.map opdD)) → Paired (OpdAt σ) os vs → Q vs H') → t σ H Q
  n : ∀ ρ os ρ', m ρ = some (os, ρ') → os.length = es.length
def nilC : Env → Option (List Opd × Env) := fun ρ => some ([], ρ)
def consC (m : Env → Option (D × Env)) (ms : Env → Option (List Opd × Env)) : Env → Option (List Opd × Env) := fun ρ => match m ρ with
  | some (d, ρ') => (match ms ρ' with
    | some (ds, ρ'') => some (.v d :: ds, ρ'')
    | none => none)
  | none => none
def lendC (i : Nat) (ms : Env → Option (List Opd × Env)) : Env → Option (List Opd × Env) := fun ρ => match rdS i ρ with
  | some d => (match ms ρ with
    | some (ds, ρ'') => some (.s i :: ds, ρ'')
    | none => none)
  | none => none
theorem cv_nil : CV X [] nilC where
  ex := ⟨_, pa_nil, fun G H ω σ τ ρ δ ds ρ' Q hl g e q => by
    cases e
    exact q G H ω [] rfl Tr.refl (by simpa using g) .nil⟩
  n := fun ρ ds ρ' e => by cases e; rfl
theorem cv_cons (h : EV X e m) (hs : CV X es mo) (hst : starEach (e :: es) X.env = (false, eval e X.env) :: starEach es X.env := by rfl) : CV X (e :: es) (consC m mo) where
  ex := by
    obtain ⟨te, p, s⟩ := h.ex
    obtain ⟨t, p', s'⟩ := hs.ex
    refine ⟨_, pa_cons p p' hst, fun G H ω σ τ ρ δ ds ρ' Q hl g e q => ?_⟩
    unfold consC at e
    split at e
    · rename_i d ρ1 e1
      split at e
      · rename_i ds1 ρ2 e2
        cases e
        refine s G H ω σ τ ρ δ d ρ1 _ hl g e1 fun G1 H1 ω1 v t1 g1 => ?_
        refine s' G1 H1 ω1 σ (τ ++ [some v]) ρ1 (δ ++ [d]) ds1 _ _ (lens g g1 rfl hl) g1 e2 fun G2 H2 ω2 vs n2 t2 g2 p2 => ?_
        refine q G2 H2 ω2 (v :: vs) (by rw [List.length_cons, List.length_cons, n2]) (t1.trans t2) ?_ (.cons trivial p2)
        rw [List.append_assoc, List.append_assoc] at g2
        exact g2
      · cases e
    · cases e
  n := fun ρ ds ρ' e => by
    unfold consC at e
    split at e
    · rename_i d ρ1 e1
      split at e
      · rename_i ds1 ρ2 e2
        cases e
        rw [List.length_cons, List.length_cons, hs.n _ _ _ e2]
      · cases e
    · cases e
theorem cv_lend (i : Nat) {x : Str} (h : PE X (.Name x pos) (tVar i)) (hs : CV X es mo) (hst : starEach (.Name x pos :: es) X.env = (false, eval (.Name x pos) X.env) :: starEach es X.env := by rfl) : CV X (.Name x pos :: es) (lendC i mo) where
  ex := by
    obtain ⟨t, p', s'⟩ := hs.ex
    refine ⟨_, pa_cons h p' hst, fun G H ω σ τ ρ δ ds ρ' Q hl g e q => ?_⟩
    unfold lendC at e
    split at e
    · rename_i d e1
      split at e
      · rename_i ds1 ρ2 e2
        cases e
        obtain ⟨v, e3, _⟩ := g.at hl e1
        refine ⟨v, e3, ?_⟩
        have g1 : Good X.K G H ω (σ ++ (τ ++ [some v])) (ρ ++ (δ ++ [.any])) := by
          rw [← List.append_assoc, ← List.append_assoc]; exact g.pushAny
        refine s' G H ω σ (τ ++ [some v]) ρ (δ ++ [.any]) ds1 _ _ hl g1 e2 fun G2 H2 ω2 vs n2 t2 g2 p2 => ?_
        refine q G2 H2 ω2 (v :: vs) (by rw [List.length_cons, List.length_cons, n2]) t2 ?_ (.cons e3 p2)
        rw [List.append_assoc, List.append_assoc] at g2
        exact g2
      · cases e
    · cases e
  n := fun ρ ds ρ' e => by
    unfold lendC at e
    split at e
    · rename_i d e1
      split at e
      · rename_i ds1 ρ2 e2
        cases e
        rw [List.length_cons, List.length_cons, hs.n _ _ _ e2]
      · cases e
    · cases e
/-! ### lending, taking back -/
def takeAll : List Opd → Env → Option (List D × Env)
  | [], ρ => some ([], ρ)
  | .v d :: os, ρ => (match takeAll os ρ with
    | some (ds, ρ') => some (d :: ds, ρ')
    | none => none)
  | .s i :: os, ρ => (match rdS i ρ with
    | some d => (match takeAll os (ρ.set i .any) with
      | some (ds, ρ') => some (d :: ds, ρ')
      | none => none)
    | none => none)
def putAll : List Opd → List D → Env → Env
  | .v _ :: os, _ :: ds, ρ => putAll os ds ρ
  | .s i :: os, d :: ds, ρ => putAll os ds (ρ.set i d)
  | _, _, ρ => ρ
theorem len_take : ∀ {os : List Opd} {ρ : Env} {ds : List D} {ρ' : Env}, takeAll os ρ = some (ds, ρ') → ds.length = os.length ∧ ρ'.length = ρ.length
  | [], ρ, ds, ρ', e => by unfold takeAll at e; cases e; exact ⟨rfl, rfl⟩
  | .v d :: os, ρ, ds, ρ', e => by
    unfold takeAll at e
    split at e
    · rename_i ds1 ρ1 e1
      cases e
      have := len_take e1
      exact ⟨by simp [this.1], this.2⟩
    · cases e
  | .s i :: os, ρ, ds, ρ', e => by
    unfold takeAll at e
    split at e
    · split at e
      · rename_i ds1 ρ1 e1
        cases e
        have := len_take e1
        exact ⟨by simp [this.1], by simpa using this.2⟩
      · cases e
    · cases e
theorem len_put : ∀ {os : List Opd} {ds : List D} {ρ : Env}, (putAll os ds ρ).length = ρ.length
  | [], _, ρ => by unfold putAll; rfl
  | .v _ :: os, [], ρ => by unfold putAll; rfl
  | .s _ :: os, [], ρ => by unfold putAll; rfl
  | .v _ :: os, d :: ds, ρ => by unfold putAll; exact len_put
  | .s i :: os, d :: ds, ρ => by unfold putAll; rw [len_put]; simp
section
variable {K : PySem.W.Frag} {G H : Hp} {ω : Ow} {σ τ : Sl} {ρ δ : List D}
theorem Good.take : ∀ {os : List Opd} {vs : List V} {ρ ρ' : Env} {ds : List D} {ω : Ow} {τ : Sl} {δ : List D}, σ.length = ρ.length → τ.length = δ.length → Good K G H ω (σ ++ (τ ++ vs.map some)) (ρ ++ (δ ++ os.map opdD)) → Paired (OpdAt σ) os vs → takeAll os ρ = some (ds, ρ') →
    ∃ ω', Good K G H ω' (σ ++ (τ ++ vs.map some)) (ρ' ++ (δ ++ ds)) ∧ Tr ω ω' G H G H
  | [], vs, ρ, ρ', ds, ω, τ, δ, hl, h2, g, pr, e => by
    cases pr
    unfold takeAll at e
    cases e
    exact ⟨ω, g, Tr.refl⟩
  | .v d :: os, vs, ρ, ρ', ds, ω, τ, δ, hl, h2, g, pr, e => by
    cases pr with
    | @cons _ v _ vs h pr =>
      unfold takeAll at e
      split at e
      · rename_i ds1 ρ1 e1
        cases e
        have g1 : Good K G H ω (σ ++ ((τ ++ [some v]) ++ vs.map some)) (ρ ++ ((δ ++ [d]) ++ os.map opdD)) := by simpa [List.append_assoc, opdD] using g
        obtain ⟨ω', g2, t2⟩ := Good.take hl (by simp [h2]) g1 pr e1
        exact ⟨ω', by simpa [List.append_assoc] using g2, t2⟩
      · cases e
  | .s i :: os, vs, ρ, ρ', ds, ω, τ, δ, hl, h2, g, pr, e => by
    cases pr with
    | @cons _ v _ vs h pr =>
      unfold takeAll at e
      split at e
      · rename_i d ed
        split at e
        · rename_i ds1 ρ1 e1
          cases e
          obtain ⟨e2, _⟩ := rdS_some ed
          have hi : i < ρ.length := (List.getElem?_eq_some_iff.mp e2).1
          have hs : σ[i]? = some (some v) := h
          have j1 : (ρ ++ (δ ++ (D.any :: os.map opdD)))[ρ.length + δ.length]? = some .any := by
            rw [← List.append_assoc, List.getElem?_append_right (by simp)]; simp
          have j2 : (σ ++ (τ ++ (some v :: vs.map some)))[ρ.length + δ.length]? = some (some v) := by
            rw [← List.append_assoc, List.getElem?_append_right (by simp; omega)]; simp [hl, h2]
          have i1 : (ρ ++ (δ ++ (D.any :: os.map opdD)))[i]? = some d := by rw [List.getElem?_append_left hi]; exact e2
          have i2 : (σ ++ (τ ++ (some v :: vs.map some)))[i]? = some (some v) := by rw [List.getElem?_append_left (by omega)]; exact hs
          have g1 := Good.mv (i := i) (j := ρ.length + δ.length) (d := d) (v := v) g (by omega) i1 i2 j2 j1
          have es : ((ρ ++ (δ ++ (D.any :: os.map opdD))).set i .any).set (ρ.length + δ.length) d = ρ.set i .any ++ ((δ ++ [d]) ++ os.map opdD) := by
            rw [List.set_append_left _ _ hi, List.set_append_right _ _ (by simp), List.length_set, show ρ.length + δ.length - ρ.length = δ.length by omega, List.set_append_right _ _ (Nat.le_refl _)]
            simp
          have g2 : Good K G H (mvO ω i (ρ.length + δ.length)) (σ ++ ((τ ++ [some v]) ++ vs.map some)) (ρ.set i .any ++ ((δ ++ [d]) ++ os.map opdD)) := by
            rw [← es]
            simpa [List.append_assoc, opdD] using g1
          obtain ⟨ω', g3, t3⟩ := Good.take (by simpa using hl) (by simp [h2]) g2 pr e1
          exact ⟨ω', by simpa [List.append_assoc] using g3, Tr.trans Tr.mv t3⟩
        · cases e
      · cases e
/-- what is given back -/
theorem Good.put : ∀ {os : List Opd} {vs : List V} {ρ : Env} {ds : List D} {ω : Ow} {τ τ2 : Sl} {δ δ2 : List D} {ρ0 : Env} {ds0 : List D}, σ.length = ρ.length → τ.length = δ.length → vs.length = ds.length → (∀ i, Opd.s i ∈ os → ρ[i]? = some .any) → os.Pairwise (fun o o' => ∀ i, o = .s i → o' ≠ .s i) →
    Good K G H ω (σ ++ (τ ++ (vs.map some ++ τ2))) (ρ ++ (δ ++ (ds ++ δ2))) → Paired (OpdAt σ) os vs →
    ∃ ω' ds', ds'.length = ds.length ∧ Good K G H ω' (σ ++ (τ ++ (vs.map some ++ τ2))) (putAll os ds ρ ++ (δ ++ (ds' ++ δ2))) ∧ Tr ω ω' G H G H
  | [], vs, ρ, ds, ω, τ, τ2, δ, δ2, ρ0, ds0, hl, h2, h3, ha, hd, g, pr => ⟨ω, ds, rfl, by unfold putAll; exact g, Tr.refl⟩
  | .v d0 :: os, vs, ρ, ds, ω, τ, τ2, δ, δ2, ρ0, ds0, hl, h2, h3, ha, hd, g, pr => by
    cases pr with
    | @cons _ v _ vs h pr =>
      cases ds with
      | nil => simp at h3
      | cons d ds =>
        have g1 : Good K G H ω (σ ++ ((τ ++ [some v]) ++ (vs.map some ++ τ2))) (ρ ++ ((δ ++ [d]) ++ (ds ++ δ2))) := by simpa [List.append_assoc] using g
        obtain ⟨ω', ds', n, g2, t2⟩ := Good.put (ρ0 := ρ0) (ds0 := ds0) hl (by simp [h2]) (by simpa using h3) (fun i hi => ha i (List.mem_cons_of_mem _ hi)) (List.pairwise_cons.mp hd).2 g1 pr
        exact ⟨ω', d :: ds', by simp [n], by unfold putAll; simpa [List.append_assoc] using g2, t2⟩
  | .s i :: os, vs, ρ, ds, ω, τ, τ2, δ, δ2, ρ0, ds0, hl, h2, h3, ha, hd, g, pr => by
    cases pr with
    | @cons _ v _ vs h pr =>
      cases ds with
      | nil => simp at h3
      | cons d ds =>
        have hs : σ[i]? = some (some v) := h
        have ea : ρ[i]? = some .any := ha i List.mem_cons_self
        have hi : i < ρ.length := (List.getElem?_eq_some_iff.mp ea).1
        have j1 : (ρ ++ (δ ++ (d :: ds ++ δ2)))[ρ.length + δ.length]? = some d := by
          rw [← List.append_assoc, List.getElem?_append_right (by simp)]; simp
        have j2 : (σ ++ (τ ++ ((v :: vs).map some ++ τ2)))[ρ.length + δ.length]? = some (some v) := by
          rw [← List.append_assoc, List.getElem?_append_right (by simp; omega)]; simp [hl, h2]
        have i1 : (ρ ++ (δ ++ (d :: ds ++ δ2)))[i]? = some .any := by rw [List.getElem?_append_left hi]; exact ea
        have i2 : (σ ++ (τ ++ ((v :: vs).map some ++ τ2)))[i]? = some (some v) := by rw [List.getElem?_append_left (by omega)]; exact hs
        have g1 := Good.mv (i := ρ.length + δ.length) (j := i) (d := d) (v := v) g (by omega) j1 j2 i2 i1
        have es : ((ρ ++ (δ ++ (d :: ds ++ δ2))).set (ρ.length + δ.length) .any).set i d = ρ.set i d ++ ((δ ++ [.any]) ++ (ds ++ δ2)) := by
          rw [List.set_append_right _ _ (by omega), show ρ.length + δ.length - ρ.length = δ.length by omega, List.set_append_right _ _ (Nat.le_refl _), List.set_append_left _ _ hi]
          simp
        have g2 : Good K G H (mvO ω (ρ.length + δ.length) i) (σ ++ ((τ ++ [some v]) ++ (vs.map some ++ τ2))) (ρ.set i d ++ ((δ ++ [.any]) ++ (ds ++ δ2))) := by
          rw [← es]
          simpa [List.append_assoc] using g1
        have hd' := List.pairwise_cons.mp hd
        obtain ⟨ω', ds', n, g3, t3⟩ := Good.put (ρ0 := ρ0) (ds0 := ds0) (by simpa using hl) (by simp [h2]) (by simpa using h3) (fun k hk => by
          have hne : i ≠ k := fun z => hd'.1 _ hk i rfl (by rw [z])
          rw [List.getElem?_set_ne hne]
          exact ha k (List.mem_cons_of_mem _ hk)) hd'.2 g2 pr
        exact ⟨ω', .any :: ds', by simp [n], by unfold putAll; simpa [List.append_assoc] using g3, Tr.trans Tr.mv t3⟩
/-- what was taken is gone, and taken once -/
theorem took : ∀ {os : List Opd} {ρ : Env} {ds : List D} {ρ' : Env}, takeAll os ρ = some (ds, ρ') → (∀ i, ρ[i]? = some .any → ρ'[i]? = some .any ∧ Opd.s i ∉ os) ∧ (∀ i, Opd.s i ∈ os → ρ'[i]? = some .any) ∧ os.Pairwise (fun o o' => ∀ i, o = .s i → o' ≠ .s i)
  | [], ρ, ds, ρ', e => by
    unfold takeAll at e; cases e
    exact ⟨fun i h => ⟨h, by simp⟩, fun i h => by simp at h, .nil⟩
  | .v d :: os, ρ, ds, ρ', e => by
    unfold takeAll at e
    split at e
    · rename_i ds1 ρ1 e1
      cases e
      obtain ⟨q1, q2, q3⟩ := took e1
      refine ⟨fun i h => ⟨(q1 i h).1, fun m => ?_⟩, fun i m => ?_, List.pairwise_cons.mpr ⟨fun o _ i z => (by cases z), q3⟩⟩
      · rcases List.mem_cons.mp m with z | z
        · cases z
        · exact (q1 i h).2 z
      · rcases List.mem_cons.mp m with z | z
        · cases z
        · exact q2 i z
    · cases e
  | .s j :: os, ρ, ds, ρ', e => by
    unfold takeAll at e
    split at e
    · rename_i d ed
      split at e
      · rename_i ds1 ρ1 e1
        cases e
        obtain ⟨q1, q2, q3⟩ := took e1
        obtain ⟨e2, hne⟩ := rdS_some ed
        have hj : j < ρ.length := (List.getElem?_eq_some_iff.mp e2).1
        have hja : (ρ.set j D.any)[j]? = some D.any := by rw [List.getElem?_set_self hj]
        have up : ∀ i, ρ[i]? = some D.any → (ρ.set j D.any)[i]? = some D.any := fun i h => by
          by_cases z : j = i
          · subst z; exact hja
          · rw [List.getElem?_set_ne z]; exact h
        refine ⟨fun i h => ⟨(q1 i (up i h)).1, fun m => ?_⟩, fun i m => ?_, List.pairwise_cons.mpr ⟨fun o m i z => ?_, q3⟩⟩
        · rcases List.mem_cons.mp m with z | z
          · cases z; rw [e2] at h; exact hne (Option.some.inj h)
          · exact (q1 i (up i h)).2 z
        · rcases List.mem_cons.mp m with z | z
          · cases z; exact (q1 _ hja).1
          · exact q2 i z
        · cases z
          intro z2
          rw [z2] at m
          exact (q1 _ hja).2 m
      · cases e
    · cases e
end
/-- the call -/
def callM (F : List D → Option (D × List D)) (mo : Env → Option (List Opd × Env)) : Env → Option (D × Env) := fun ρ => match mo ρ with
  | some (os, ρ1) => (match takeAll os ρ1 with
    | some (ds, ρ2) => (match F ds with
      | some (d, outs) => if outs.length = ds.length then some (d, putAll os outs ρ2) else none
      | none => none)
    | none => none)
  | none => none
theorem call_core {F : List D → Option (D × List D)} {n : Nat} (hn : ∀ ρ os ρ', mo ρ = some (os, ρ') → os.length = n) {tp : TA}
    (s : ∀ (G H : Hp) (ω : Ow) (σ τ : Sl) (ρ δ : List D) (os : List Opd) (ρ' : Env) (Q : List V → Hp → Prop), σ.length = ρ.length → Good X.K G H ω (σ ++ τ) (ρ ++ δ) → mo ρ = some (os, ρ') →
    (∀ G' H' ω' vs, vs.length = os.length → Tr ω ω' G H G' H' → Good X.K G' H' ω' (σ ++ (τ ++ vs.map some)) (ρ' ++ (δ ++ os.map opdD)) → Paired (OpdAt σ) os vs → Q vs H') → tp σ H Q)
    {G H : Hp} {ω : Ow} {σ τ : Sl} {ρ δ : List D} {d : D} {ρ' : Env} {Q : VK} {E : XK} (hl : σ.length = ρ.length) (g : Good X.K G H ω (σ ++ τ) (ρ ++ δ)) (e : callM F mo ρ = some (d, ρ'))
    (q : ∀ G' H' ω' v, Tr ω ω' G H G' H' → Good X.K G' H' ω' (σ ++ (τ ++ [some v])) (ρ' ++ (δ ++ [d])) → Q v H') : tp σ H fun vs H1 => spP X.K n F vs H1 Q E := by
  unfold callM at e
  split at e
  · rename_i os ρ1 e1
    split at e
    · rename_i ds ρ2 e2
      split at e
      · rename_i d outs e3
        split at e
        · rename_i ho
          cases e
          refine s G H ω σ τ ρ δ os ρ1 _ hl g e1 fun G1 H1 ω1 vs n1 t1 g1 pr => ?_
          have h2 := g.lensL hl
          have hl1 : σ.length = ρ1.length := lens g g1 (by simpa using n1) hl
          obtain ⟨ω2, g2, t2⟩ := Good.take hl1 h2 g1 pr e2
          obtain ⟨lt1, lt2⟩ := len_take e2
          have hl2 : σ.length = ρ2.length := by omega
          have g2' : Good X.K G1 H1 ω2 ((σ ++ τ) ++ vs.map some) ((ρ2 ++ δ) ++ ds) := by rw [List.append_assoc, List.append_assoc]; exact g2
          have hlb : (σ ++ τ).length = (ρ2 ++ δ).length := by simp; omega
          refine ⟨by rw [n1, hn _ _ _ e1], G1, subO ω2 (ρ2 ++ δ).length, ds, d, outs, g2'.sub hlb rfl, e3, fun G3 H3 ω3 v t3 g3 => ?_⟩
          obtain ⟨g4, t4⟩ := g2'.sup hlb rfl t3 g3
          have g5 : Good X.K G3 H3 (supO ω2 ω3 (ρ2 ++ δ).length) (σ ++ (τ ++ (vs.map some ++ [some v]))) (ρ2 ++ (δ ++ (outs ++ [d]))) := by simpa [List.append_assoc] using g4
          obtain ⟨_, q2, q3⟩ := took e2
          obtain ⟨ω6, ds', n6, g6, t6⟩ := Good.put (ρ0 := []) (ds0 := []) hl2 h2 (by omega) q2 q3 g5 pr
          have g7 : Good X.K G3 H3 ω6 ((σ ++ τ) ++ (vs.map some ++ [some v])) ((putAll os outs ρ2 ++ δ) ++ (ds' ++ [d])) := by simpa [List.append_assoc] using g6
          obtain ⟨g8, t8⟩ := g7.squash (by simp [len_put]; omega) (by simp; omega)
          rw [List.append_assoc, List.append_assoc] at g8
          exact q G3 H3 _ v (t1.trans (t2.trans (t4.trans (t6.trans t8)))) g8
        · cases e
      · cases e
    · cases e
  · cases e
theorem ev_call {k : Nat} {f0 : Addr} {fd : FuncData} {ps : List Str} {F : List D → Option (D × List D)} {n : Nat} {x : Str} {p : Pos} (FO : FnOk X.prog X.w X.K X.mg X.base CX0 k f0 fd ps (spP X.K n F)) (hr : Room k X.A) (hg : Gl X x) (hm : X.mg x = some (.ref f0)) (hk : PySem.W.keepIn X.K (.ref f0) = true) (hb : Binds X.K fd ps [])
    (h : CV X (e :: es) mo) (hn : (e :: es).length = n := by rfl) (hdb : (x == ("__debug__" : Str)) = false := by decide) (he : starEach (e :: es) X.env = (false, eval e X.env) :: starEach es X.env := by rfl) (hpl : ((backTo pos (starEach es X.env)).any fun x => x.1) = false := by rfl) :
    EV X (.Call (.Name x p) (e :: es) [] pos) (callM F mo) := by
  obtain ⟨tp, pp, s⟩ := h.ex
  refine ⟨_, pe_call FO hr hg hm hk hb .nil pass0 pp hdb he hpl, fun G H ω σ τ ρ δ d ρ' Q hl g e q => ?_⟩
  have := call_core (E := E0) (n := n) (fun ρ os ρ' e => (h.n ρ os ρ' e).trans hn) s hl g e q
  unfold tCall
  simp only [List.append_nil]
  exact this
end
end CW

namespace CW
open PySem L2
section
variable {K : PySem.W.Frag} {G H G' H' : Hp} {ω ω' : Ow} {σ τ σ2 : Sl} {ρ δ ρ2 : List D}
/-- the places renamed -/
def reO (ι : Nat → Option Nat) (ω : Ow) : Ow := fun b => match ω b with
  | some (k :: r) => (match ι k with
    | some j => some (j :: r)
    | none => none)
  | _ => none
theorem reO_some {ι : Nat → Option Nat} {b : Addr} (h : reO ι ω b ≠ none) : ω b ≠ none := by
  unfold reO at h
  split at h
  · rename_i k r e; rw [e]; simp
  · exact absurd rfl h
theorem Good.re (ι : Nat → Option Nat) (g : Good K G H ω σ ρ) (hl : σ2.length = ρ2.length) (h : ∀ (j : Nat) (d : D), ρ2[j]? = some d → d = .any ∨ ∃ k, ι k = some j ∧ ρ[k]? = some d ∧ σ2[j]? = σ[k]?) : Good K G H (reO ι ω) σ2 ρ2 ∧ Tr ω (reO ι ω) G H G H := by
  refine ⟨⟨g.same, fun b h => g.out b (reO_some h), fun b h => g.live b (reO_some h), hl, fun j d e => ?_⟩, Same.refl _, fun _ _ e _ => e, fun _ h => .inl h, fun _ h => .inr (reO_some h)⟩
  rcases h j d e with z | ⟨k, e1, e2, e3⟩
  · exact .inl z
  · rcases g.sl k d e2 with z | ⟨v, e4, h4⟩
    · exact .inl z
    · refine .inr ⟨v, by rw [e3]; exact e4, Own.move (Same.refl _) _ _ (fun b r er => ⟨rfl, ?_⟩) d v h4⟩
      unfold reO
      rw [er]
      show (match ι k with | some j => some (j :: r) | none => none) = _
      rw [e1]; rfl
/-- the last value comes to the i-th place -/
theorem Good.store {i : Nat} {v : V} {d : D} (g : Good K G H ω (σ ++ [some v]) (ρ ++ [d])) (hl : σ.length = ρ.length) (hi : i < ρ.length) : ∃ ω', Good K G H ω' (σ.set i (some v)) (ρ.set i d) ∧ Tr ω ω' G H G H := by
  refine ⟨_, g.re (fun k => if k = ρ.length then some i else if k = i then none else some k) (by simp [hl]) fun j d' e => ?_⟩
  by_cases hj : j = i
  · subst hj
    rw [List.getElem?_set_self hi] at e
    cases e
    refine .inr ⟨ρ.length, by rw [if_pos rfl], by simp, ?_⟩
    rw [List.getElem?_set_self (by omega)]
    rw [← hl]; simp
  · rw [List.getElem?_set_ne (Ne.symm hj)] at e
    have hj2 : j < ρ.length := (List.getElem?_eq_some_iff.mp e).1
    refine .inr ⟨j, by rw [if_neg (by omega), if_neg hj], by rw [List.getElem?_append_left hj2]; exact e, ?_⟩
    rw [List.getElem?_set_ne (Ne.symm hj), List.getElem?_append_left (by omega)]
/-- a frozen thing to the i-th place -/
theorem Good.setF {i : Nat} {v : V} {d : D} (g : Good K G H ω σ ρ) (h : Rep K G d v) : Good K G H ω (σ.set i (some v)) (ρ.set i d) := by
  refine ⟨g.same, g.out, g.live, by simp [g.len], fun j d' e => ?_⟩
  by_cases hj : j = i
  · subst hj
    have hi : j < ρ.length := by
      have := (List.getElem?_eq_some_iff.mp e).1
      simpa using this
    rw [List.getElem?_set_self hi] at e
    cases e
    exact .inr ⟨v, by rw [List.getElem?_set_self (by rw [g.len]; exact hi)], Own.frz h⟩
  · rw [List.getElem?_set_ne (Ne.symm hj)] at e
    rcases g.sl j d' e with z | ⟨u, e1, h1⟩
    · exact .inl z
    · exact .inr ⟨u, by rw [List.getElem?_set_ne (Ne.symm hj)]; exact e1, h1⟩
/-- what the i-th place owns is written -/
theorem Good.write1 {i : Nat} {a : Addr} {o' : HO} {d' : D} (g : Good K G H ω σ ρ) (hs : σ[i]? = some (some (.ref a))) (hw : ω a = some [i]) (hd : Own K G (upd H a o') ω [i] d' (.ref a)) :
    Good K G (upd H a o') ω σ (ρ.set i d') ∧ Tr ω ω G H G (upd H a o') := by
  have ga : G a = none := g.out a (by rw [hw]; simp)
  refine ⟨⟨fun b x e => ?_, g.out, fun b h => ?_, by simp [g.len], fun j d e => ?_⟩, Same.refl _, fun b x e h => ?_, fun _ h => .inl h, fun _ h => .inr h⟩
  · rw [upd_ne (ne_of_none e ga)]; exact g.same b x e
  · by_cases hb : b = a
    · subst hb; rw [upd_same]; simp
    · rw [upd_ne hb]; exact g.live b h
  · by_cases hj : j = i
    · subst hj
      have hi : j < ρ.length := by
        have := (List.getElem?_eq_some_iff.mp e).1
        simpa using this
      rw [List.getElem?_set_self hi] at e
      cases e
      exact .inr ⟨_, hs, hd⟩
    · rw [List.getElem?_set_ne (Ne.symm hj)] at e
      rcases g.sl j d e with z | ⟨u, e1, h1⟩
      · exact .inl z
      · refine .inr ⟨u, e1, Own.move (Same.refl _) _ _ (fun b r er => ⟨upd_ne fun z => ?_, er⟩) d u h1⟩
        rw [z, hw] at er
        have : [i] = [j] ++ r := Option.some.inj er
        simp at this
        exact hj this.1.symm
  · have hb : b ≠ a := fun z => by rw [z, hw] at h; cases h
    rw [upd_ne hb]; exact e
end
/-! ### statements -/
inductive Res where
  | nx (ρ : Env)
  | rt (d : D) (ρ : Env)
  | bk (ρ : Env)
  | ct (ρ : Env)
def Prot (P : List Nat) (σ σ' : Sl) : Prop := ∀ i ∈ P, σ'[i]? = σ[i]?
theorem Prot.refl {P : List Nat} {σ : Sl} : Prot P σ σ := fun _ _ => rfl
theorem Prot.trans {P : List Nat} {σ σ' σ'' : Sl} (a : Prot P σ σ') (b : Prot P σ' σ'') : Prot P σ σ'' := fun i h => (b i h).trans (a i h)
theorem Prot.set {P : List Nat} {σ : Sl} {i : Nat} {x : Option V} (h : P.contains i = false) : Prot P σ (σ.set i x) := fun j hj => by
  have hne : i ≠ j := fun z => by
    subst z
    have := List.contains_iff_mem.mpr hj
    rw [h] at this; cases this
  rw [List.getElem?_set_ne hne]
def GoNx (K : PySem.W.Frag) (P : List Nat) (G H : Hp) (ω : Ow) (σ : Sl) (ρ' : Env) (Q : St → Hp → Prop) : Prop := ∀ G' H' ω' σ', Tr ω ω' G H G' H' → Good K G' H' ω' σ' ρ' → Prot P σ σ' → Q σ' H'
def GoRt (K : PySem.W.Frag) (P : List Nat) (G H : Hp) (ω : Ow) (σ : Sl) (d : D) (ρ' : Env) (Q : VK) : Prop := ∀ G' H' ω' σ' v, Tr ω ω' G H G' H' → Good K G' H' ω' (σ' ++ [some v]) (ρ' ++ [d]) → Prot P σ σ' → Q v H'
def SPost (K : PySem.W.Frag) (P : List Nat) (G H : Hp) (ω : Ow) (σ : Sl) (r : Res) (D : Ends) : Prop := match r with
  | .nx ρ' => GoNx K P G H ω σ ρ' D.nx
  | .bk ρ' => GoNx K P G H ω σ ρ' D.bk
  | .ct ρ' => GoNx K P G H ω σ ρ' D.ct
  | .rt d ρ' => GoRt K P G H ω σ d ρ' D.rt
theorem GoNx.step {K : PySem.W.Frag} {P : List Nat} {G H G' H' : Hp} {ω ω' : Ow} {σ σ' : Sl} {ρ' : Env} {Q : St → Hp → Prop} (h : GoNx K P G H ω σ ρ' Q) (t : Tr ω ω' G H G' H') (p : Prot P σ σ') : GoNx K P G' H' ω' σ' ρ' Q :=
  fun G2 H2 ω2 σ2 t2 g2 p2 => h G2 H2 ω2 σ2 (t.trans t2) g2 (p.trans p2)
theorem SPost.step {K : PySem.W.Frag} {P : List Nat} {G H G' H' : Hp} {ω ω' : Ow} {σ σ' : Sl} {r : Res} {D : Ends} (h : SPost K P G H ω σ r D) (t : Tr ω ω' G H G' H') (p : Prot P σ σ') : SPost K P G' H' ω' σ' r D := by
  cases r with
  | nx ρ => exact GoNx.step h t p
  | bk ρ => exact GoNx.step h t p
  | ct ρ => exact GoNx.step h t p
  | rt d ρ => exact fun G2 H2 ω2 σ2 v t2 g2 p2 => h G2 H2 ω2 σ2 v (t.trans t2) g2 (p.trans p2)
structure SS (X : Cx) (P : List Nat) (st : Stmt) (m : Env → Option Res) : Prop where
  ex : ∃ t, PS X st t ∧ ∀ (G H : Hp) (ω : Ow) (σ : Sl) (ρ : Env) (r : Res) (D : Ends), Good X.K G H ω σ ρ → m ρ = some r → SPost X.K P G H ω σ r D → t D σ H
structure BS (X : Cx) (P : List Nat) (st : List Stmt) (m : Env → Option Res) : Prop where
  ex : ∃ t, PSs X st t ∧ ∀ (G H : Hp) (ω : Ow) (σ : Sl) (ρ : Env) (r : Res) (D : Ends), Good X.K G H ω σ ρ → m ρ = some r → SPost X.K P G H ω σ r D → t D σ H
section
variable {X : Cx} {P : List Nat} {e a b : Expr} {es : List Expr} {st : Stmt} {rest body : List Stmt} {pos : Pos} {f g : Env → Option D} {m ma mb : Env → Option (D × Env)} {ms : Env → Option (List D × Env)} {s s' : Env → Option Res}
def seqM (s s' : Env → Option Res) : Env → Option Res := fun ρ => match s ρ with
  | some (.nx ρ') => s' ρ'
  | r => r
def skipM : Env → Option Res := fun ρ => some (.nx ρ)
theorem bs_nil : BS X P [] skipM := ⟨_, pss_nil, fun G H ω σ ρ r D g e q => by
  cases e
  exact q G H ω σ Tr.refl g Prot.refl⟩
theorem bs_one (h : SS X P st s) : BS X P [st] s := by
  obtain ⟨t, p, z⟩ := h.ex
  exact ⟨t, pss_one p, z⟩
theorem bs_cons (h : SS X P st s) (h' : BS X P rest s') : BS X P (st :: rest) (seqM s s') := by
  obtain ⟨t, p, z⟩ := h.ex
  obtain ⟨t', p', z'⟩ := h'.ex
  refine ⟨_, pss_cons p p', fun G H ω σ ρ r D g e q => ?_⟩
  unfold seqM at e
  split at e
  · rename_i ρ1 e1
    exact z G H ω σ ρ _ _ g e1 fun G1 H1 ω1 σ1 t1 g1 p1 => z' G1 H1 ω1 σ1 ρ1 r D g1 e (SPost.step q t1 p1)
  · rename_i hn
    refine z G H ω σ ρ r _ g e ?_
    cases r with
    | nx ρ1 => exact absurd e (hn ρ1)
    | bk ρ1 => exact q
    | ct ρ1 => exact q
    | rt d ρ1 => exact q
/-! ### small statements -/
theorem ss_pass : SS X P (.Pass pos) skipM := ⟨_, ps_pass, fun G H ω σ ρ r D g e q => by
  cases e
  exact q G H ω σ Tr.refl g Prot.refl⟩
theorem ss_break : SS X P (.Break pos) (fun ρ => some (.bk ρ)) := ⟨_, ps_break, fun G H ω σ ρ r D g e q => by
  cases e
  exact q G H ω σ Tr.refl g Prot.refl⟩
theorem ss_continue : SS X P (.Continue pos) (fun ρ => some (.ct ρ)) := ⟨_, ps_continue, fun G H ω σ ρ r D g e q => by
  cases e
  exact q G H ω σ Tr.refl g Prot.refl⟩
theorem Good.nil0 {K : PySem.W.Frag} {G H : Hp} {ω : Ow} {σ : Sl} {ρ : List D} (g : Good K G H ω σ ρ) : Good K G H ω (σ ++ []) (ρ ++ []) := by
  rw [List.append_nil, List.append_nil]; exact g
/-- x = e -/
def setM (i : Nat) (m : Env → Option (D × Env)) : Env → Option Res := fun ρ => match m ρ with
  | some (d, ρ') => some (.nx (ρ'.set i d))
  | none => none
theorem ss_set {i : Nat} {x : Str} {pos' : Pos} (h : EV X e m) (hN : X.N.Nodup) (hi : X.N[i]? = some x) (hx : L2.Loc X.env.scope x) (hP : P.contains i = false := by rfl) (hlen : ∀ σ : Sl, True := by intro _; trivial)
    (hs : swapsWith e (some (.Name x pos')) pos.line X.env = pure false := by rfl) (hf : X.fn x = true ∨ X.env.scope.names.lookup x = some .local := by first | exact .inl rfl | exact .inr rfl | assumption) :
    SS X P (.Assign [.Name x pos'] e pos) (setM i m) := by
  obtain ⟨te, p, z⟩ := h.ex
  refine ⟨_, ps_set hN hi hx p hs hf, fun G H ω σ ρ r D g e q => ?_⟩
  unfold setM at e
  split at e
  · rename_i d ρ1 e1
    cases e
    refine z G H ω σ [] ρ [] d ρ1 _ g.len g.nil0 e1 fun G1 H1 ω1 v t1 g1 => ?_
    have hl : σ.length = ρ1.length := lens g.nil0 g1 rfl g.len
    have g2 : Good X.K G1 H1 ω1 (σ ++ [some v]) (ρ1 ++ [d]) := g1
    by_cases hi2 : i < ρ1.length
    · obtain ⟨ω3, g3, t3⟩ := g2.store hl hi2
      exact q G1 H1 ω3 _ (t1.trans t3) g3 (Prot.set hP)
    · have e1 : σ.set i (some v) = σ := List.set_eq_of_length_le (by omega)
      have e2 : ρ1.set i d = ρ1 := List.set_eq_of_length_le (by omega)
      show D.nx (σ.set i (some v)) H1
      rw [e2] at q
      rw [e1]
      exact q G1 H1 ω1 σ t1 (g2.pre hl) Prot.refl
  · cases e
/-- e, its value dropped -/
def dropM (m : Env → Option (D × Env)) : Env → Option Res := fun ρ => match m ρ with
  | some (_, ρ') => some (.nx ρ')
  | none => none
theorem ss_expr (h : EV X e m) (hs : swapsWith e none pos.line X.env = pure false := by rfl) : SS X P (.Expr e pos) (dropM m) := by
  obtain ⟨te, p, z⟩ := h.ex
  refine ⟨_, ps_expr p hs, fun G H ω σ ρ r D g e q => ?_⟩
  unfold dropM at e
  split at e
  · rename_i d ρ1 e1
    cases e
    refine z G H ω σ [] ρ [] d ρ1 _ g.len g.nil0 e1 fun G1 H1 ω1 v t1 g1 => ?_
    have hl : σ.length = ρ1.length := lens g.nil0 g1 rfl g.len
    exact q G1 H1 ω1 σ t1 (g1.pre hl) Prot.refl
  · cases e
def retM (m : Env → Option (D × Env)) : Env → Option Res := fun ρ => match m ρ with
  | some (d, ρ') => some (.rt d ρ')
  | none => none
theorem ss_ret (h : EV X e m) : SS X P (.Return (some e) pos) (retM m) := by
  obtain ⟨te, p, z⟩ := h.ex
  refine ⟨_, ps_ret p, fun G H ω σ ρ r D g e q => ?_⟩
  unfold retM at e
  split at e
  · rename_i d ρ1 e1
    cases e
    refine z G H ω σ [] ρ [] d ρ1 _ g.len g.nil0 e1 fun G1 H1 ω1 v t1 g1 => ?_
    exact q G1 H1 ω1 σ v t1 g1 Prot.refl
  · cases e
theorem ss_retN : SS X P (.Return none pos) (fun ρ => some (.rt .non ρ)) := ⟨_, ps_retN, fun G H ω σ ρ r D g e q => by
  cases e
  exact q G H ω σ .non Tr.refl (g.pushF (by unfold Rep; rfl)) Prot.refl⟩
/-! ### tests of any kind -/
def qB (t : Env → Option Bool) : Env → Option (Bool × Env) := fun ρ => (t ρ).map fun b => (b, ρ)
theorem TQ.tv {t : Env → Option Bool} (h : TQ X e t) : TV X e (qB t) := by
  obtain ⟨tt, p, z⟩ := h.ex
  refine ⟨tt, p, fun G H ω σ τ ρ δ b ρ' Q hl g e q => ?_⟩
  unfold qB at e
  cases et : t ρ with
  | none => rw [et] at e; cases e
  | some c => rw [et] at e; cases e; exact z G H ω σ τ ρ δ _ Q hl g et (q G H ω Tr.refl g)
def truthM (m : Env → Option (D × Env)) : Env → Option (Bool × Env) := fun ρ => match m ρ with
  | some (d, ρ') => (truthD d).map fun b => (b, ρ')
  | none => none
theorem tv_truth (ha : EV X a m) (he : ∀ whole, isTrue a X.env whole = (do let v ← whole; standAt a.pos; holding [v] (truthy v)) := by intro _; rfl) : TV X a (truthM m) := by
  obtain ⟨ta, pa, sa⟩ := ha.ex
  refine ⟨_, pt_truth pa he, fun G H ω σ τ ρ δ c ρ' Q hl gd e q => ?_⟩
  unfold truthM at e
  split at e
  · rename_i d ρ1 e1
    cases et : truthD d with
    | none => rw [et] at e; cases e
    | some x =>
      rw [et] at e
      cases e
      exact sa G H ω σ τ ρ δ d _ _ hl gd e1 fun G1 H1 ω1 v t1 g1 => ⟨c, truth_ok g1.same g1.last et, q G1 H1 ω1 t1 g1.drop1⟩
  · cases e
def notM (t : Env → Option (Bool × Env)) : Env → Option (Bool × Env) := fun ρ => (t ρ).map fun p => (!p.1, p.2)
theorem tv_not {t : Env → Option (Bool × Env)} (ha : TV X a t) : TV X (.UnaryOp .Not a pos) (notM t) := by
  obtain ⟨ta, pa, sa⟩ := ha.ex
  refine ⟨_, pt_not pa, fun G H ω σ τ ρ δ c ρ' Q hl gd e q => ?_⟩
  unfold notM at e
  cases ef : t ρ with
  | none => rw [ef] at e; cases e
  | some x =>
    rw [ef] at e
    cases e
    exact sa G H ω σ τ ρ δ x.1 x.2 _ hl gd ef q
structure WV (X : Cx) (e : Expr) (m : Env → Option (Bool × Env)) : Prop where
  ex : ∃ t, PW X e t ∧ ∀ (G H : Hp) (ω : Ow) (σ τ : Sl) (ρ δ : List D) (b : Bool) (ρ' : Env) (Q : Bool → Hp → Prop), σ.length = ρ.length → Good X.K G H ω (σ ++ τ) (ρ ++ δ) → m ρ = some (b, ρ') →
    (∀ G' H' ω', Tr ω ω' G H G' H' → Good X.K G' H' ω' (σ ++ τ) (ρ' ++ δ) → Q b H') → t σ H Q
variable {t t' : Env → Option (Bool × Env)} {rs : List Expr}
theorem WV.tv (h : WV X e t) : TV X e t := by
  obtain ⟨tt, p, s⟩ := h.ex
  exact ⟨tt, p.pt, s⟩
theorem wv_and1 (ha : TV X a t) : WV X (.BoolOp .And [a] pos) t := by
  obtain ⟨tt, p, s⟩ := ha.ex
  exact ⟨tt, pw_and1 p, s⟩
theorem wv_or1 (ha : TV X a t) : WV X (.BoolOp .Or [a] pos) t := by
  obtain ⟨tt, p, s⟩ := ha.ex
  exact ⟨tt, pw_or1 p, s⟩
def andM (t t' : Env → Option (Bool × Env)) : Env → Option (Bool × Env) := fun ρ => match t ρ with
  | some (true, ρ') => t' ρ'
  | r => r
def orT (t t' : Env → Option (Bool × Env)) : Env → Option (Bool × Env) := fun ρ => match t ρ with
  | some (false, ρ') => t' ρ'
  | r => r
theorem Good.lenT {K : PySem.W.Frag} {G H G' H' : Hp} {ω ω' : Ow} {σ τ : Sl} {ρ ρ' δ : List D} (g : Good K G H ω (σ ++ τ) (ρ ++ δ)) (g' : Good K G' H' ω' (σ ++ τ) (ρ' ++ δ)) (hl : σ.length = ρ.length) : σ.length = ρ'.length := by
  have a1 := g.len
  have a2 := g'.len
  simp only [List.length_append] at a1 a2
  omega
theorem wv_and (ha : TV X a t) (hb : WV X (.BoolOp .And (b :: rs) pos) t') : WV X (.BoolOp .And (a :: b :: rs) pos) (andM t t') := by
  obtain ⟨u, p, s⟩ := ha.ex
  obtain ⟨u', p', s'⟩ := hb.ex
  refine ⟨_, pw_and p p', fun G H ω σ τ ρ δ c ρ' Q hl gd e q => ?_⟩
  unfold andM at e
  split at e
  · rename_i ρ1 e1
    exact s G H ω σ τ ρ δ true ρ1 _ hl gd e1 fun G1 H1 ω1 t1 g1 => iteT (s' G1 H1 ω1 σ τ ρ1 δ c ρ' Q (gd.lenT g1 hl) g1 e fun G2 H2 ω2 t2 g2 => q G2 H2 ω2 (t1.trans t2) g2)
  · rename_i hn
    refine s G H ω σ τ ρ δ c ρ' _ hl gd e fun G1 H1 ω1 t1 g1 => ?_
    cases c with
    | true => exact absurd e (hn ρ')
    | false => exact iteF (q G1 H1 ω1 t1 g1)
theorem wv_or (ha : TV X a t) (hb : WV X (.BoolOp .Or (b :: rs) pos) t') : WV X (.BoolOp .Or (a :: b :: rs) pos) (orT t t') := by
  obtain ⟨u, p, s⟩ := ha.ex
  obtain ⟨u', p', s'⟩ := hb.ex
  refine ⟨_, pw_or p p', fun G H ω σ τ ρ δ c ρ' Q hl gd e q => ?_⟩
  unfold orT at e
  split at e
  · rename_i ρ1 e1
    exact s G H ω σ τ ρ δ false ρ1 _ hl gd e1 fun G1 H1 ω1 t1 g1 => iteF (s' G1 H1 ω1 σ τ ρ1 δ c ρ' Q (gd.lenT g1 hl) g1 e fun G2 H2 ω2 t2 g2 => q G2 H2 ω2 (t1.trans t2) g2)
  · rename_i hn
    refine s G H ω σ τ ρ δ c ρ' _ hl gd e fun G1 H1 ω1 t1 g1 => ?_
    cases c with
    | false => exact absurd e (hn ρ')
    | true => exact iteT (q G1 H1 ω1 t1 g1)
/-- a comparison of any two values, as a test -/
def cmpM (F : D → D → Option D) (ma mb : Env → Option (D × Env)) : Env → Option (Bool × Env) := fun ρ => match op2M F ma mb ρ with
  | some (.bl c, ρ') => some (c, ρ')
  | _ => none
theorem tv_op {op : CmpOp} {r : R2} {F : D → D → Option D} (ho : OpR X (compareOp op) r) (hr : QOp X.K r F) (ha : EV X a ma) (hb : EV X b mb) (hm : behindInMarks op b = false) : TV X (.Compare a [op] [b] pos) (cmpM F ma mb) := by
  obtain ⟨ta, pa, sa⟩ := ha.ex
  obtain ⟨tb, pb, sb⟩ := hb.ex
  refine ⟨_, pt_cmpR ho pa pb hm, fun G H ω σ τ ρ δ c ρ' Q hl g e q => ?_⟩
  unfold cmpM op2M at e
  split at e
  · rename_i c' ρ1 e0
    cases e
    split at e0
    · rename_i x ρ1 e1
      split at e0
      · rename_i y ρ2 e2
        split at e0
        · rename_i d1 e3
          split at e0
          · cases e0
            exact two sa sb hl g e1 e2 fun G1 H1 ω1 v u t1 g1 hx hy => hr G1 H1 x y _ v u _ g1.same hx hy e3 fun w hw => ⟨c, hw.eqS rfl, q G1 H1 ω1 t1 g1⟩
          · cases e0
        · cases e0
      · cases e0
    · cases e0
  · cases e
theorem tv_eq (hu : X.A.units + 64 < cLine) (ha : EV X a ma) (hb : EV X b mb) : TV X (.Compare a [.Eq] [b] pos) (cmpM eqD ma mb) := tv_op (OpR.or op_eq (op_eqD hu)) q_eq ha hb (nomark _)
theorem tv_ne (hu : X.A.units + 64 < cLine) (ha : EV X a ma) (hb : EV X b mb) : TV X (.Compare a [.NotEq] [b] pos) (cmpM neD ma mb) := tv_op (OpR.or op_ne (op_neD hu)) q_ne ha hb (nomark _)
theorem tv_lt (ha : EV X a ma) (hb : EV X b mb) : TV X (.Compare a [.Lt] [b] pos) (cmpM ltI ma mb) := tv_op op_lt (q_opI0 fun _ _ => rfl) ha hb (nomark _)
theorem tv_gt (ha : EV X a ma) (hb : EV X b mb) : TV X (.Compare a [.Gt] [b] pos) (cmpM gtI ma mb) := tv_op op_gt (q_opI0 fun _ _ => rfl) ha hb (nomark _)
theorem ev_eq (hu : X.A.units + 64 < cLine) (ha : EV X a ma) (hb : EV X b mb) : EV X (.Compare a [.Eq] [b] pos) (op2M eqD ma mb) := ev_op q_eq ha hb fun p q => pe_cmpR (OpR.or op_eq (op_eqD hu)) p q (nomark _)
/-- a value by a test -/
def ifM {α : Type} (t : Env → Option (Bool × Env)) (f g : Env → Option α) : Env → Option α := fun ρ => match t ρ with
  | some (true, ρ') => f ρ'
  | some (false, ρ') => g ρ'
  | none => none
theorem ev_if {c : Expr} (hc : TV X c t) (ha : EV X a ma) (hb : EV X b mb) : EV X (.IfExp c a b pos) (ifM t ma mb) := by
  obtain ⟨tt, p, s⟩ := hc.ex
  obtain ⟨ta, pa, sa⟩ := ha.ex
  obtain ⟨tb, pb, sb⟩ := hb.ex
  refine ⟨_, pe_ifExp p pa pb, fun G H ω σ τ ρ δ d ρ' Q hl gd e q => ?_⟩
  unfold ifM at e
  split at e
  · rename_i ρ1 e1
    exact s G H ω σ τ ρ δ true ρ1 _ hl gd e1 fun G1 H1 ω1 t1 g1 => iteT (sa G1 H1 ω1 σ τ ρ1 δ d ρ' Q (gd.lenT g1 hl) g1 e fun G2 H2 ω2 v t2 g2 => q G2 H2 ω2 v (t1.trans t2) g2)
  · rename_i ρ1 e1
    exact s G H ω σ τ ρ δ false ρ1 _ hl gd e1 fun G1 H1 ω1 t1 g1 => iteF (sb G1 H1 ω1 σ τ ρ1 δ d ρ' Q (gd.lenT g1 hl) g1 e fun G2 H2 ω2 v t2 g2 => q G2 H2 ω2 v (t1.trans t2) g2)
  · cases e
theorem ss_if {c : Expr} {A B : List Stmt} (hc : TV X c t) (ha : BS X P A s) (hb : BS X P B s') : SS X P (.If c A B pos) (ifM t s s') := by
  obtain ⟨tt, p, z⟩ := hc.ex
  obtain ⟨ta, pa, sa⟩ := ha.ex
  obtain ⟨tb, pb, sb⟩ := hb.ex
  refine ⟨_, ps_if p pa pb, fun G H ω σ ρ r D g e q => ?_⟩
  unfold ifM at e
  split at e
  · rename_i ρ1 e1
    exact z G H ω σ [] ρ [] true ρ1 _ g.len g.nil0 e1 fun G1 H1 ω1 t1 g1 => iteT (sa G1 H1 ω1 σ ρ1 r D (by rw [List.append_nil, List.append_nil] at g1; exact g1) e (SPost.step q t1 Prot.refl))
  · rename_i ρ1 e1
    exact z G H ω σ [] ρ [] false ρ1 _ g.len g.nil0 e1 fun G1 H1 ω1 t1 g1 => iteF (sb G1 H1 ω1 σ ρ1 r D (by rw [List.append_nil, List.append_nil] at g1; exact g1) e (SPost.step q t1 Prot.refl))
  · cases e
/-! ### while -/
def whileM (t : Env → Option (Bool × Env)) (s : Env → Option Res) : Nat → Env → Option Res
  | 0, _ => none
  | n + 1, ρ => match t ρ with
    | some (false, ρ') => some (.nx ρ')
    | some (true, ρ') => (match s ρ' with
      | some (.nx ρ2) => whileM t s n ρ2
      | some (.ct ρ2) => whileM t s n ρ2
      | some (.bk ρ2) => some (.nx ρ2)
      | some (.rt d ρ2) => some (.rt d ρ2)
      | none => none)
    | none => none
theorem ss_while {c : Expr} (N : Env → Nat) (hp : PassesOwn (model X.prog X.w) X.A X.env X.xe) (hc : TV X c t) (hb : BS X P body s) : SS X P (.While c body [] pos) (fun ρ => whileM t s (N ρ) ρ) := by
  obtain ⟨tt, p, z⟩ := hc.ex
  obtain ⟨tb, pb, sb⟩ := hb.ex
  refine ⟨_, ps_while hp p pb, fun G H ω σ ρ r D g e q => ?_⟩
  refine ⟨fun n σ1 H1 => ∃ G1 ω1 ρ1, Tr ω ω1 G H G1 H1 ∧ Good X.K G1 H1 ω1 σ1 ρ1 ∧ Prot P σ σ1 ∧ whileM t s n ρ1 = some r, ⟨N ρ, G, ω, ρ, Tr.refl, g, Prot.refl, e⟩, ?_⟩
  rintro n σ1 H1 ⟨G1, ω1, ρ1, t1, g1, p1, e1⟩
  cases n with
  | zero => unfold whileM at e1; cases e1
  | succ n =>
    unfold whileM at e1
    split at e1
    · rename_i ρ2 e2
      cases e1
      exact z G1 H1 ω1 σ1 [] ρ1 [] false ρ2 _ g1.len g1.nil0 e2 fun G2 H2 ω2 t2 g2 => iteF (q G2 H2 ω2 σ1 (t1.trans t2) (by rw [List.append_nil, List.append_nil] at g2; exact g2) p1)
    · rename_i ρ2 e2
      refine z G1 H1 ω1 σ1 [] ρ1 [] true ρ2 _ g1.len g1.nil0 e2 fun G2 H2 ω2 t2 g2 => iteT ?_
      refine ⟨fun σ3 H3 => ∃ G3 ω3 ρ3, Tr ω ω3 G H G3 H3 ∧ Good X.K G3 H3 ω3 σ3 ρ3 ∧ Prot P σ σ3 ∧ whileM t s n ρ3 = some r, fun σ3 H3 h => ⟨n, Nat.lt_succ_self n, h⟩, ?_⟩
      rw [List.append_nil, List.append_nil] at g2
      split at e1
      · rename_i ρ3 e3
        exact sb G2 H2 ω2 σ1 ρ2 _ _ g2 e3 fun G3 H3 ω3 σ3 t3 g3 p3 => ⟨G3, ω3, ρ3, t1.trans (t2.trans t3), g3, p1.trans p3, e1⟩
      · rename_i ρ3 e3
        exact sb G2 H2 ω2 σ1 ρ2 _ _ g2 e3 fun G3 H3 ω3 σ3 t3 g3 p3 => ⟨G3, ω3, ρ3, t1.trans (t2.trans t3), g3, p1.trans p3, e1⟩
      · rename_i ρ3 e3
        cases e1
        exact sb G2 H2 ω2 σ1 ρ2 _ _ g2 e3 fun G3 H3 ω3 σ3 t3 g3 p3 => q G3 H3 ω3 σ3 (t1.trans (t2.trans t3)) g3 (p1.trans p3)
      · rename_i d ρ3 e3
        cases e1
        exact sb G2 H2 ω2 σ1 ρ2 _ _ g2 e3 fun G3 H3 ω3 σ3 v t3 g3 p3 => q G3 H3 ω3 σ3 v (t1.trans (t2.trans t3)) g3 (p1.trans p3)
      · cases e1
    · cases e1
end
end CW

namespace CW
open PySem L2
/-! ### targets -/
structure TGD (X : Cx) (P : List Nat) (tg : Expr) (t : D → Env → Option Env) : Prop where
  ex : ∃ g, PG X tg g ∧ ∀ (G H : Hp) (ω : Ow) (σ τ : Sl) (ρ δ : List D) (ρ' : Env) (d : D) (v : V) (Q : St → Hp → Prop), σ.length = ρ.length → Good X.K G H ω (σ ++ τ) (ρ ++ δ) → Rep X.K G d v → t d ρ = some ρ' →
    (∀ σ', σ'.length = σ.length → Good X.K G H ω (σ' ++ τ) (ρ' ++ δ) → Prot P σ σ' → Q σ' H) → g v σ H Q
/-- which places a target stores -/
def nameT (i : Nat) : D → Env → Option Env := fun d ρ => if i < ρ.length then some (ρ.set i d) else none
/-- an iterator hands out ds -/
def Yields (K : PySem.W.Frag) (G : Hp) (J : It) (ds : List D) : Prop := ∀ (i : Nat) (G2 H2 : Hp), Same G G2 → Same G2 H2 → (i = ds.length → J.stop i H2) ∧
  ∀ d, ds[i]? = some d → J.go i H2 ∧ ∀ x H3, J.yld i H2 x H3 → ∃ G3, ((G3 = G2 ∧ H3 = H2) ∨ ∃ p o, H2 p = none ∧ G3 = upd G2 p o ∧ H3 = upd H2 p o) ∧ Rep K G3 d x
structure IV (X : Cx) (tg e : Expr) (m : Env → Option (List D × Env)) : Prop where
  ex : ∃ wi, PI X tg e wi ∧ ∀ (G H : Hp) (ω : Ow) (σ τ : Sl) (ρ δ : List D) (ds : List D) (ρ' : Env) (R : It → Hp → Prop), σ.length = ρ.length → Good X.K G H ω (σ ++ τ) (ρ ++ δ) → m ρ = some (ds, ρ') →
    (∀ G' H' ω' J, Tr ω ω' G H G' H' → Good X.K G' H' ω' (σ ++ τ) (ρ' ++ δ) → Yields X.K G' J ds → R J H') → wi σ H R
section
variable {X : Cx} {P : List Nat} {e a b tg : Expr} {es : List Expr} {st : Stmt} {rest body : List Stmt} {pos : Pos} {f g : Env → Option D} {m ma mb : Env → Option (D × Env)} {ms : Env → Option (List D × Env)} {s s' : Env → Option Res} {t : D → Env → Option Env}
theorem set_app {α : Type} {i : Nat} {l m : List α} {x : α} (h : i < l.length) : (l ++ m).set i x = l.set i x ++ m := List.set_append_left _ _ h
theorem tg_name {i : Nat} {x : Str} (hN : X.N.Nodup) (hi : X.N[i]? = some x) (hx : L2.Loc X.env.scope x) (hP : P.contains i = false := by rfl) (hf : X.fn x = true ∨ X.env.scope.names.lookup x = some .local := by first | exact .inl rfl | exact .inr rfl | assumption) : TGD X P (.Name x pos) (nameT i) := by
  refine ⟨_, pg_name hN hi hx hf, fun G H ω σ τ ρ δ ρ' d v Q hl g hr e q => ?_⟩
  unfold nameT at e
  split at e
  · rename_i hlt
    cases e
    refine q (σ.set i (some v)) (by simp) ?_ (Prot.set hP)
    have := g.setF (i := i) hr
    rw [set_app hlt, set_app (by omega)] at this
    exact this
  · cases e
/-- several targets -/
structure TGs (X : Cx) (P : List Nat) (ts : List Expr) (t : List D → Env → Option Env) : Prop where
  ex : ∃ g, PGs X ts g ∧ ∀ (G H : Hp) (ω : Ow) (σ τ : Sl) (ρ δ : List D) (ρ' : Env) (ds : List D) (vs : List V) (Q : St → Hp → Prop), σ.length = ρ.length → Good X.K G H ω (σ ++ τ) (ρ ++ δ) → RepL X.K G ds vs → t ds ρ = some ρ' →
    (∀ σ', σ'.length = σ.length → Good X.K G H ω (σ' ++ τ) (ρ' ++ δ) → Prot P σ σ' → Q σ' H) → g vs σ H Q
def nilT : List D → Env → Option Env := fun ds ρ => match ds with
  | [] => some ρ
  | _ => none
def consT (t : D → Env → Option Env) (u : List D → Env → Option Env) : List D → Env → Option Env := fun ds ρ => match ds with
  | d :: ds => (match t d ρ with
    | some ρ' => u ds ρ'
    | none => none)
  | [] => none
theorem tgs_nil : TGs X P [] nilT := by
  refine ⟨_, pgs_nil, fun G H ω σ τ ρ δ ρ' ds vs Q hl g hr e q => ?_⟩
  unfold nilT at e
  split at e
  · cases e
    unfold RepL at hr
    exact ⟨hr, q σ rfl g Prot.refl⟩
  · cases e
theorem tgs_cons {u : List D → Env → Option Env} (h : TGD X P e t) (h' : TGs X P es u) (hs : (assignEach (e :: es) X.env).map (·.2) = assign e X.env :: (assignEach es X.env).map (·.2) := by rfl) : TGs X P (e :: es) (consT t u) := by
  obtain ⟨g1, p1, z1⟩ := h.ex
  obtain ⟨g2, p2, z2⟩ := h'.ex
  refine ⟨_, pgs_cons p1 p2 hs, fun G H ω σ τ ρ δ ρ' ds vs Q hl g hr e q => ?_⟩
  unfold consT at e
  split at e
  · rename_i d ds
    split at e
    · rename_i ρ1 e1
      unfold RepL at hr
      obtain ⟨v, r, rfl, h1, h2⟩ := hr
      refine ⟨v, r, rfl, z1 G H ω σ τ ρ δ ρ1 d v _ hl g h1 e1 fun σ1 n1 g1 pr1 => ?_⟩
      have hl1 : σ1.length = ρ1.length := by
        have a1 := g.len
        have a2 := g1.len
        simp only [List.length_append] at a1 a2
        omega
      exact z2 G H ω σ1 τ ρ1 δ ρ' ds r Q hl1 g1 h2 e fun σ2 n2 g2 pr2 => q σ2 (by omega) g2 (pr1.trans pr2)
    · cases e
  · cases e
def tupT (n : Nat) (u : List D → Env → Option Env) : D → Env → Option Env := fun d ρ => match d with
  | .tup ds => if ds.length = n then u ds ρ else none
  | _ => none
theorem tg_tup {k n : Nat} {u : List D → Env → Option Env} (hc : X.calm = true) (h : TGs X P es u) (hn : (assignEach es X.env).length = n := by rfl) (hst : (assignEach es X.env).findIdx? (·.1) = none := by rfl) : TGD X P (.Tuple es k pos) (tupT n u) := by
  obtain ⟨g1, p1, z1⟩ := h.ex
  refine ⟨_, pg_tup hc p1 hn hst, fun G H ω σ τ ρ δ ρ' d v Q hl g hr e q => ?_⟩
  unfold tupT at e
  split at e
  · rename_i ds
    split at e
    · rename_i hn2
      unfold Rep at hr
      obtain ⟨a, vs, rfl, h1, h2⟩ := hr
      exact ⟨a, vs, rfl, Same.seqT g.same h1, by rw [← h2.length]; exact hn2, z1 G H ω σ τ ρ δ ρ' ds vs Q hl g h2 e fun σ' n' g' pr => q σ' n' g' pr⟩
    · cases e
  · cases e
/-! ### for -/
def forM (t : D → Env → Option Env) (s : Env → Option Res) : List D → Env → Option Res
  | [], ρ => some (.nx ρ)
  | d :: ds, ρ => match t d ρ with
    | some ρ1 => (match s ρ1 with
      | some (.nx ρ2) => forM t s ds ρ2
      | some (.ct ρ2) => forM t s ds ρ2
      | some (.bk ρ2) => some (.nx ρ2)
      | some (.rt d ρ2) => some (.rt d ρ2)
      | none => none)
    | none => none
def forS (ms : Env → Option (List D × Env)) (t : D → Env → Option Env) (s : Env → Option Res) : Env → Option Res := fun ρ => match ms ρ with
  | some (ds, ρ') => forM t s ds ρ'
  | none => none
theorem ss_for (hp : PassesOwn (model X.prog X.w) X.A X.env X.xe) (hc : X.calm = true) (hi : IV X tg e ms) (ht : TGD X P tg t) (hb : BS X P body s) (hs : ∀ x, foldedSetIterable e X.env x = pure x := by intro _; rfl) : SS X P (.For tg e body [] pos) (forS ms t s) := by
  obtain ⟨wi, pi, zi⟩ := hi.ex
  obtain ⟨gt, pt, zt⟩ := ht.ex
  obtain ⟨tb, pb, sb⟩ := hb.ex
  refine ⟨_, ps_for hp hc pi pt pb hs, fun G H ω σ ρ r D g e q => ?_⟩
  unfold forS at e
  split at e
  · rename_i ds ρ0 e0
    refine zi G H ω σ [] ρ [] ds ρ0 _ g.len g.nil0 e0 fun G0 H0 ω0 J t0 g0 hY => ?_
    rw [List.append_nil, List.append_nil] at g0
    refine ⟨fun i n σ1 H1 => n = ds.length - i ∧ i ≤ ds.length ∧ ∃ G1 ω1 ρ1, Tr ω ω1 G H G1 H1 ∧ Same G0 G1 ∧ Good X.K G1 H1 ω1 σ1 ρ1 ∧ Prot P σ σ1 ∧ forM t s (ds.drop i) ρ1 = some r, ⟨ds.length, by simp, Nat.zero_le _, G0, ω0, ρ0, t0, Same.refl _, g0, Prot.refl, e⟩, ?_⟩
    rintro i n σ1 H1 ⟨rfl, hi, G1, ω1, ρ1, t1, s1, g1, p1, e1⟩
    have hy := hY i G1 H1 s1 g1.same
    by_cases hlt : i < ds.length
    · have hd : ds[i]? = some ds[i] := List.getElem?_eq_getElem hlt
      rw [List.drop_eq_getElem_cons hlt] at e1
      unfold forM at e1
      obtain ⟨go, yl⟩ := hy.2 _ hd
      refine .inr ⟨go, fun σ3 H3 => ∃ G3 ω3 ρ3, Tr ω ω3 G H G3 H3 ∧ Same G0 G3 ∧ Good X.K G3 H3 ω3 σ3 ρ3 ∧ Prot P σ σ3 ∧ forM t s (ds.drop (i + 1)) ρ3 = some r, fun σ3 H3 h => ⟨ds.length - (i + 1), by omega, rfl, hlt, h⟩, fun x H2 hx => ?_⟩
      obtain ⟨G2, hG2, hr⟩ := yl x H2 hx
      have hg2 : Good X.K G2 H2 ω1 σ1 ρ1 ∧ Tr ω1 ω1 G1 H1 G2 H2 := by
        rcases hG2 with ⟨rfl, rfl⟩ | ⟨p, o, hp, rfl, rfl⟩
        · exact ⟨g1, Tr.refl⟩
        · exact g1.layF hp
      obtain ⟨g2, t2⟩ := hg2
      split at e1
      · rename_i ρ2 e2
        refine zt G2 H2 ω1 σ1 [] ρ1 [] ρ2 _ x _ g2.len g2.nil0 hr e2 fun σ2 n2 g3 p3 => ?_
        rw [List.append_nil, List.append_nil] at g3
        split at e1
        · rename_i ρ3 e3
          exact sb G2 H2 ω1 σ2 ρ2 _ _ g3 e3 fun G4 H4 ω4 σ4 t4 g4 p4 => ⟨G4, ω4, ρ3, t1.trans (t2.trans t4), s1.trans (t2.gs.trans t4.gs), g4, p1.trans (p3.trans p4), e1⟩
        · rename_i ρ3 e3
          exact sb G2 H2 ω1 σ2 ρ2 _ _ g3 e3 fun G4 H4 ω4 σ4 t4 g4 p4 => ⟨G4, ω4, ρ3, t1.trans (t2.trans t4), s1.trans (t2.gs.trans t4.gs), g4, p1.trans (p3.trans p4), e1⟩
        · rename_i ρ3 e3
          cases e1
          exact sb G2 H2 ω1 σ2 ρ2 _ _ g3 e3 fun G4 H4 ω4 σ4 t4 g4 p4 => q G4 H4 ω4 σ4 (t1.trans (t2.trans t4)) g4 (p1.trans (p3.trans p4))
        · rename_i d ρ3 e3
          cases e1
          exact sb G2 H2 ω1 σ2 ρ2 _ _ g3 e3 fun G4 H4 ω4 σ4 v t4 g4 p4 => q G4 H4 ω4 σ4 v (t1.trans (t2.trans t4)) g4 (p1.trans (p3.trans p4))
        · cases e1
      · cases e1
    · have hn : i = ds.length := by omega
      subst hn
      rw [List.drop_length] at e1
      unfold forM at e1
      cases e1
      exact .inl ⟨hy.1 rfl, q G1 H1 ω1 σ1 t1 g1 p1⟩
  · cases e
/-! ### what is walked -/
theorem PI.or {w w' : TI} (h : PI X tg e w) (h' : PI X tg e w') : PI X tg e (fun σ H R => w σ H R ∨ w' σ H R) :=
  ⟨fun pins s σ H R I z => z.elim (h.run pins s σ H R I) (h'.run pins s σ H R I)⟩
theorem IV.or {m' : Env → Option (List D × Env)} (h : IV X tg e ms) (h' : IV X tg e m') : IV X tg e (orM ms m') := by
  obtain ⟨t, p, s⟩ := h.ex
  obtain ⟨u, p', s'⟩ := h'.ex
  refine ⟨_, PI.or p p', fun G H ω σ τ ρ δ d ρ' Q hl gd e q => ?_⟩
  rcases orM_some e with e | e
  · exact .inl (s G H ω σ τ ρ δ d ρ' Q hl gd e q)
  · exact .inr (s' G H ω σ τ ρ δ d ρ' Q hl gd e q)
/-- a list, given up -/
def lstW (m : Env → Option (D × Env)) : Env → Option (List D × Env) := fun ρ => match m ρ with
  | some (.lst m ds, ρ') => if m ≠ .o then some (ds, ρ') else none
  | _ => none
def tupW (m : Env → Option (D × Env)) : Env → Option (List D × Env) := fun ρ => match m ρ with
  | some (.tup ds, ρ') => some (ds, ρ')
  | _ => none
theorem iv_lst (h : EV X e m) : IV X tg e (lstW m) := by
  obtain ⟨te, p, z⟩ := h.ex
  refine ⟨_, pi_list p, fun G H ω σ τ ρ δ ds ρ' R hl g e q => ?_⟩
  unfold lstW at e
  split at e
  · rename_i m ds0 ρ1 e1
    split at e
    · rename_i hm
      cases e
      refine z G H ω σ τ ρ δ _ _ _ hl g e1 fun G1 H1 ω1 v t1 g1 => ?_
      have hv := g1.last.2 (by cases m <;> first | exact absurd rfl hm | rfl)
      unfold Rep at hv
      obtain ⟨a, vs, rfl, h1, h2⟩ := hv
      have sq : SqL X.K G1 a vs := by
        cases m with
        | o => exact h1.elim
        | f => exact SqL.of h1
        | x => exact h1
      refine ⟨a, rfl, ⟨vs, g1.same.seq sq⟩, q G1 H1 ω1 (Itl X.K a) t1 g1.drop1 fun i G2 H2 s1 s2 => ⟨fun hi => ⟨vs, s2.seq (s1.seq sq), by rw [← h2.length]; omega⟩, fun d hd => ?_⟩⟩
      obtain ⟨x, ex, hx⟩ := h2.get hd
      refine ⟨⟨vs, x, s2.seq (s1.seq sq), ex⟩, fun y H3 ⟨e3, hy⟩ => ⟨G2, .inl ⟨rfl, e3⟩, ?_⟩⟩
      have := hy vs (s2.seq (s1.seq sq))
      rw [ex] at this
      cases this
      exact Rep.mono s1 _ _ hx
    · cases e
  · cases e
theorem iv_tup (h : EV X e m) : IV X tg e (tupW m) := by
  obtain ⟨te, p, z⟩ := h.ex
  refine ⟨_, pi_tup p, fun G H ω σ τ ρ δ ds ρ' R hl g e q => ?_⟩
  unfold tupW at e
  split at e
  · rename_i ds0 ρ1 e1
    cases e
    refine z G H ω σ τ ρ δ _ _ _ hl g e1 fun G1 H1 ω1 v t1 g1 => ?_
    have hv := g1.last.2 rfl
    unfold Rep at hv
    obtain ⟨a, vs, rfl, sq, h2⟩ := hv
    refine ⟨a, rfl, ⟨vs, Same.seqT g1.same sq⟩, q G1 H1 ω1 (Itt X.K a) t1 g1.drop1 fun i G2 H2 s1 s2 => ⟨fun hi => ⟨vs, Same.seqT s2 (Same.seqT s1 sq), by rw [← h2.length]; omega⟩, fun d hd => ?_⟩⟩
    obtain ⟨x, ex, hx⟩ := h2.get hd
    refine ⟨⟨vs, x, Same.seqT s2 (Same.seqT s1 sq), ex⟩, fun y H3 ⟨e3, hy⟩ => ⟨G2, .inl ⟨rfl, e3⟩, ?_⟩⟩
    have := hy vs (Same.seqT s2 (Same.seqT s1 sq))
    rw [ex] at this
    cases this
    exact Rep.mono s1 _ _ hx
  · cases e
/-- a list or a tuple -/
theorem iv_seq (h : EV X e m) : IV X tg e (orM (lstW (frzM m)) (tupW m)) := (iv_lst (ev_frz h)).or (iv_tup h)
def rngD (lo : Int) (n : Nat) : List D := (List.range n).map fun i : Nat => .int (lo + (i : Int))
theorem yields_rng {K : PySem.W.Frag} {G : Hp} {lo : Int} {n : Nat} : Yields K G (Itr lo n) (rngD lo n) := fun i G2 H2 s1 s2 => by
  have hlen : (rngD lo n).length = n := by simp [rngD]
  refine ⟨fun hi => (by show n ≤ i; omega), fun d hd => ?_⟩
  have hi : i < n := by
    have := (List.getElem?_eq_some_iff.mp hd).1
    omega
  refine ⟨hi, fun x H3 ⟨e3, hx⟩ => ⟨G2, .inl ⟨rfl, e3⟩, ?_⟩⟩
  have : d = .int (lo + (i : Int)) := by
    unfold rngD at hd
    rw [List.getElem?_map, List.getElem?_range hi] at hd
    exact (Option.some.inj hd).symm
  subst this
  subst hx
  unfold Rep
  rfl
def rng1W (f : Env → Option D) : Env → Option (List D × Env) := fun ρ => match f ρ with
  | some (.int j) => if -(2 ^ 62) ≤ j ∧ j < 2 ^ 62 then some (rngD 0 j.toNat, ρ) else none
  | _ => none
theorem iv_rng1 {p : Pos} (hg : Gl X "range") (hm : X.mg "range" = none) (h : EQ X a f) (hs : starEach [a] X.env = [(false, eval a X.env)] := by rfl) : IV X tg (.Call (.Name "range" p) [a] [] pos) (rng1W f) := by
  obtain ⟨te, p, z⟩ := h.ex
  refine ⟨_, pi_range1 hg hm (pa_cons p pa_nil (by rw [hs]; rfl)) hs, fun G H ω σ τ ρ δ ds ρ' R hl g e q => ?_⟩
  unfold rng1W at e
  split at e
  · rename_i j ej
    split at e
    · rename_i hj
      cases e
      refine z G H ω σ τ ρ δ _ _ hl g ej fun v hv => ?_
      exact ⟨j, by rw [hv.eqS rfl], hj.1, hj.2, q G H ω _ Tr.refl g yields_rng⟩
    · cases e
  · cases e
def rng2W (f g : Env → Option D) : Env → Option (List D × Env) := fun ρ => match f ρ, g ρ with
  | some (.int i), some (.int j) => if (-(2 ^ 62) ≤ i ∧ i < 2 ^ 62) ∧ -(2 ^ 62) ≤ j ∧ j < 2 ^ 62 then some (rngD i (j - i).toNat, ρ) else none
  | _, _ => none
theorem iv_rng2 {p : Pos} (hg : Gl X "range") (hm : X.mg "range" = none) (h : EQ X a f) (h' : EQ X b g) (hs : starEach [a, b] X.env = [(false, eval a X.env), (false, eval b X.env)] := by rfl) (hs2 : starEach [b] X.env = [(false, eval b X.env)] := by rfl) : IV X tg (.Call (.Name "range" p) [a, b] [] pos) (rng2W f g) := by
  obtain ⟨te, p, z⟩ := h.ex
  obtain ⟨te', p', z'⟩ := h'.ex
  refine ⟨_, pi_range2 hg hm (pa_cons p (pa_cons p' pa_nil (by rw [hs2]; rfl)) (by rw [hs, hs2])) hs hs2, fun G H ω σ τ ρ δ ds ρ' R hl gd e q => ?_⟩
  unfold rng2W at e
  split at e
  · rename_i i j ei ej
    split at e
    · rename_i hj
      cases e
      refine z G H ω σ τ ρ δ _ _ hl gd ei fun v hv => ?_
      refine z' G H ω σ τ ρ δ _ _ hl gd ej fun u hu => ?_
      exact ⟨i, j, by rw [hv.eqS rfl, hu.eqS rfl], ⟨hj.1.1, hj.1.2, hj.2.1, hj.2.2⟩, q G H ω _ Tr.refl gd yields_rng⟩
    · cases e
  · cases e
/-! ### a def -/
def outsP (P : List Nat) (n : Nat) (ρ : Env) : List D := (List.range n).map fun i => if P.contains i = true then (ρ[i]?).getD .any else .any
def fnM (N n : Nat) (P : List Nat) (s : Env → Option Res) : List D → Option (D × List D) := fun ds => if ds.length = n then (match s (ds ++ List.replicate (N - n) .any) with
  | some (.rt d ρ) => if ρ.length = N then some (d, outsP P n ρ) else none
  | some (.nx ρ) => if ρ.length = N then some (.non, outsP P n ρ) else none
  | _ => none) else none
theorem Good.pushN {K : PySem.W.Frag} {G H : Hp} {ω : Ow} {σ : Sl} {ρ : List D} : ∀ (n : Nat), Good K G H ω σ ρ → Good K G H ω (σ ++ List.replicate n none) (ρ ++ List.replicate n .any)
  | 0, g => by simpa using g
  | n + 1, g => by
    have := (Good.pushN n g).pushAny (ov := none)
    rw [List.append_assoc, List.append_assoc] at this
    rw [List.replicate_succ', List.replicate_succ']
    exact this
theorem outsP_length (P : List Nat) (n : Nat) (ρ : Env) : (outsP P n ρ).length = n := by simp [outsP]
theorem fn_end {K : PySem.W.Frag} {G H : Hp} {ω : Ow} {σ' : Sl} {ρ' : List D} {v : V} {d : D} {vs : List V} {N n : Nat} (g : Good K G H ω (σ' ++ [some v]) (ρ' ++ [d])) (hN : ρ'.length = N) (hv : vs.length = n) (hn : n ≤ N) (hp : ∀ i ∈ P, i < n → σ'[i]? = some (some (vs[i]?.getD .non)) ) :
    ∃ ω', Good K G H ω' (vs.map some ++ [some v]) (outsP P n ρ' ++ [d]) ∧ Tr ω ω' G H G H := by
  have hs : σ'.length = N := by
    have := g.len
    simp at this; omega
  refine ⟨_, g.re (fun k => if k = N then some n else if k < n then some k else none) (by simp [outsP_length, hv]) fun j dj e => ?_⟩
  by_cases hj : j < n
  · rw [List.getElem?_append_left (by rw [outsP_length]; exact hj)] at e
    unfold outsP at e
    rw [List.getElem?_map, List.getElem?_range hj] at e
    simp only [Option.map_some, Option.some.injEq] at e
    by_cases hc : P.contains j = true
    · rw [if_pos hc] at e
      have hjN : j < ρ'.length := by omega
      refine .inr ⟨j, by rw [if_neg (by omega), if_pos hj], ?_, ?_⟩
      · rw [List.getElem?_append_left hjN, ← e]
        rw [List.getElem?_eq_getElem hjN]; rfl
      · rw [List.getElem?_append_left (by simp [hv, hj]), List.getElem?_append_left (by omega), hp j (List.contains_iff_mem.mp hc) hj, List.getElem?_map]
        rw [List.getElem?_eq_getElem (by omega)]; rfl
    · rw [if_neg hc] at e
      exact .inl e.symm
  · have hj2 : j = n := by
      have := (List.getElem?_eq_some_iff.mp e).1
      simp [outsP_length] at this; omega
    subst hj2
    rw [List.getElem?_append_right (by rw [outsP_length]; exact Nat.le_refl _), outsP_length, Nat.sub_self] at e
    cases e
    refine .inr ⟨N, by rw [if_pos rfl], ?_, ?_⟩
    · rw [List.getElem?_append_right (by omega), hN, Nat.sub_self]; rfl
    · rw [List.getElem?_append_right (by simp [hv]), List.getElem?_append_right (by omega), hs]; simp [hv]
end
/-- THE RULE for a def: its body's meaning is the def's -/
theorem fnP {Pr : Program} {w : World} {K : PySem.W.Frag} {mg : Str → Option Value} {base : Heap} {x qual : Str} {st : Stmt} {f : Addr} {fd : FuncData} {N ps : List Str} {k : Nat} {P : List Nat} {s : Env → Option Res} (F : Fun K x qual st f fd) (S : FnScope N ps (defScope st)) (hn : ps.length ≤ N.length)
    (hbody : ∀ (cdv : Value) (A : Around) (outer : List PySem.Env) (sh : Shared) (H : Hp) (E : XK), Room k (A.deeper (PyProof.Rows.envOfC qual (defScope st) sh.heap.objs.size f cdv)) →
      BS (cxOf CX0 Pr w K mg base N qual (defScope st) f cdv A outer sh H E).nox P (defBody st) s) : FnOk Pr w K mg base CX0 (k + 1) f fd ps (spP K ps.length (fnM N.length ps.length P s)) := by
  refine F.ok S (fun vs H Q E h => h.1) fun cdv A outer sh H vs Q E hr h => ?_
  obtain ⟨hv, G, ω, ds, d, outs, g, eF, q⟩ := h
  obtain ⟨t, p, z⟩ := (hbody cdv A outer sh H E hr).ex
  refine ⟨t, p, ?_⟩
  have hd : ds.length = ps.length := by rw [← g.len]; simp [hv]
  unfold fnM at eF
  rw [if_pos hd] at eF
  have g0 := g.pushN (N.length - ps.length)
  have es : L2.start N vs = vs.map some ++ List.replicate (N.length - ps.length) none := by unfold L2.start; rw [hv]
  have pr : ∀ {σ' : Sl}, Prot P (L2.start N vs) σ' → ∀ i ∈ P, i < ps.length → σ'[i]? = some (some (vs[i]?.getD .non)) := fun {σ'} h i hi hlt => by
    rw [h i hi, es, List.getElem?_append_left (by simp [hv, hlt]), List.getElem?_map, List.getElem?_eq_getElem (by omega)]; rfl
  rw [es]
  have hX : (cxOf CX0 Pr w K mg base N qual (defScope st) f cdv A outer sh H E).nox.K = K := rfl
  split at eF
  · rename_i d1 ρ1 e1
    split at eF
    · rename_i hN1
      cases eF
      refine z G H ω _ _ _ _ g0 e1 fun G1 H1 ω1 σ1 v t1 g1 p1 => ?_
      obtain ⟨ω2, g2, t2⟩ := fn_end (P := P) (vs := vs) g1 hN1 hv hn (pr (by rw [es]; exact p1))
      exact q G1 H1 ω2 v (t1.trans t2) g2
    · cases eF
  · rename_i ρ1 e1
    split at eF
    · rename_i hN1
      cases eF
      refine z G H ω _ _ _ _ g0 e1 fun G1 H1 ω1 σ1 t1 g1 p1 => ?_
      obtain ⟨ω2, g2, t2⟩ := fn_end (P := P) (vs := vs) (g1.pushF (d := .non) (v := .non) (by unfold Rep; rfl)) hN1 hv hn (pr (by rw [es]; exact p1))
      exact q G1 H1 ω2 .non (t1.trans t2) g2
    · cases eF
  · cases eF
end CW

namespace CW
open PySem L2
/-! ### the names of a block -/
def wipeD (ρ : Env) : List Nat → Env
  | [] => ρ
  | v :: vs => (wipeD ρ vs).set v .any
def restD (ρ1 ρ2 : Env) : List Nat → Env
  | [] => ρ2
  | v :: vs => (restD ρ1 ρ2 vs).set v ((ρ1[v]?).getD .any)
def okV (ρ : Env) (vs : List Nat) : Bool := vs.all fun i => match ρ[i]? with
  | some .any => true
  | some d => isF d
  | none => true
theorem wipeD_length (ρ : Env) : ∀ vs, (wipeD ρ vs).length = ρ.length
  | [] => rfl
  | v :: vs => by unfold wipeD; rw [List.length_set, wipeD_length ρ vs]
theorem restD_length (ρ1 ρ2 : Env) : ∀ vs, (restD ρ1 ρ2 vs).length = ρ2.length
  | [] => rfl
  | v :: vs => by unfold restD; rw [List.length_set, restD_length ρ1 ρ2 vs]
theorem wipeD_get (ρ : Env) (i : Nat) : ∀ vs, (wipeD ρ vs)[i]? = if i ∈ vs then (if i < ρ.length then some .any else none) else ρ[i]?
  | [] => by simp [wipeD]
  | v :: vs => by
    unfold wipeD
    by_cases h : v = i
    · subst h
      rw [if_pos List.mem_cons_self]
      by_cases hl : v < ρ.length
      · rw [if_pos hl, List.getElem?_set_self (by rw [wipeD_length]; exact hl)]
      · rw [if_neg hl]
        exact List.getElem?_eq_none (by rw [List.length_set, wipeD_length]; omega)
    · rw [List.getElem?_set_ne h, wipeD_get ρ i vs]
      simp [List.mem_cons, Ne.symm h]
theorem restD_get (ρ1 ρ2 : Env) (i : Nat) : ∀ vs, (restD ρ1 ρ2 vs)[i]? = if i ∈ vs then (if i < ρ2.length then some ((ρ1[i]?).getD .any) else none) else ρ2[i]?
  | [] => by simp [restD]
  | v :: vs => by
    unfold restD
    by_cases h : v = i
    · subst h
      rw [if_pos List.mem_cons_self]
      by_cases hl : v < ρ2.length
      · rw [if_pos hl, List.getElem?_set_self (by rw [restD_length]; exact hl)]
      · rw [if_neg hl]
        exact List.getElem?_eq_none (by rw [List.length_set, restD_length]; omega)
    · rw [List.getElem?_set_ne h, restD_get ρ1 ρ2 i vs]
      simp [List.mem_cons, Ne.symm h]
theorem wipe_in {σ : St} {i : Nat} : ∀ {vs : List Nat}, i ∉ vs → (wipe σ vs)[i]? = σ[i]?
  | [], _ => rfl
  | v :: vs, h => by
    have h1 : v ≠ i := fun e => h (by rw [e]; exact List.mem_cons_self)
    unfold wipe
    rw [List.getElem?_set_ne h1]
    exact wipe_in fun m => h (List.mem_cons_of_mem _ m)
section
variable {K : PySem.W.Frag} {G H G' H' : Hp} {ω ω' : Ow} {σ τ σ2 τ2 : Sl} {ρ δ ρ2 δ2 : List D}
theorem Good.wipe (g : Good K G H ω (σ ++ τ) (ρ ++ δ)) (hl : σ.length = ρ.length) (vs : List Nat) : Good K G H ω (wipe σ vs ++ τ) (wipeD ρ vs ++ δ) := by
  refine ⟨g.same, g.out, g.live, by have := g.len; simp only [List.length_append, wipe_length, wipeD_length] at this ⊢; exact this, fun i d e => ?_⟩
  by_cases hi : i < ρ.length
  · rw [List.getElem?_append_left (by rw [wipeD_length]; exact hi), wipeD_get] at e
    by_cases hm : i ∈ vs
    · rw [if_pos hm, if_pos hi] at e
      cases e
      exact .inl rfl
    · rw [if_neg hm] at e
      rcases g.sl i d (by rw [List.getElem?_append_left hi]; exact e) with z | ⟨v, e1, h⟩
      · exact .inl z
      · refine .inr ⟨v, ?_, h⟩
        rw [List.getElem?_append_left (by rw [wipe_length]; omega), wipe_in hm]
        rw [List.getElem?_append_left (by omega)] at e1
        exact e1
  · rw [List.getElem?_append_right (by rw [wipeD_length]; omega), wipeD_length] at e
    rcases g.sl i d (by rw [List.getElem?_append_right (by omega)]; exact e) with z | ⟨v, e1, h⟩
    · exact .inl z
    · refine .inr ⟨v, ?_, h⟩
      rw [List.getElem?_append_right (by rw [wipe_length]; omega), wipe_length]
      rw [List.getElem?_append_right (by omega)] at e1
      exact e1
theorem Good.rest {vs : List Nat} {ρ1 : Env} {G1 H1 : Hp} {ω1 : Ow} {τ1 : Sl} {δ1 : List D} (g : Good K G H ω (L2.wipe σ vs ++ τ) (ρ2 ++ δ)) (g1 : Good K G1 H1 ω1 (σ ++ τ1) (ρ1 ++ δ1)) (h1 : σ.length = ρ1.length) (h2 : σ.length = ρ2.length) (ok : okV ρ1 vs = true) (sg : Same G1 G) :
    Good K G H ω (σ ++ τ) (restD ρ1 ρ2 vs ++ δ) := by
  refine ⟨g.same, g.out, g.live, by have := g.len; simp only [List.length_append, wipe_length, restD_length] at this ⊢; exact this, fun i d e => ?_⟩
  by_cases hi : i < ρ2.length
  · rw [List.getElem?_append_left (by rw [restD_length]; exact hi), restD_get] at e
    by_cases hm : i ∈ vs
    · rw [if_pos hm, if_pos hi] at e
      have ed : (ρ1[i]?).getD .any = d := Option.some.inj e
      have hi1 : i < ρ1.length := by omega
      have e1 : ρ1[i]? = some d := by
        rw [List.getElem?_eq_getElem hi1] at ed ⊢
        simpa using ed
      rcases g1.sl i d (by rw [List.getElem?_append_left hi1]; exact e1) with z | ⟨v, e2, h⟩
      · exact .inl z
      · by_cases hd : d = .any
        · exact .inl hd
        · refine .inr ⟨v, by rw [List.getElem?_append_left (by omega)] at e2 ⊢; exact e2, Own.frz (Rep.mono sg d v (h.rep ?_))⟩
          have := List.all_eq_true.mp ok i hm
          rw [e1] at this
          cases d <;> first | exact absurd rfl hd | exact this
    · rw [if_neg hm] at e
      rcases g.sl i d (by rw [List.getElem?_append_left hi]; exact e) with z | ⟨v, e1, h⟩
      · exact .inl z
      · refine .inr ⟨v, ?_, h⟩
        rw [List.getElem?_append_left (by rw [wipe_length]; omega), wipe_in hm] at e1
        rw [List.getElem?_append_left (by omega)]
        exact e1
  · rw [List.getElem?_append_right (by rw [restD_length]; omega), restD_length] at e
    rcases g.sl i d (by rw [List.getElem?_append_right (by omega)]; exact e) with z | ⟨v, e1, h⟩
    · exact .inl z
    · refine .inr ⟨v, ?_, h⟩
      rw [List.getElem?_append_right (by rw [wipe_length]; omega), wipe_length] at e1
      rw [List.getElem?_append_right (by omega)]
      exact e1
theorem wipe_eq {σ σ' : St} {vs : List Nat} (hl : σ'.length = σ.length) (h : ∀ i, i ∉ vs → σ'[i]? = σ[i]?) : L2.wipe σ' vs = L2.wipe σ vs := by
  have key : ∀ (σ : St) (vs : List Nat) (i : Nat), i ∈ vs → i < σ.length → (L2.wipe σ vs)[i]? = some none := by
    intro σ vs
    induction vs with
    | nil => intro i h; simp at h
    | cons v vs ih =>
      intro i h hi
      unfold L2.wipe
      by_cases hv : v = i
      · subst hv
        rw [List.getElem?_set_self (by rw [wipe_length]; exact hi)]
      · rw [List.getElem?_set_ne hv]
        rcases List.mem_cons.mp h with z | z
        · exact absurd z.symm hv
        · exact ih i z hi
  refine List.ext_getElem? fun i => ?_
  by_cases hm : i ∈ vs
  · by_cases hi : i < σ.length
    · rw [key σ' vs i hm (by omega), key σ vs i hm hi]
    · rw [List.getElem?_eq_none (by rw [wipe_length]; omega), List.getElem?_eq_none (by rw [wipe_length]; omega)]
  · rw [wipe_in hm, wipe_in hm, h i hm]
end
/-! ### what holds of every block -/
structure CBlk (X : Cx) (scope : Scope) where
  s : Shared
  H : Hp
  C : Addr
  cl : List (Str × Addr)
  fp : List Addr
abbrev CBlk.cx {X : Cx} {scope : Scope} (c : CBlk X scope) : Cx := X.blk c.s c.H scope (compEnvC scope c.cl c.C X.env) c.fp
section
variable {X : Cx} {scope : Scope} {P : List Nat} {e tg : Expr} {m : Env → Option (D × Env)} {t : Env → Option (Bool × Env)} {tt : D → Env → Option Env}
theorem EV.all (h : ∀ c : CBlk X scope, EV c.cx e m) : ∃ te, (∀ c : CBlk X scope, PE c.cx e te) ∧ ∀ (G H : Hp) (ω : Ow) (σ τ : Sl) (ρ δ : List D) (d : D) (ρ' : Env) (Q : VK), σ.length = ρ.length → Good X.K G H ω (σ ++ τ) (ρ ++ δ) → m ρ = some (d, ρ') →
    (∀ G' H' ω' v, Tr ω ω' G H G' H' → Good X.K G' H' ω' (σ ++ (τ ++ [some v])) (ρ' ++ (δ ++ [d])) → Q v H') → te σ H Q :=
  ⟨fun σ H Q => ∀ c : CBlk X scope, Classical.choose (h c).ex σ H Q, fun c => ⟨fun pins s σ H Q I z => (Classical.choose_spec (h c).ex).1.run pins s σ H Q I (z c)⟩, fun G H ω σ τ ρ δ d ρ' Q hl g e q c => (Classical.choose_spec (h c).ex).2 G H ω σ τ ρ δ d ρ' Q hl g e q⟩
theorem TGD.all (h : ∀ c : CBlk X scope, TGD c.cx P tg tt) : ∃ gt, (∀ c : CBlk X scope, PG c.cx tg gt) ∧ ∀ (G H : Hp) (ω : Ow) (σ τ : Sl) (ρ δ : List D) (ρ' : Env) (d : D) (v : V) (Q : St → Hp → Prop), σ.length = ρ.length → Good X.K G H ω (σ ++ τ) (ρ ++ δ) → Rep X.K G d v → tt d ρ = some ρ' →
    (∀ σ', σ'.length = σ.length → Good X.K G H ω (σ' ++ τ) (ρ' ++ δ) → Prot P σ σ' → Q σ' H) → gt v σ H Q :=
  ⟨fun v σ H Q => ∀ c : CBlk X scope, Classical.choose (h c).ex v σ H Q, fun c => ⟨fun pins s σ H v u Q I r z => (Classical.choose_spec (h c).ex).1.run pins s σ H v u Q I r (z c)⟩, fun G H ω σ τ ρ δ ρ' d v Q hl g hr e q c => (Classical.choose_spec (h c).ex).2 G H ω σ τ ρ δ ρ' d v Q hl g hr e q⟩
/-- a clause's tests -/
structure TsV (X : Cx) (es : List Expr) (m : Env → Option (Bool × Env)) : Prop where
  ex : ∃ t, PTs X es t ∧ ∀ (G H : Hp) (ω : Ow) (σ τ : Sl) (ρ δ : List D) (b : Bool) (ρ' : Env) (Q : Bool → Hp → Prop), σ.length = ρ.length → Good X.K G H ω (σ ++ τ) (ρ ++ δ) → m ρ = some (b, ρ') →
    (∀ G' H' ω', Tr ω ω' G H G' H' → Good X.K G' H' ω' (σ ++ τ) (ρ' ++ δ) → Q b H') → t σ H Q
def yesM : Env → Option (Bool × Env) := fun ρ => some (true, ρ)
theorem ts_nil : TsV X [] yesM := ⟨_, pts_nil, fun G H ω σ τ ρ δ b ρ' Q hl g e q => by
  cases e
  exact q G H ω Tr.refl g⟩
theorem ts_one (h : TV X e t) : TsV X [e] t := by
  obtain ⟨u, p, z⟩ := h.ex
  exact ⟨u, pts_one p, z⟩
theorem TsV.all {es : List Expr} (h : ∀ c : CBlk X scope, TsV c.cx es t) : ∃ tt, (∀ c : CBlk X scope, PTs c.cx es tt) ∧ ∀ (G H : Hp) (ω : Ow) (σ τ : Sl) (ρ δ : List D) (b : Bool) (ρ' : Env) (Q : Bool → Hp → Prop), σ.length = ρ.length → Good X.K G H ω (σ ++ τ) (ρ ++ δ) → t ρ = some (b, ρ') →
    (∀ G' H' ω', Tr ω ω' G H G' H' → Good X.K G' H' ω' (σ ++ τ) (ρ' ++ δ) → Q b H') → tt σ H Q :=
  ⟨fun σ H Q => ∀ c : CBlk X scope, Classical.choose (h c).ex σ H Q, fun c => ⟨fun pins s σ H Q I z => (Classical.choose_spec (h c).ex).1.run pins s σ H Q I (z c)⟩, fun G H ω σ τ ρ δ b ρ' Q hl g e q c => (Classical.choose_spec (h c).ex).2 G H ω σ τ ρ δ b ρ' Q hl g e q⟩
/-! ### [e for x in xs if t] -/
def compGo (vs : List Nat) (tt : D → Env → Option Env) (t : Env → Option (Bool × Env)) (m : Env → Option (D × Env)) : List D → Env → List D → Option (List D × Env)
  | [], ρ, acc => some (acc, ρ)
  | d :: ds, ρ, acc => match tt d ρ with
    | some ρ1 => (match t ρ1 with
      | some (true, ρ2) => (match m ρ2 with
        | some (x, ρ3) => if isF x = true ∧ acc.length < 16777216 then compGo vs tt t m ds (wipeD ρ3 vs) (acc ++ [x]) else none
        | none => none)
      | some (false, ρ2) => compGo vs tt t m ds (wipeD ρ2 vs) acc
      | none => none)
    | none => none
def compM (vs : List Nat) (ms : Env → Option (List D × Env)) (tt : D → Env → Option Env) (t : Env → Option (Bool × Env)) (m : Env → Option (D × Env)) : Env → Option (D × Env) := fun ρ => match ms ρ with
  | some (ds, ρ1) => if okV ρ1 vs = true then (match compGo vs tt t m ds (wipeD ρ1 vs) [] with
    | some (acc, ρ2) => some (.lst .o acc, restD ρ1 ρ2 vs)
    | none => none) else none
  | none => none
theorem lc_sound {iter : Expr} {ifs : List Expr} {ms : Env → Option (List D × Env)} {wi : TI} {gt : TG} {tt0 : TT} {te : TE} {vs : List Nat} {N : Nat}
    (zi : ∀ (G H : Hp) (ω : Ow) (σ τ : Sl) (ρ δ : List D) (ds : List D) (ρ' : Env) (R : It → Hp → Prop), σ.length = ρ.length → Good X.K G H ω (σ ++ τ) (ρ ++ δ) → ms ρ = some (ds, ρ') → (∀ G' H' ω' J, Tr ω ω' G H G' H' → Good X.K G' H' ω' (σ ++ τ) (ρ' ++ δ) → Yields X.K G' J ds → R J H') → wi σ H R)
    (zg : ∀ (G H : Hp) (ω : Ow) (σ τ : Sl) (ρ δ : List D) (ρ' : Env) (d : D) (v : V) (Q : St → Hp → Prop), σ.length = ρ.length → Good X.K G H ω (σ ++ τ) (ρ ++ δ) → Rep X.K G d v → tt d ρ = some ρ' → (∀ σ', σ'.length = σ.length → Good X.K G H ω (σ' ++ τ) (ρ' ++ δ) → Prot P σ σ' → Q σ' H) → gt v σ H Q)
    (zt : ∀ (G H : Hp) (ω : Ow) (σ τ : Sl) (ρ δ : List D) (b : Bool) (ρ' : Env) (Q : Bool → Hp → Prop), σ.length = ρ.length → Good X.K G H ω (σ ++ τ) (ρ ++ δ) → t ρ = some (b, ρ') → (∀ G' H' ω', Tr ω ω' G H G' H' → Good X.K G' H' ω' (σ ++ τ) (ρ' ++ δ) → Q b H') → tt0 σ H Q)
    (ze : ∀ (G H : Hp) (ω : Ow) (σ τ : Sl) (ρ δ : List D) (d : D) (ρ' : Env) (Q : VK), σ.length = ρ.length → Good X.K G H ω (σ ++ τ) (ρ ++ δ) → m ρ = some (d, ρ') → (∀ G' H' ω' v, Tr ω ω' G H G' H' → Good X.K G' H' ω' (σ ++ (τ ++ [some v])) (ρ' ++ (δ ++ [d])) → Q v H') → te σ H Q)
    (hP : ∀ i, i < N → i ∉ vs → i ∈ P) {G H : Hp} {ω : Ow} {σ τ : Sl} {ρ δ : List D} {d : D} {ρ' : Env} {Q : VK} (hlN : σ.length = N) (hl : σ.length = ρ.length) (g : Good X.K G H ω (σ ++ τ) (ρ ++ δ)) (e : compM vs ms tt t m ρ = some (d, ρ'))
    (q : ∀ G' H' ω' v, Tr ω ω' G H G' H' → Good X.K G' H' ω' (σ ++ (τ ++ [some v])) (ρ' ++ (δ ++ [d])) → Q v H') : tLc wi gt tt0 te vs σ H Q := by
  unfold compM at e
  split at e
  · rename_i ds ρ1 e1
    split at e
    · rename_i hok
      split at e
      · rename_i acc0 ρ2 e2
        cases e
        refine zi G H ω σ τ ρ δ ds ρ1 _ hl g e1 fun G1 H1 ω1 J t1 g1 hY Da hD => ?_
        have hl1 : σ.length = ρ1.length := g.lenT g1 hl
        have h2 := g.lensL hl
        obtain ⟨ω1', g1', t1'⟩ := new_lst (ds := []) (vs := []) g1 RepL.nil hD
        refine ⟨fun i n H2 => n = ds.length - i ∧ i ≤ ds.length ∧ ∃ G2 ω2 ρ3 acc, Tr ω1' ω2 G1 (upd H1 Da (.lst [])) G2 H2 ∧ Good X.K G2 H2 ω2 (wipe σ vs ++ (τ ++ [some (.ref Da)])) (ρ3 ++ (δ ++ [.lst .o acc])) ∧ compGo vs tt t m (ds.drop i) ρ3 acc = some (acc0, ρ2),
          ⟨ds.length, by simp, Nat.zero_le _, G1, ω1', _, [], Tr.refl, g1'.wipe hl1 vs, e2⟩, ?_⟩
        rintro i n H2 ⟨rfl, hi, G2, ω2, ρ3, acc, t2, g2, e3⟩
        have hy := hY i G2 H2 t2.gs g2.same
        have hl3 : (wipe σ vs).length = ρ3.length := by
          have a1 := g2.len
          simp only [List.length_append, wipe_length, List.length_cons, List.length_nil] at a1 ⊢
          omega
        by_cases hlt : i < ds.length
        · have hd : ds[i]? = some ds[i] := List.getElem?_eq_getElem hlt
          rw [List.drop_eq_getElem_cons hlt] at e3
          unfold compGo at e3
          obtain ⟨go, yl⟩ := hy.2 _ hd
          refine .inr ⟨go, fun H3 => ∃ G3 ω3 ρ4 acc', Tr ω1' ω3 G1 (upd H1 Da (.lst [])) G3 H3 ∧ Good X.K G3 H3 ω3 (wipe σ vs ++ (τ ++ [some (.ref Da)])) (ρ4 ++ (δ ++ [.lst .o acc'])) ∧ compGo vs tt t m (ds.drop (i + 1)) ρ4 acc' = some (acc0, ρ2), fun H3 h => ⟨ds.length - (i + 1), by omega, rfl, hlt, h⟩, fun x H3 hx => ?_⟩
          obtain ⟨G3, hG3, hr⟩ := yl x H3 hx
          have hg3 : Good X.K G3 H3 ω2 (wipe σ vs ++ (τ ++ [some (.ref Da)])) (ρ3 ++ (δ ++ [.lst .o acc])) ∧ Tr ω2 ω2 G2 H2 G3 H3 := by
            rcases hG3 with ⟨rfl, rfl⟩ | ⟨p, o, hp, rfl, rfl⟩
            · exact ⟨g2, Tr.refl⟩
            · exact g2.layF hp
          obtain ⟨g3, t3⟩ := hg3
          split at e3
          · rename_i ρ4 e4
            refine zg G3 H3 ω2 _ _ ρ3 _ ρ4 _ x _ hl3 g3 hr e4 fun σ4 n4 g4 p4 => ?_
            have w4 : wipe σ4 vs = wipe σ vs := by
              have w1 : wipe (wipe σ vs) vs = wipe σ vs := wipe_eq (by rw [wipe_length]) fun i hi => wipe_in hi
              rw [← w1]
              refine wipe_eq n4 fun i hi => ?_
              by_cases hiN : i < N
              · exact p4 i (hP i hiN hi)
              · rw [List.getElem?_eq_none (by rw [n4, wipe_length]; omega), List.getElem?_eq_none (by rw [wipe_length]; omega)]
            have hl4 : σ4.length = ρ4.length := by
              have a1 := g4.len
              have a2 := g3.len
              simp only [List.length_append] at a1 a2
              omega
            refine ⟨w4, ?_⟩
            split at e3
            · rename_i ρ5 e5
              refine zt G3 H3 ω2 σ4 _ ρ4 _ true ρ5 _ hl4 g4 e5 fun G5 H5 ω5 t5 g5 => iteT ?_
              have hl5 : σ4.length = ρ5.length := g4.lenT g5 hl4
              split at e3
              · rename_i y ρ6 e6
                split at e3
                · rename_i hF
                  refine ze G5 H5 ω5 σ4 _ ρ5 _ y ρ6 _ hl5 g5 e6 fun G6 H6 ω6 v t6 g6 => ?_
                  have hl6 : σ4.length = ρ6.length := lens g5 g6 rfl hl5
                  have hv := g6.last.2 hF.1
                  have g7 := g6.drop1
                  have hn : (ρ6 ++ (δ ++ [D.lst .o acc]))[ρ6.length + δ.length]? = some (.lst .o acc) := get_last _ _ _
                  have hs : (σ4 ++ (τ ++ [some (V.ref Da)]))[ρ6.length + δ.length]? = some (some (.ref Da)) := by
                    rw [show ρ6.length + δ.length = σ4.length + τ.length by omega]; exact get_last _ _ _
                  rcases g7.sl _ _ hn with z | ⟨u, e7, h7⟩
                  · cases z
                  · rw [hs] at e7
                    cases e7
                    unfold Own at h7
                    obtain ⟨a, xs, ea, z1, z2, z3⟩ := h7
                    cases ea
                    refine ⟨xs, z1, by rw [← z3.length]; exact hF.2, ?_⟩
                    obtain ⟨g8, t8⟩ := g7.write1 (o' := .lst (xs ++ [v])) (d' := .lst .o (acc ++ [y])) hs z2 (by
                      unfold Own
                      exact ⟨Da, xs ++ [v], rfl, upd_same, z2, z3.app (RepL.one hv)⟩)
                    rw [set_last] at g8
                    have g9 := g8.wipe hl6 vs
                    rw [w4] at g9
                    exact ⟨G6, ω6, _, _, t2.trans (t3.trans (t5.trans (t6.trans t8))), g9, e3⟩
                · cases e3
              · cases e3
            · rename_i ρ5 e5
              refine zt G3 H3 ω2 σ4 _ ρ4 _ false ρ5 _ hl4 g4 e5 fun G5 H5 ω5 t5 g5 => iteF ?_
              have hl5 : σ4.length = ρ5.length := g4.lenT g5 hl4
              have g9 := g5.wipe hl5 vs
              rw [w4] at g9
              exact ⟨G5, ω5, _, _, t2.trans (t3.trans t5), g9, e3⟩
            · cases e3
          · cases e3
        · have hn : i = ds.length := by omega
          subst hn
          rw [List.drop_length] at e3
          unfold compGo at e3
          cases e3
          refine .inl ⟨hy.1 rfl, q G2 H2 ω2 (.ref Da) (t1.trans (t1'.trans t2)) (g2.rest g1 hl1 (by rw [wipe_length] at hl3; exact hl3) hok ?_)⟩
          exact t1'.gs.trans t2.gs
      · cases e
    · cases e
  · cases e
/-- the places that a block's target leaves -/
def notIn (N : Nat) (vs : List Nat) : List Nat := (List.range N).filter fun i => !vs.contains i
theorem notIn_mem {N : Nat} {vs : List Nat} : ∀ i, i < N → i ∉ vs → i ∈ notIn N vs := fun i h1 h2 => by
  unfold notIn
  refine List.mem_filter.mpr ⟨List.mem_range.mpr h1, ?_⟩
  simp [List.contains_iff_mem, h2]
/-- .. in a frame of N places -/
def lcM (N : Nat) (vs : List Nat) (ms : Env → Option (List D × Env)) (tt : D → Env → Option Env) (t : Env → Option (Bool × Env)) (m : Env → Option (D × Env)) : Env → Option (D × Env) := fun ρ => if ρ.length = N then compM vs ms tt t (frzM m) ρ else none
theorem ev_lc {iter : Expr} {ifs : List Expr} {own : List (Str × Nat)} {pos : Pos} {ms : Env → Option (List D × Env)} {N : Nat} (hc : X.calm = true) (hN : X.N.Nodup) (hNl : N = X.N.length) (hi : IV X tg iter ms) (ok : BlkOk X.N X.env.scope scope own)
    (hg : ∀ c : CBlk X scope, TGD c.cx (notIn N (own.map (·.2))) tg tt) (ht : ∀ c : CBlk X scope, TsV c.cx ifs t) (he : ∀ c : CBlk X scope, EV c.cx e m) (hs : ∀ x, foldedSetIterable iter X.env x = pure x := by intro _; rfl) :
    EV X (.ListComp e [⟨tg, iter, ifs, 0⟩] scope pos) (lcM N (own.map (·.2)) ms tt t m) := by
  obtain ⟨wi, pi, zi⟩ := hi.ex
  obtain ⟨gt, pg, zg⟩ := TGD.all hg
  obtain ⟨tt0, pt, zt⟩ := TsV.all ht
  obtain ⟨te, pe, ze⟩ := EV.all fun c => ev_frz (he c)
  refine ⟨_, pe_lc hc hN pi ok (fun s H C cl fp => pg ⟨s, H, C, cl, fp⟩) (fun s H C cl fp => pt ⟨s, H, C, cl, fp⟩) (fun s H C cl fp => pe ⟨s, H, C, cl, fp⟩) hs, fun G H ω σ τ ρ δ d ρ' Q hl g e q => ?_⟩
  unfold lcM at e
  split at e
  · rename_i hlen
    exact lc_sound (iter := iter) (ifs := ifs) (N := N) zi zg zt ze notIn_mem (by omega) hl g e q
  · cases e
/-- y = [e for ..] -/
theorem ss_setLc {i : Nat} {y : Str} {py spos : Pos} {iter : Expr} {ifs : List Expr} {own : List (Str × Nat)} {pos : Pos} {ms : Env → Option (List D × Env)} {N : Nat} (hc : X.calm = true) (hN : X.N.Nodup) (hNl : N = X.N.length) (hiy : X.N[i]? = some y) (hy : X.env.scope.names.lookup y = some .local)
    (hsw : swapsWith (.ListComp e [⟨tg, iter, ifs, 0⟩] scope pos) (some (.Name y py)) spos.line X.env = pure true) (hi : IV X tg iter ms) (ok : BlkOk X.N X.env.scope scope own)
    (hg : ∀ c : CBlk X scope, TGD c.cx (notIn N (own.map (·.2))) tg tt) (ht : ∀ c : CBlk X scope, TsV c.cx ifs t) (he : ∀ c : CBlk X scope, EV c.cx e m) (hP : P.contains i = false := by rfl) (hs : ∀ x, foldedSetIterable iter X.env x = pure x := by intro _; rfl) :
    SS X P (.Assign [.Name y py] (.ListComp e [⟨tg, iter, ifs, 0⟩] scope pos) spos) (setM i (lcM N (own.map (·.2)) ms tt t m)) := by
  obtain ⟨wi, pi, zi⟩ := hi.ex
  obtain ⟨gt, pg, zg⟩ := TGD.all hg
  obtain ⟨tt0, pt, zt⟩ := TsV.all ht
  obtain ⟨te, pe, ze⟩ := EV.all fun c => ev_frz (he c)
  refine ⟨_, ps_setLc hc hN hiy hy hsw pi ok (fun s H C cl fp => pg ⟨s, H, C, cl, fp⟩) (fun s H C cl fp => pt ⟨s, H, C, cl, fp⟩) (fun s H C cl fp => pe ⟨s, H, C, cl, fp⟩) hs, fun G H ω σ ρ r D g e q => ?_⟩
  unfold setM at e
  split at e
  · rename_i d ρ1 e1
    cases e
    unfold lcM at e1
    split at e1
    · rename_i hlen
      refine lc_sound (iter := iter) (ifs := ifs) (N := N) (Q := fun v H1 => gName i v σ H1 D.nx) zi zg zt ze notIn_mem (by rw [g.len]; exact hlen) g.len g.nil0 e1 fun G1 H1 ω1 v t1 g1 => ?_
      have hl : σ.length = ρ1.length := lens g.nil0 g1 rfl g.len
      have g2 : Good X.K G1 H1 ω1 (σ ++ [some v]) (ρ1 ++ [d]) := g1
      by_cases hi2 : i < ρ1.length
      · obtain ⟨ω3, g3, t3⟩ := g2.store hl hi2
        exact q G1 H1 ω3 _ (t1.trans t3) g3 (Prot.set hP)
      · have e1 : σ.set i (some v) = σ := List.set_eq_of_length_le (by omega)
        have e2 : ρ1.set i d = ρ1 := List.set_eq_of_length_le (by omega)
        show D.nx (σ.set i (some v)) H1
        rw [e2] at q
        rw [e1]
        exact q G1 H1 ω1 σ t1 (g2.pre hl) Prot.refl
    · cases e1
  · cases e
/-! ### what is never come to -/
theorem ev_never : EV X e (fun _ => none) := ⟨fun _ _ _ => False, ⟨fun _ _ _ _ _ _ h => h.elim⟩, fun _ _ _ _ _ _ _ _ _ _ _ _ e _ => by cases e⟩
theorem eq_never : EQ X e (fun _ => none) := ⟨fun _ _ _ => False, ⟨fun _ _ _ _ _ _ h => h.elim⟩, fun _ _ _ _ _ _ _ _ _ _ _ e _ => by cases e⟩
theorem iv_never : IV X tg e (fun _ => none) := ⟨fun _ _ _ => False, ⟨fun _ _ _ _ _ _ h => h.elim⟩, fun _ _ _ _ _ _ _ _ _ _ _ _ e _ => by cases e⟩
theorem ss_never {st : Stmt} : SS X P st (fun _ => none) := ⟨_, ps_never, fun _ _ _ _ _ _ _ _ e _ => by cases e⟩
theorem bs_never {st : List Stmt} : BS X P st (fun _ => none) := ⟨_, pss_never, fun _ _ _ _ _ _ _ _ e _ => by cases e⟩
end
end CW

namespace CW
open PySem L2
section
variable {X : Cx} {P : List Nat} {e a b : Expr} {es : List Expr} {pos : Pos} {f g : Env → Option D} {m ma mb : Env → Option (D × Env)}
/-! ### slices -/
theorem lst_sq {K : PySem.W.Frag} {G H : Hp} {md : Md} {ds : List D} {v : V} (hv : VR K G H (.lst md ds) v) : ∃ p xs, v = .ref p ∧ SqL K H p xs ∧ RepL K G ds xs := by
  obtain ⟨a, vs, e, h1, h2⟩ := hv.1
  refine ⟨a, vs, e, ?_, h2⟩
  cases md with
  | o => exact SqL.of h1
  | f => exact SqL.of h1
  | x => exact h1
def optQ (X : Cx) (e : Option Expr) (f : Env → Option (Option Int)) : Prop := ∃ t, PO X e t ∧ ∀ (G H : Hp) (ω : Ow) (σ τ : Sl) (ρ δ : List D) (o : Option Int) (Q : Option Int → Hp → Prop), σ.length = ρ.length → Good X.K G H ω (σ ++ τ) (ρ ++ δ) → f ρ = some o → Q o H → t σ H Q
def noneO : Env → Option (Option Int) := fun _ => some none
def someO (f : Env → Option D) : Env → Option (Option Int) := fun ρ => match f ρ with
  | some (.int i) => some (some i)
  | _ => none
theorem oq_none : optQ X none noneO := ⟨_, po_none, fun G H ω σ τ ρ δ o Q hl g e q => by cases e; exact q⟩
theorem oq_some (h : EQ X e f) : optQ X (some e) (someO f) := by
  obtain ⟨te, p, z⟩ := h.ex
  refine ⟨_, po_some p, fun G H ω σ τ ρ δ o Q hl g e q => ?_⟩
  unfold someO at e
  split at e
  · rename_i i ei
    cases e
    exact z G H ω σ τ ρ δ _ _ hl g ei fun v hv => ⟨i, hv.eqS rfl, q⟩
  · cases e
def cutL {α : Type} (xs : List α) (lo hi : Option Int) : List α := (xs.drop (HT.sIx xs.length 0 lo)).take (HT.sIx xs.length xs.length hi - HT.sIx xs.length 0 lo)
theorem RepL.cut {K : PySem.W.Frag} {G : Hp} {ds : List D} {vs : List V} {lo hi : Option Int} (h : RepL K G ds vs) : RepL K G (cutL ds lo hi) (cutV vs lo hi) := by
  unfold cutL cutV
  rw [h.length]
  exact (h.drop _).take _
def sliceD (d : D) (l h : Option Int) : Option D := match d with
  | .tup ds => some (.tup (cutL ds l h))
  | .lst _ ds => some (.lst .o (cutL ds l h))
  | _ => none
def sliceM (m : Env → Option (D × Env)) (lo hi : Env → Option (Option Int)) : Env → Option (D × Env) := fun ρ => match m ρ with
  | some (d, ρ1) => (match lo ρ1, hi ρ1 with
    | some l, some h => (match sliceD d l h with
      | some d' => some (d', ρ1)
      | none => none)
    | _, _ => none)
  | none => none
def sliceQ (f : Env → Option D) (lo hi : Env → Option (Option Int)) : Env → Option (D × Env) := fun ρ => match f ρ with
  | some d => (match lo ρ, hi ρ with
    | some l, some h => (match sliceD d l h with
      | some d' => some (d', ρ)
      | none => none)
    | _, _ => none)
  | none => none
theorem cut_whole {α : Type} {xs : List α} {lo hi : Option Int} (h : HT.sIx xs.length 0 lo = 0 ∧ HT.sIx xs.length xs.length hi = xs.length) : cutL xs lo hi = xs := by
  unfold cutL
  rw [h.1, h.2]
  simp
/-- the slice of a value in hand -/
theorem slice_ok {K : PySem.W.Frag} {G H : Hp} {ω : Ow} {σ τ : Sl} {ρ δ : List D} {d d' : D} {v : V} {lo hi : Option Int} {Q : VK} (g : Good K G H ω (σ ++ τ) (ρ ++ δ)) (hv : VR K G H d v)
    (e : sliceD d lo hi = some d')
    (q : ∀ G' H' ω' w, Tr ω ω' G H G' H' → Good K G' H' ω' (σ ++ (τ ++ [some w])) (ρ ++ (δ ++ [d'])) → Q w H') : rSlA K v lo hi H Q ∨ rSlL K v lo hi H Q := by
  cases d with
  | tup ds =>
    cases e
    obtain ⟨p, vs, rfl, z1, z2⟩ := tup_at hv
    refine .inl ⟨p, vs, rfl, Same.seqT g.same z1, fun hw => ?_, fun hw p' hp => ?_⟩
    · refine q G H ω _ Tr.refl (g.add1 ?_)
      rw [cut_whole (by rw [z2.length]; exact hw)]
      unfold Rep
      exact ⟨p, vs, rfl, z1, z2⟩
    · obtain ⟨g2, t2⟩ := new_tup g (z2.cut (lo := lo) (hi := hi)) hp
      exact q _ _ _ _ t2 g2
  | lst md ds =>
    cases e
    obtain ⟨p, xs, rfl, hs, hr⟩ := lst_sq hv
    refine .inr ⟨p, xs, rfl, hs, fun p' hp => ?_⟩
    obtain ⟨ω2, g2, t2⟩ := new_lst g (hr.cut (lo := lo) (hi := hi)) hp
    exact q _ _ _ _ t2 g2
  | _ => cases e
theorem PO.toQ {lo : Option Expr} {l : Env → Option (Option Int)} (h : optQ X lo l) : ∃ t, PO X lo t ∧ ∀ (G H : Hp) (ω : Ow) (σ τ : Sl) (ρ δ : List D) (o : Option Int) (Q : Option Int → Hp → Prop), σ.length = ρ.length → Good X.K G H ω (σ ++ τ) (ρ ++ δ) → l ρ = some o → Q o H → t σ H Q := h
theorem pe_sl {te : TE} {lo hi : Option Expr} {tl th : TO} {p2 : Pos} (p : PE X e te) (pl : PO X lo tl) (ph : PO X hi th) : PE X (.Subscript e (.Slice lo hi none p2) pos) (fun σ H Q => te σ H fun x H1 => tl σ H1 fun l H2 => th σ H2 fun u H3 => rSlA X.K x l u H3 Q ∨ rSlL X.K x l u H3 Q) := by
  have sl : SlR X (fun x l u H Q => rSlA X.K x l u H Q ∨ rSlL X.K x l u H Q) := by
    intro pins s σ H x y v u o l h Q I r1 r2 r3 r4 z
    rcases z with z | z
    · exact sl_tupA pins s σ H _ _ _ _ _ _ _ Q I r1 r2 r3 r4 z
    · exact sl_list pins s σ H _ _ _ _ _ _ _ Q I r1 r2 r3 r4 z
  exact pe_slice sl p pl ph
theorem ev_slice {lo hi : Option Expr} {l h : Env → Option (Option Int)} {p2 : Pos} (ha : EV X e m) (hl : optQ X lo l) (hh : optQ X hi h) : EV X (.Subscript e (.Slice lo hi none p2) pos) (sliceM m l h) := by
  obtain ⟨te, p, z⟩ := ha.ex
  obtain ⟨tl, pl, zl⟩ := hl
  obtain ⟨th, ph, zh⟩ := hh
  refine ⟨_, pe_sl p pl ph, fun G H ω σ τ ρ δ d ρ' Q hln g e q => ?_⟩
  unfold sliceM at e
  split at e
  · rename_i d0 ρ1 e1
    split at e
    · rename_i lv hv el eh
      refine z G H ω σ τ ρ δ d0 ρ1 _ hln g e1 fun G1 H1 ω1 v t1 g1 => ?_
      have hl1 := lens g g1 rfl hln
      refine zl G1 H1 ω1 σ τ ρ1 δ lv _ hl1 g1.drop1 el (zh G1 H1 ω1 σ τ ρ1 δ hv _ hl1 g1.drop1 eh ?_)
      have e' : sliceD d0 lv hv = some d ∧ ρ1 = ρ' := by
        split at e
        · rename_i d9 e9
          cases e
          exact ⟨e9, rfl⟩
        · cases e
      obtain ⟨e', rfl⟩ := e'
      exact slice_ok g1.drop1 g1.last e' fun G2 H2 ω2 w t2 g2 => q G2 H2 ω2 w (t1.trans t2) g2
    · cases e
  · cases e
theorem ev_sliceQ {lo hi : Option Expr} {l h : Env → Option (Option Int)} {p2 : Pos} (ha : EQ X e f) (hl : optQ X lo l) (hh : optQ X hi h) : EV X (.Subscript e (.Slice lo hi none p2) pos) (sliceQ f l h) := by
  obtain ⟨te, p, z⟩ := ha.ex
  obtain ⟨tl, pl, zl⟩ := hl
  obtain ⟨th, ph, zh⟩ := hh
  refine ⟨_, pe_sl p pl ph, fun G H ω σ τ ρ δ d ρ' Q hln g e q => ?_⟩
  unfold sliceQ at e
  split at e
  · rename_i d0 e1
    split at e
    · rename_i lv hv el eh
      refine z G H ω σ τ ρ δ d0 _ hln g e1 fun v hvr => ?_
      refine zl G H ω σ τ ρ δ lv _ hln g el (zh G H ω σ τ ρ δ hv _ hln g eh ?_)
      have e' : sliceD d0 lv hv = some d ∧ ρ = ρ' := by
        split at e
        · rename_i d9 e9
          cases e
          exact ⟨e9, rfl⟩
        · cases e
      obtain ⟨e', rfl⟩ := e'
      exact slice_ok g hvr e' q
    · cases e
  · cases e
/-! ### built-ins of one argument that make a list, a tuple -/
def NB (K : PySem.W.Frag) (r : List V → Hp → VK → Prop) (F : D → Option (List D)) : Prop := ∀ (G H : Hp) (d1 : D) (ds : List D) (v1 : V) (Q : VK), Same G H → VR K G H d1 v1 → F d1 = some ds → (∀ vs p, RepL K G ds vs → H p = none → Q (.ref p) (upd H p (.lst vs))) → r [v1] H Q
def TB (K : PySem.W.Frag) (r : List V → Hp → VK → Prop) (F : D → Option (List D)) : Prop := ∀ (G H : Hp) (d1 : D) (ds : List D) (v1 : V) (Q : VK), Same G H → VR K G H d1 v1 → F d1 = some ds → (∀ v, Rep K G (.tup ds) v → Q v H) → (∀ vs p, RepL K G ds vs → H p = none → Q (.ref p) (upd H p (.tup vs))) → r [v1] H Q
def b1N (F : D → Option (List D)) (m : Env → Option (D × Env)) : Env → Option (D × Env) := fun ρ => match m ρ with
  | some (d, ρ') => (match F d with
    | some ds => some (.lst .o ds, ρ')
    | none => none)
  | none => none
def b1T (F : D → Option (List D)) (m : Env → Option (D × Env)) : Env → Option (D × Env) := fun ρ => match m ρ with
  | some (d, ρ') => (match F d with
    | some ds => some (.tup ds, ρ')
    | none => none)
  | none => none
def b1NQ (F : D → Option (List D)) (f : Env → Option D) : Env → Option (D × Env) := fun ρ => match f ρ with
  | some d => (match F d with
    | some ds => some (.lst .o ds, ρ)
    | none => none)
  | none => none
def b1TQ (F : D → Option (List D)) (f : Env → Option D) : Env → Option (D × Env) := fun ρ => match f ρ with
  | some d => (match F d with
    | some ds => some (.tup ds, ρ)
    | none => none)
  | none => none
theorem ev_b1N {r : List V → Hp → VK → Prop} {F : D → Option (List D)} (hr : NB X.K r F) (ha : EV X a m) (hp : ∀ {t : TA}, PA X [a] t → PE X e (tCB r t)) (hs : starEach [a] X.env = (false, eval a X.env) :: starEach [] X.env := by rfl) : EV X e (b1N F m) := by
  obtain ⟨ta, pa, sa⟩ := ha.ex
  refine ⟨_, hp (pa_cons pa pa_nil hs), fun G H ω σ τ ρ δ d ρ' Q hl g e q => ?_⟩
  unfold b1N at e
  split at e
  · rename_i d0 ρ1 e1
    split at e
    · rename_i ds e2
      cases e
      refine sa G H ω σ τ ρ δ d0 _ _ hl g e1 fun G1 H1 ω1 v t1 g1 => hr G1 H1 d0 ds v Q g1.same g1.last e2 fun vs p hv hp => ?_
      obtain ⟨ω2, g2, t2⟩ := new_lst g1.drop1 hv hp
      exact q _ _ _ _ (t1.trans t2) g2
    · cases e
  · cases e
theorem ev_b1NQ {r : List V → Hp → VK → Prop} {F : D → Option (List D)} (hr : NB X.K r F) (ha : EQ X a f) (hp : ∀ {t : TA}, PA X [a] t → PE X e (tCB r t)) (hs : starEach [a] X.env = (false, eval a X.env) :: starEach [] X.env := by rfl) : EV X e (b1NQ F f) := by
  obtain ⟨ta, pa, sa⟩ := ha.ex
  refine ⟨_, hp (pa_cons pa pa_nil hs), fun G H ω σ τ ρ δ d ρ' Q hl g e q => ?_⟩
  unfold b1NQ at e
  split at e
  · rename_i d0 e1
    split at e
    · rename_i ds e2
      cases e
      refine sa G H ω σ τ ρ δ d0 _ hl g e1 fun v hv => hr G H d0 ds v Q g.same hv e2 fun vs p hv hp => ?_
      obtain ⟨ω2, g2, t2⟩ := new_lst g hv hp
      exact q _ _ _ _ t2 g2
    · cases e
  · cases e
theorem ev_b1T {r : List V → Hp → VK → Prop} {F : D → Option (List D)} (hr : TB X.K r F) (ha : EV X a m) (hp : ∀ {t : TA}, PA X [a] t → PE X e (tCB r t)) (hs : starEach [a] X.env = (false, eval a X.env) :: starEach [] X.env := by rfl) : EV X e (b1T F m) := by
  obtain ⟨ta, pa, sa⟩ := ha.ex
  refine ⟨_, hp (pa_cons pa pa_nil hs), fun G H ω σ τ ρ δ d ρ' Q hl g e q => ?_⟩
  unfold b1T at e
  split at e
  · rename_i d0 ρ1 e1
    split at e
    · rename_i ds e2
      cases e
      refine sa G H ω σ τ ρ δ d0 _ _ hl g e1 fun G1 H1 ω1 v t1 g1 => hr G1 H1 d0 ds v Q g1.same g1.last e2 (fun w hw => q _ _ _ _ t1 (g1.drop1.add1 hw)) fun vs p hv hp => ?_
      obtain ⟨g2, t2⟩ := new_tup g1.drop1 hv hp
      exact q _ _ _ _ (t1.trans t2) g2
    · cases e
  · cases e
theorem ev_b1TQ {r : List V → Hp → VK → Prop} {F : D → Option (List D)} (hr : TB X.K r F) (ha : EQ X a f) (hp : ∀ {t : TA}, PA X [a] t → PE X e (tCB r t)) (hs : starEach [a] X.env = (false, eval a X.env) :: starEach [] X.env := by rfl) : EV X e (b1TQ F f) := by
  obtain ⟨ta, pa, sa⟩ := ha.ex
  refine ⟨_, hp (pa_cons pa pa_nil hs), fun G H ω σ τ ρ δ d ρ' Q hl g e q => ?_⟩
  unfold b1TQ at e
  split at e
  · rename_i d0 e1
    split at e
    · rename_i ds e2
      cases e
      refine sa G H ω σ τ ρ δ d0 _ hl g e1 fun v hv => hr G H d0 ds v Q g.same hv e2 (fun w hw => q _ _ _ _ Tr.refl (g.add1 hw)) fun vs p hv hp => ?_
      obtain ⟨g2, t2⟩ := new_tup g hv hp
      exact q _ _ _ _ t2 g2
    · cases e
  · cases e
theorem nb_list {K : PySem.W.Frag} : NB K (fun xs H Q => ∃ p ys, xs = [V.ref p] ∧ (SqL K H p ys ∨ SqT K H p ys) ∧ ∀ (l : Addr), H l = none → Q (V.ref l) (upd H l (HO.lst ys))) itemsD := by
  intro G H d1 ds v1 Q s h1 e q
  obtain ⟨p, xs, rfl, hs, hr⟩ := seq_of s (itemsD_some e) h1
  exact ⟨p, xs, rfl, hs, fun l hl => q xs l hr hl⟩
theorem tb_tuple {K : PySem.W.Frag} : TB K (fun xs H Q => ∃ p ys, xs = [V.ref p] ∧ ((SqL K H p ys ∧ ∀ (l : Addr), H l = none → Q (V.ref l) (upd H l (HO.tup ys))) ∨ SqT K H p ys ∧ Q (V.ref p) H)) itemsD := by
  intro G H d1 ds v1 Q s h1 e q q'
  rcases itemsD_some e with ⟨md, rfl⟩ | rfl
  · obtain ⟨p, xs, rfl, hs, hr⟩ := lst_sq h1
    exact ⟨p, xs, rfl, .inl ⟨hs, fun l hl => q' xs l hr hl⟩⟩
  · obtain ⟨p, vs, rfl, z1, z2⟩ := tup_at h1
    exact ⟨p, vs, rfl, .inr ⟨Same.seqT s z1, q _ (by unfold Rep; exact ⟨p, vs, rfl, z1, z2⟩)⟩⟩
variable {p : Pos}
theorem ev_list (hg : Gl X "list") (hm : X.mg "list" = none) (ha : EV X a m) (hs : starEach [a] X.env = (false, eval a X.env) :: starEach [] X.env := by rfl) : EV X (.Call (.Name "list" p) [a] [] pos) (b1N itemsD m) :=
  ev_b1N nb_list ha (fun pa => pe_callTy call_list_of hg hm PyProof.Rows.boot_list pa (by decide) (by decide) hs) hs
theorem ev_listQ (hg : Gl X "list") (hm : X.mg "list" = none) (ha : EQ X a f) (hs : starEach [a] X.env = (false, eval a X.env) :: starEach [] X.env := by rfl) : EV X (.Call (.Name "list" p) [a] [] pos) (b1NQ itemsD f) :=
  ev_b1NQ nb_list ha (fun pa => pe_callTy call_list_of hg hm PyProof.Rows.boot_list pa (by decide) (by decide) hs) hs
theorem ev_tuple (hg : Gl X "tuple") (hm : X.mg "tuple" = none) (ha : EV X a m) (hs : starEach [a] X.env = (false, eval a X.env) :: starEach [] X.env := by rfl) : EV X (.Call (.Name "tuple" p) [a] [] pos) (b1T itemsD m) :=
  ev_b1T tb_tuple ha (fun pa => pe_callTy call_tuple_of hg hm PyProof.Rows.boot_tuple pa (by decide) (by decide) hs) hs
theorem ev_tupleQ (hg : Gl X "tuple") (hm : X.mg "tuple" = none) (ha : EQ X a f) (hs : starEach [a] X.env = (false, eval a X.env) :: starEach [] X.env := by rfl) : EV X (.Call (.Name "tuple" p) [a] [] pos) (b1TQ itemsD f) :=
  ev_b1TQ tb_tuple ha (fun pa => pe_callTy call_tuple_of hg hm PyProof.Rows.boot_tuple pa (by decide) (by decide) hs) hs
/-! ### sorted, of ints -/
def intsD : List D → Option (List Int)
  | [] => some []
  | .int i :: ds => (intsD ds).map (i :: ·)
  | _ => none
theorem intsD_ok : ∀ {ds : List D} {ns : List Int}, intsD ds = some ns → ds = ns.map D.int
  | [], ns, e => by unfold intsD at e; cases e; rfl
  | d :: ds, ns, e => by
    cases d <;> simp [intsD] at e
    obtain ⟨ms, e1, rfl⟩ := e
    rw [List.map_cons, ← intsD_ok e1]
theorem intsD_map : ∀ (ns : List Int), intsD (ns.map D.int) = some ns
  | [] => rfl
  | n :: ns => by simp [intsD, intsD_map ns]
def sortI (ns : List Int) : List Int := ns.mergeSort fun a b => decide (a ≤ b)
theorem sortI_perm (ns : List Int) : (sortI ns).Perm ns := List.mergeSort_perm _ _
theorem sortI_sorted (ns : List Int) : (sortI ns).Pairwise (· ≤ ·) := by
  have := List.pairwise_mergeSort (le := fun a b : Int => decide (a ≤ b)) (fun a b c h1 h2 => by simp at *; omega) (fun a b => by simp; omega) ns
  exact this.imp fun h => of_decide_eq_true h
theorem sortI_eq {ns ms : List Int} (h : ms.Perm ns) (hs : ms.Pairwise (· ≤ ·)) : ms = sortI ns := PySem.W.ksm_same (h.trans (sortI_perm ns).symm) hs (sortI_sorted ns)
theorem reps_ints {K : PySem.W.Frag} {G : Hp} : ∀ {ns : List Int} {vs : List V}, RepL K G (ns.map D.int) vs → vs = ns.map V.int
  | [], vs, h => by unfold List.map RepL at h; exact h
  | n :: ns, vs, h => by
    rw [List.map_cons] at h
    unfold RepL at h
    obtain ⟨v, r, rfl, h1, h2⟩ := h
    unfold Rep at h1
    rw [h1, reps_ints h2]; rfl
theorem ints_reps {K : PySem.W.Frag} {G : Hp} : ∀ (ns : List Int), RepL K G (ns.map D.int) (ns.map V.int)
  | [] => RepL.nil
  | n :: ns => by
    rw [List.map_cons, List.map_cons]
    unfold RepL
    exact ⟨_, _, rfl, by unfold Rep; rfl, ints_reps ns⟩
def sortD : D → Option (List D)
  | .lst _ ds => (intsD ds).map fun ns => (sortI ns).map D.int
  | _ => none
theorem nb_sorted {K : PySem.W.Frag} : NB K (rSortedI K) sortD := by
  intro G H d1 ds v1 Q s h1 e q
  cases d1 with
  | lst md ds0 =>
    simp only [sortD] at e
    cases en : intsD ds0 with
    | none => rw [en] at e; cases e
    | some ns =>
      rw [en] at e
      cases e
      obtain ⟨p, xs, rfl, hs, hr⟩ := lst_sq h1
      rw [intsD_ok en] at hr
      rw [reps_ints hr] at hs
      refine ⟨p, ns, rfl, hs, fun ns' l hp hso hl => ?_⟩
      rw [sortI_eq hp hso]
      exact q _ l (ints_reps _) hl
  | _ => simp [sortD] at e
theorem boot_sorted0 : bootBuiltins "sorted" = some (.builtin "sorted") := by decide +kernel
theorem ev_sorted (hg : Gl X "sorted") (hm : X.mg "sorted" = none) (ha : EV X a m) (hs : starEach [a] X.env = (false, eval a X.env) :: starEach [] X.env := by rfl) : EV X (.Call (.Name "sorted" p) [a] [] pos) (b1N sortD m) :=
  ev_b1N nb_sorted ha (fun pa => pe_callB cr_sortedI hg hm boot_sorted0 pa (by decide) (by decide) hs) hs
theorem ev_sortedQ (hg : Gl X "sorted") (hm : X.mg "sorted" = none) (ha : EQ X a f) (hs : starEach [a] X.env = (false, eval a X.env) :: starEach [] X.env := by rfl) : EV X (.Call (.Name "sorted" p) [a] [] pos) (b1NQ sortD f) :=
  ev_b1NQ nb_sorted ha (fun pa => pe_callB cr_sortedI hg hm boot_sorted0 pa (by decide) (by decide) hs) hs
/-! ### methods of a list at a place of the frame -/
/-- x.append(e) -/
def appM (i : Nat) (m : Env → Option (D × Env)) : Env → Option (D × Env) := fun ρ => match rdS i ρ with
  | some (.lst .o _) => (match frzM m ρ with
    | some (d, ρ1) => (match rdS i ρ1 with
      | some (.lst .o ds) => if isF d = true ∧ ds.length < 16777216 then some (.non, ρ1.set i (.lst .o (ds ++ [d]))) else none
      | _ => none)
    | none => none)
  | _ => none
theorem own_lst {K : PySem.W.Frag} {G H : Hp} {ω : Ow} {p : List Nat} {ds : List D} {v : V} (h : Own K G H ω p (.lst .o ds) v) : ∃ a vs, v = .ref a ∧ H a = some (.lst vs) ∧ ω a = some p ∧ RepL K G ds vs := by
  unfold Own at h
  exact h
theorem Good.setL {K : PySem.W.Frag} {G H : Hp} {ω : Ow} {σ τ : Sl} {ρ δ : List D} {i : Nat} {a : Addr} {ds : List D} {vs : List V} {d0 : D} (g : Good K G H ω (σ ++ τ) (ρ ++ δ)) (hl : σ.length = ρ.length) (he : ρ[i]? = some d0) (hs : σ[i]? = some (some (.ref a))) (hw : ω a = some [i]) (hr : RepL K G ds vs) :
    Good K G (upd H a (.lst vs)) ω (σ ++ τ) (ρ.set i (.lst .o ds) ++ δ) ∧ Tr ω ω G H G (upd H a (.lst vs)) := by
  have hi : i < ρ.length := (List.getElem?_eq_some_iff.mp he).1
  have := g.write1 (i := i) (o' := .lst vs) (d' := .lst .o ds) (by rw [List.getElem?_append_left (by omega)]; exact hs) hw (by unfold Own; exact ⟨a, vs, rfl, upd_same, hw, hr⟩)
  rw [set_app hi] at this
  exact this
theorem ev_append {i : Nat} {x : Str} {px apos cpos : Pos} (hx : PE X (.Name x px) (tVar i)) (h : EV X e m) (hb : attributeBase (.Name x px) "append" X.env (eval (.Name x px) X.env) = eval (.Name x px) X.env := by rfl)
    (hf : ((((backTo cpos (starEach [e] X.env)).all fun x => !x.1) && (backToKw cpos (keywordEach [] X.env)).all fun x => x.1.isSome) && decide (([e].length + ([] : List Keyword).length + if ([] : List Keyword).isEmpty = true then 0 else 1) < 30)) = true := by rfl)
    (hln : (apos.endLine == cpos.line) = true := by rfl) (hst : starEach [e] X.env = (false, eval e X.env) :: starEach [] X.env := by rfl) :
    EV X (.Call (.Attribute (.Name x px) "append" apos) [e] [] cpos) (appM i m) := by
  obtain ⟨te, p, z⟩ := (ev_frz h).ex
  refine ⟨_, pe_bm PySem.F.plainAttrs_list PySem.F.slot_list_append PySem.F.type_list_append mt_append hx (pa_cons p pa_nil hst) hb hf hln hst (by rfl), fun G H ω σ τ ρ δ d ρ' Q hl g e q => ?_⟩
  unfold appM at e
  split at e
  · rename_i ds0 e0
    split at e
    · rename_i d1 ρ1 e1
      split at e
      · rename_i ds e2
        split at e
        · rename_i hc
          cases e
          obtain ⟨v, ev, hv⟩ := g.at hl e0
          obtain ⟨a0, vs0, rfl, z1, _, _⟩ := own_lst hv
          refine ⟨_, ev, .inl ⟨rfl, vs0, SqL.of z1⟩, z G H ω σ τ ρ δ d1 ρ1 _ hl g e1 fun G1 H1 ω1 y t1 g1 => ?_⟩
          have hl1 := lens g g1 rfl hl
          have g2 := g1.drop1
          obtain ⟨u, eu, hu⟩ := g2.at hl1 e2
          rw [ev] at eu
          cases eu
          obtain ⟨a, vs, ea, y1, y2, y3⟩ := own_lst hu
          cases ea
          have hy := g1.last.2 hc.1
          obtain ⟨e3, _⟩ := rdS_some e2
          obtain ⟨g3, t3⟩ := g2.setL hl1 e3 ev y2 (y3.app (RepL.one hy))
          exact ⟨a0, vs, y, rfl, rfl, y1, by rw [← y3.length]; exact hc.2, q _ _ _ _ (t1.trans t3) (g3.add1 (by unfold Rep; rfl))⟩
        · cases e
      · cases e
    · cases e
  · cases e
/-- x.extend(e) -/
def extM (i : Nat) (m : Env → Option (D × Env)) : Env → Option (D × Env) := fun ρ => match rdS i ρ with
  | some (.lst .o _) => (match m ρ with
    | some (.lst md es, ρ1) => (match rdS i ρ1 with
      | some (.lst .o ds) => if md ≠ .x ∧ ds.length + es.length ≤ 16777216 then some (.non, ρ1.set i (.lst .o (ds ++ es))) else none
      | _ => none)
    | _ => none)
  | _ => none
theorem ev_extend {i : Nat} {x : Str} {px apos cpos : Pos} (hx : PE X (.Name x px) (tVar i)) (h : EV X e m) (hb : attributeBase (.Name x px) "extend" X.env (eval (.Name x px) X.env) = eval (.Name x px) X.env := by rfl)
    (hf : ((((backTo cpos (starEach [e] X.env)).all fun x => !x.1) && (backToKw cpos (keywordEach [] X.env)).all fun x => x.1.isSome) && decide (([e].length + ([] : List Keyword).length + if ([] : List Keyword).isEmpty = true then 0 else 1) < 30)) = true := by rfl)
    (hln : (apos.endLine == cpos.line) = true := by rfl) (hst : starEach [e] X.env = (false, eval e X.env) :: starEach [] X.env := by rfl) :
    EV X (.Call (.Attribute (.Name x px) "extend" apos) [e] [] cpos) (extM i m) := by
  obtain ⟨te, p, z⟩ := h.ex
  refine ⟨_, pe_bm PySem.F.plainAttrs_list PySem.F.slot_list_extend PySem.F.type_list_extend mt_extend hx (pa_cons p pa_nil hst) hb hf hln hst (by rfl), fun G H ω σ τ ρ δ d ρ' Q hl g e q => ?_⟩
  unfold extM at e
  split at e
  · rename_i ds0 e0
    split at e
    · rename_i md es ρ1 e1
      split at e
      · rename_i ds e2
        split at e
        · rename_i hc
          cases e
          obtain ⟨v, ev, hv⟩ := g.at hl e0
          obtain ⟨a0, vs0, rfl, z1, _, _⟩ := own_lst hv
          refine ⟨_, ev, .inl ⟨rfl, vs0, SqL.of z1⟩, z G H ω σ τ ρ δ _ ρ1 _ hl g e1 fun G1 H1 ω1 y t1 g1 => ?_⟩
          have hl1 := lens g g1 rfl hl
          have g2 := g1.drop1
          obtain ⟨u, eu, hu⟩ := g2.at hl1 e2
          rw [ev] at eu
          cases eu
          obtain ⟨a, vs, ea, y1, y2, y3⟩ := own_lst hu
          cases ea
          obtain ⟨b, us, rfl, w1, w2⟩ := lst_at g1.last hc.1
          obtain ⟨e3, _⟩ := rdS_some e2
          obtain ⟨g3, t3⟩ := g2.setL hl1 e3 ev y2 (y3.app w2)
          exact ⟨a0, b, vs, us, rfl, rfl, y1, w1, by rw [← y3.length, ← w2.length]; exact hc.2, q _ _ _ _ (t1.trans t3) (g3.add1 (by unfold Rep; rfl))⟩
        · cases e
      · cases e
    · cases e
  · cases e
/-- x.pop() -/
def popM (i : Nat) : Env → Option (D × Env) := fun ρ => match rdS i ρ with
  | some (.lst .o ds) => (match ds[ds.length - 1]? with
    | some d => if isF d = true then some (d, ρ.set i (.lst .o ds.dropLast)) else none
    | none => none)
  | _ => none
theorem RepL.dropLast {K : PySem.W.Frag} {G : Hp} {ds : List D} {vs : List V} (h : RepL K G ds vs) : RepL K G ds.dropLast vs.dropLast := by
  rw [List.dropLast_eq_take, List.dropLast_eq_take, h.length]
  exact h.take _
theorem ev_pop {i : Nat} {x : Str} {px apos cpos : Pos} (hx : PE X (.Name x px) (tVar i)) (hb : attributeBase (.Name x px) "pop" X.env (eval (.Name x px) X.env) = eval (.Name x px) X.env := by rfl) (hln : (apos.endLine == cpos.line) = true := by rfl) :
    EV X (.Call (.Attribute (.Name x px) "pop" apos) [] [] cpos) (popM i) := by
  refine ⟨_, pe_bm0 PySem.F.plainAttrs_list PySem.F.slot_list_pop PySem.F.type_list_pop mt_pop hx hb hln, fun G H ω σ τ ρ δ d ρ' Q hl g e q => ?_⟩
  unfold popM at e
  split at e
  · rename_i ds e0
    split at e
    · rename_i d1 e1
      split at e
      · cases e
        obtain ⟨v, ev, hv⟩ := g.at hl e0
        obtain ⟨a, vs, rfl, y1, y2, y3⟩ := own_lst hv
        obtain ⟨e3, _⟩ := rdS_some e0
        obtain ⟨g3, t3⟩ := g.setL hl e3 ev y2 y3.dropLast
        obtain ⟨w, ew, hw⟩ := y3.get e1
        exact ⟨_, ev, .inl ⟨rfl, vs, SqL.of y1⟩, a, vs, w, rfl, rfl, y1, by rw [← y3.length]; exact ew, q _ _ _ _ t3 (g3.add1 hw)⟩
      · cases e
    · cases e
  · cases e
/-- x.pop(e) -/
def popAtM (i : Nat) (f : Env → Option D) : Env → Option (D × Env) := fun ρ => match rdS i ρ with
  | some (.lst .o ds) => (match f ρ with
    | some (.int j) => if 0 ≤ j ∧ j < ds.length ∧ ds.length ≤ 16777216 then (match ds[j.toNat]? with
      | some d => if isF d = true then some (d, ρ.set i (.lst .o (ds.eraseIdx j.toNat))) else none
      | none => none) else none
    | _ => none)
  | _ => none
end
end CW

namespace CW
open PySem L2
/-! ### fields of an instance at a place -/
/-- the field's place in the list of names -/
def fldIx (f : Str) : List Str → Nat
  | [] => 0
  | n :: ns => if f == n then 0 else fldIx f ns + 1
def setFld (f : Str) (d' : D) : D → D
  | .ins C ns ds => .ins C ns (ds.set (fldIx f ns) d')
  | d => d
section
variable {K : PySem.W.Frag} {G H G' H' : Hp} {ω ω' : Ow} {σ τ : Sl} {ρ δ : List D}
theorem zip_ix {f : Str} {d : D} : ∀ {ns : List Str} {ds : List D} {vs : List V} {k : Nat} {p : List Nat}, OwnL K G H ω p k ds vs → (ns.zip ds).lookup f = some d → ∃ v, vs[fldIx f ns]? = some v ∧ ds[fldIx f ns]? = some d ∧ Own K G H ω (p ++ [k + fldIx f ns]) d v ∧ (ns.zip vs).lookup f = some v
  | [], _, _, _, _, _, e => by simp at e
  | n :: ns, [], _, _, _, _, e => by simp at e
  | n :: ns, d0 :: ds, vs, k, p, h, e => by
    unfold OwnL at h
    obtain ⟨v, r, rfl, h1, h2⟩ := h
    simp only [List.zip_cons_cons, List.lookup_cons] at e ⊢
    unfold fldIx
    cases hb : f == n with
    | true =>
      rw [hb] at e
      simp at e
      subst e
      exact ⟨v, rfl, rfl, h1, by simp⟩
    | false =>
      rw [hb] at e
      simp at e
      obtain ⟨u, e1, e2, e3, e4⟩ := zip_ix h2 e
      refine ⟨u, by simpa using e1, by simpa using e2, ?_, by simpa using e4⟩
      rw [if_neg (by simp), show k + (fldIx f ns + 1) = k + 1 + fldIx f ns by omega]
      exact e3
theorem app_inj {a b : List Nat} {i j : Nat} {r : List Nat} (h : a ++ [i] = a ++ [j] ++ r) : i = j := by
  rw [List.append_assoc] at h
  have := List.append_cancel_left h
  simp at this
  exact this.1
/-- what a field owns is written -/
theorem Good.writeF {i : Nat} {C : Addr} {ns : List Str} {ds : List D} {f : Str} {d d' : D} {a : Addr} {o' : HO} {x dx : Addr} {vs : List V} (g : Good K G H ω σ ρ) (hρ : ρ[i]? = some (.ins C ns ds)) (hs : σ[i]? = some (some (.ref x))) (hx : H x = some (.ins C dx (ns.zip vs))) (hwx : ω x = some [i]) (hlen : ns.length = ds.length)
    (hO : OwnL K G H ω [i] 0 ds vs) (he : (ns.zip ds).lookup f = some d) (hv : vs[fldIx f ns]? = some (.ref a)) (hw : ω a = some [i, fldIx f ns]) (hd : Own K G (upd H a o') ω [i, fldIx f ns] d' (.ref a)) :
    Good K G (upd H a o') ω σ (ρ.set i (setFld f d' (.ins C ns ds))) ∧ Tr ω ω G H G (upd H a o') := by
  have ga : G a = none := g.out a (by rw [hw]; simp)
  have hxa : x ≠ a := fun z => by rw [z, hw] at hwx; simp at hwx
  have hi : i < ρ.length := (List.getElem?_eq_some_iff.mp hρ).1
  refine ⟨⟨fun b y e => ?_, g.out, fun b h => ?_, by simp [g.len], fun j dj e => ?_⟩, Same.refl _, fun b y e h => ?_, fun _ h => .inl h, fun _ h => .inr h⟩
  · rw [upd_ne (ne_of_none e ga)]; exact g.same b y e
  · by_cases hb : b = a
    · subst hb; rw [upd_same]; simp
    · rw [upd_ne hb]; exact g.live b h
  · by_cases hj : j = i
    · subst hj
      rw [List.getElem?_set_self hi] at e
      cases e
      refine .inr ⟨_, hs, ?_⟩
      show Own K G (upd H a o') ω [j] (.ins C ns (ds.set (fldIx f ns) d')) (.ref x)
      unfold Own
      refine ⟨x, dx, vs, rfl, by rw [upd_ne hxa]; exact hx, hwx, by simp [hlen], ?_⟩
      have := OwnL.set (K := K) (G := G) (H := H) (G' := G) (H' := upd H a o') (ω := ω) (ω' := ω) (p := [j]) (Same.refl _) (d' := d') (v' := .ref a) (fldIx f ns) hO (fun k hk b r er => ⟨upd_ne fun z => ?_, er⟩) (fun _ => by rw [Nat.zero_add]; exact hd)
      · have es : vs.set (fldIx f ns) (V.ref a) = vs := by
          obtain ⟨h1, h2⟩ := List.getElem?_eq_some_iff.mp hv
          rw [← h2]; exact List.set_getElem_self h1
        rw [es] at this
        exact this
      · rw [z, hw] at er
        have e9 : [j, fldIx f ns] = [j] ++ [k] ++ r := Option.some.inj er
        have : fldIx f ns = k := by simpa using (List.cons.inj (List.cons.inj e9).2).1
        omega
    · rw [List.getElem?_set_ne (Ne.symm hj)] at e
      rcases g.sl j dj e with z | ⟨u, e1, h1⟩
      · exact .inl z
      · refine .inr ⟨u, e1, Own.move (Same.refl _) _ _ (fun b r er => ⟨upd_ne fun z => ?_, er⟩) dj u h1⟩
        rw [z, hw] at er
        have : [i, fldIx f ns] = [j] ++ r := Option.some.inj er
        simp at this
        exact hj this.1.symm
  · have hb : b ≠ a := fun z => by rw [z, hw] at h; cases h
    rw [upd_ne hb]; exact e
/-- the field's list, told with all that stands -/
theorem Good.fld {i : Nat} {C : Addr} {f : Str} {d0 d : D} (g : Good K G H ω (σ ++ τ) (ρ ++ δ)) (hl : σ.length = ρ.length) (e0 : rdS i ρ = some d0) (e1 : fldD C f d0 = some d) :
    ∃ ns ds x dx vs v, d0 = .ins C ns ds ∧ σ[i]? = some (some (.ref x)) ∧ H x = some (.ins C dx (ns.zip vs)) ∧ ω x = some [i] ∧ ns.length = ds.length ∧ OwnL K G H ω [i] 0 ds vs ∧ (ns.zip ds).lookup f = some d ∧ vs[fldIx f ns]? = some v ∧ (ns.zip vs).lookup f = some v ∧ Own K G H ω [i, fldIx f ns] d v := by
  obtain ⟨ns, ds, rfl, e2, _⟩ := fldD_some e1
  obtain ⟨v, e3, h1⟩ := g.at hl e0
  unfold Own at h1
  obtain ⟨x, dx, vs, rfl, h2, hw, hlen, h3⟩ := h1
  obtain ⟨u, z1, z2, z3, z4⟩ := zip_ix h3 e2
  exact ⟨ns, ds, x, dx, vs, u, rfl, e3, h2, hw, hlen, h3, e2, z1, z4, by simpa using z3⟩
theorem Good.setFL {i : Nat} {C : Addr} {f : Str} {d0 d d' : D} {o' : HO} {a : Addr} {x dx : Addr} {vs : List V} {ns : List Str} {ds : List D} (g : Good K G H ω (σ ++ τ) (ρ ++ δ)) (hl : σ.length = ρ.length) (e0 : rdS i ρ = some (.ins C ns ds)) (hs : σ[i]? = some (some (.ref x))) (hx : H x = some (.ins C dx (ns.zip vs))) (hwx : ω x = some [i]) (hlen : ns.length = ds.length)
    (hO : OwnL K G H ω [i] 0 ds vs) (he : (ns.zip ds).lookup f = some d) (hv : vs[fldIx f ns]? = some (.ref a)) (hw : ω a = some [i, fldIx f ns]) (hd : Own K G (upd H a o') ω [i, fldIx f ns] d' (.ref a)) :
    Good K G (upd H a o') ω (σ ++ τ) (ρ.set i (setFld f d' (.ins C ns ds)) ++ δ) ∧ Tr ω ω G H G (upd H a o') := by
  obtain ⟨er, _⟩ := rdS_some e0
  have hi : i < ρ.length := (List.getElem?_eq_some_iff.mp er).1
  have := g.writeF (i := i) (by rw [List.getElem?_append_left hi]; exact er) (by rw [List.getElem?_append_left (by omega)]; exact hs) hx hwx hlen hO he hv hw hd
  rw [set_app hi] at this
  exact this
end
section
variable {X : Cx} {P : List Nat} {e a b : Expr} {es : List Expr} {pos : Pos} {f g : Env → Option D} {m ma mb : Env → Option (D × Env)} {mo : Env → Option (List Opd × Env)}
theorem rdF_some {i : Nat} {C : Addr} {fn : Str} {ρ : Env} {d : D} (e : rdF i C fn ρ = some d) : ∃ d0, rdS i ρ = some d0 ∧ fldD C fn d0 = some d := by
  unfold rdF at e
  split at e
  · rename_i d0 e0; exact ⟨d0, e0, e⟩
  · cases e
/-- x.f.append(e), e quiet and frozen -/
def appFM (i : Nat) (C : Addr) (fn : Str) (f : Env → Option D) : Env → Option (D × Env) := fun ρ => match rdF i C fn ρ, f ρ, rdS i ρ with
  | some (.lst .o ds), some d, some d0 => if isF d = true ∧ ds.length < 16777216 then some (.non, ρ.set i (setFld fn (.lst .o (ds ++ [d])) d0)) else none
  | _, _, _ => none
theorem ev_appendF {i : Nat} {C : Addr} {x fn : Str} {px fpos apos cpos : Pos} (hx : PE X (.Name x px) (tVar i)) (cl : Cls X.K C) (na : NoAttr X.K C fn) (h : EQ X e f) (hbf : attributeBase (.Name x px) fn X.env (eval (.Name x px) X.env) = eval (.Name x px) X.env := by rfl)
    (hb : attributeBase (.Attribute (.Name x px) fn fpos) "append" X.env (eval (.Attribute (.Name x px) fn fpos) X.env) = eval (.Attribute (.Name x px) fn fpos) X.env := by rfl)
    (hf : ((((backTo cpos (starEach [e] X.env)).all fun x => !x.1) && (backToKw cpos (keywordEach [] X.env)).all fun x => x.1.isSome) && decide (([e].length + ([] : List Keyword).length + if ([] : List Keyword).isEmpty = true then 0 else 1) < 30)) = true := by rfl)
    (hln : (apos.endLine == cpos.line) = true := by rfl) (hst : starEach [e] X.env = (false, eval e X.env) :: starEach [] X.env := by rfl) :
    EV X (.Call (.Attribute (.Attribute (.Name x px) fn fpos) "append" apos) [e] [] cpos) (appFM i C fn f) := by
  obtain ⟨te, p, z⟩ := h.ex
  refine ⟨_, pe_bm PySem.F.plainAttrs_list PySem.F.slot_list_append PySem.F.type_list_append mt_append (pe_fld hx hbf) (pa_cons p pa_nil hst) hb hf hln hst (by rfl), fun G H ω σ τ ρ δ d ρ' Q hl g e q => ?_⟩
  unfold appFM at e
  split at e
  · rename_i ds d1 d0 e1 e2 e3
    split at e
    · rename_i hc
      cases e
      obtain ⟨d0', e4, e5⟩ := rdF_some e1
      rw [e3] at e4
      cases e4
      obtain ⟨ns, ds', xa, dx, vs, v, rfl, z1, z2, z3, z4, z5, z6, z7, z8, z9⟩ := g.fld hl e3 e5
      obtain ⟨a, ws, rfl, y1, y2, y3⟩ := own_lst z9
      refine ⟨_, z1, xa, C, dx, _, _, rfl, z2, cl, na, z8, .inl ⟨rfl, ws, SqL.of y1⟩, z G H ω σ τ ρ δ d1 _ hl g e2 fun w hw => ?_⟩
      obtain ⟨g3, t3⟩ := g.setFL (d' := .lst .o (ds ++ [d1])) (o' := .lst (ws ++ [w])) (d0 := .non) hl e3 z1 z2 z3 z4 z5 z6 z7 y2 (by
        unfold Own; exact ⟨a, _, rfl, upd_same, y2, y3.app (RepL.one (hw.2 hc.1))⟩)
      exact ⟨a, ws, w, rfl, rfl, y1, by rw [← y3.length]; exact hc.2, q _ _ _ _ t3 (g3.add1 (by unfold Rep; rfl))⟩
    · cases e
  · cases e
/-! ### x[i] = e, x.f[i] = e, all quiet but e -/
def setAtL (ds : List D) (j : Int) (d : D) : Option (List D) := match ixN ds.length j with
  | some k => if isF d = true then some (ds.set k d) else none
  | none => none
def putKD (ks : List Key) (ds : List D) (k : Key) (d : D) : List Key × List D := if hasK k ks = true then (ks, (ks.zip ds).map fun p => if p.1 = k then d else p.2) else (ks ++ [k], ds ++ [d])
def setAtD (c : D) (j : D) (d : D) : Option D := match c with
  | .lst .o ds => (match j with
    | .int i => (setAtL ds i d).map (.lst .o)
    | _ => none)
  | .dic .o ks ds => (match keyD j with
    | some k => if isF d = true ∧ ks.length < 16777216 then some (.dic .o (putKD ks ds k d).1 (putKD ks ds k d).2) else none
    | none => none)
  | _ => none
theorem map_zip_len {ks : List Key} {ds : List D} (h : ks.length = ds.length) {k : Key} {d : D} : (putKD ks ds k d).1.length = (putKD ks ds k d).2.length := by
  unfold putKD
  split <;> simp [h]
theorem putK_ok {K : PySem.W.Frag} {G : Hp} {k : Key} {d : D} {w : V} {ks : List Key} {ds : List D} {vs : List V} (hl : ks.length = ds.length) (h : RepL K G ds vs) (hd : Rep K G d w) :
    ∃ us, putK (ks.zip vs) k w = (putKD ks ds k d).1.zip us ∧ RepL K G (putKD ks ds k d).2 us := by
  have hv := h.length
  have hany : (ks.zip vs).any (fun kv => decide (kv.1 = k)) = hasK k ks := by
    unfold hasK
    have : ∀ (ks : List Key) (vs : List V), ks.length = vs.length → (ks.zip vs).any (fun kv => decide (kv.1 = k)) = ks.any fun k0 => decide (k0 = k) := by
      intro ks
      induction ks with
      | nil => intro vs _; simp
      | cons k0 ks ih =>
        intro vs hl
        cases vs with
        | nil => simp at hl
        | cons v vs => simp only [List.zip_cons_cons, List.any_cons]; rw [ih vs (by simpa using hl)]
    exact this ks vs (by omega)
  unfold putK putKD
  rw [hany]
  by_cases hh : hasK k ks = true
  · rw [if_pos hh, if_pos hh]
    have key : ∀ (ks : List Key) (ds : List D) (vs : List V), ks.length = ds.length → RepL K G ds vs → ∃ us, (ks.zip vs).map (fun kv => if kv.1 = k then (kv.1, w) else kv) = ks.zip us ∧ RepL K G ((ks.zip ds).map fun p => if p.1 = k then d else p.2) us := by
      intro ks
      induction ks with
      | nil => intro ds vs hl h; exact ⟨[], by simp, by simp; exact RepL.nil⟩
      | cons k0 ks ih =>
        intro ds vs hl h
        cases ds with
        | nil => simp at hl
        | cons d0 ds =>
          unfold RepL at h
          obtain ⟨v, r, rfl, h1, h2⟩ := h
          obtain ⟨us, e1, e2⟩ := ih ds r (by simpa using hl) h2
          by_cases hk : k0 = k
          · refine ⟨w :: us, by simp [hk, e1], ?_⟩
            simp only [List.zip_cons_cons, List.map_cons, if_pos hk]
            unfold RepL
            exact ⟨w, us, rfl, hd, e2⟩
          · refine ⟨v :: us, by simp [hk, e1], ?_⟩
            simp only [List.zip_cons_cons, List.map_cons, if_neg hk]
            unfold RepL
            exact ⟨v, us, rfl, h1, e2⟩
    exact key ks ds vs hl h
  · rw [if_neg hh, if_neg hh]
    refine ⟨vs ++ [w], ?_, h.app (RepL.one hd)⟩
    rw [List.zip_append (by omega)]
    rfl
def isLst : D → Bool
  | .lst _ _ => true
  | _ => false
/-- the container's own at p behind the store -/
theorem setAt_ok {K : PySem.W.Frag} {G H : Hp} {ω : Ow} {p : List Nat} {c j d c' : D} {v jv w : V} (hc : Own K G H ω p c v) (hj : VR K G H j jv) (hd : isF d = true → Rep K G d w) (e : setAtD c j d = some c') :
    ∃ a o', v = .ref a ∧ ω a = some p ∧ Own K G (upd H a o') ω p c' (.ref a) ∧
      ((isLst c = true ∧ ∃ xs k i, jv = .int k ∧ H a = some (.lst xs) ∧ ixN xs.length k = some i ∧ o' = .lst (xs.set i w)) ∨ isLst c = false ∧ ∃ kvs k, jv = kV k ∧ H a = some (.dK kvs) ∧ kvs.length < sizeLine ∧ o' = .dK (putK kvs k w)) := by
  cases c with
  | lst md ds =>
    cases md with
    | o =>
      cases j <;> simp only [setAtD] at e <;> try (cases e; done)
      rename_i i
      obtain ⟨a, vs, rfl, y1, y2, y3⟩ := own_lst hc
      unfold setAtL at e
      split at e
      · rename_i k ek
        split at e
        · rename_i hf
          cases e
          refine ⟨a, .lst (vs.set k w), rfl, y2, by unfold Own; exact ⟨a, _, rfl, upd_same, y2, y3.set k (hd hf)⟩, .inl ⟨rfl, vs, i, k, hj.eqS rfl, y1, by rw [← y3.length]; exact ek, rfl⟩⟩
        · cases e
      · cases e
    | f => simp [setAtD] at e
    | x => simp [setAtD] at e
  | dic md ks ds =>
    cases md with
    | o =>
      simp only [setAtD] at e
      split at e
      · rename_i k ek
        split at e
        · rename_i hf
          cases e
          unfold Own at hc
          obtain ⟨a, vs, rfl, y1, y2, y3, y4⟩ := hc
          obtain ⟨us, e1, e2⟩ := putK_ok (k := k) y3 y4 (hd hf.1)
          refine ⟨a, .dK (putK (ks.zip vs) k w), rfl, y2, ?_, .inr ⟨rfl, _, k, keyD_ok hj ek, y1, ?_, rfl⟩⟩
          · unfold Own
            exact ⟨a, us, rfl, by rw [upd_same, e1], y2, map_zip_len y3, e2⟩
          · rw [List.length_zip, ← y4.length, y3, Nat.min_self, ← y3]; exact hf.2
        · cases e
      · cases e
    | f => simp [setAtD] at e
    | x => simp [setAtD] at e
  | _ => simp [setAtD] at e
/-- x[j] = e: e first -/
def sub1M (i : Nat) (j : Env → Option D) (m : Env → Option (D × Env)) : Env → Option Res := fun ρ => match frzM m ρ with
  | some (d, ρ1) => (match rdS i ρ1, j ρ1 with
    | some c, some jd => (match setAtD c jd d with
      | some c' => some (.nx (ρ1.set i c'))
      | none => none)
    | _, _ => none)
  | none => none
theorem Good.setC {K : PySem.W.Frag} {G H : Hp} {ω : Ow} {σ τ : Sl} {ρ δ : List D} {i : Nat} {a : Addr} {o' : HO} {c c' : D} (g : Good K G H ω (σ ++ τ) (ρ ++ δ)) (hl : σ.length = ρ.length) (he : rdS i ρ = some c) (hs : σ[i]? = some (some (.ref a))) (hw : ω a = some [i]) (hd : Own K G (upd H a o') ω [i] c' (.ref a)) :
    Good K G (upd H a o') ω (σ ++ τ) (ρ.set i c' ++ δ) ∧ Tr ω ω G H G (upd H a o') := by
  have hi : i < ρ.length := (List.getElem?_eq_some_iff.mp (rdS_some he).1).1
  have := g.write1 (i := i) (o' := o') (d' := c') (by rw [List.getElem?_append_left (by omega)]; exact hs) hw hd
  rw [set_app hi] at this
  exact this
/-- the store's reading for a list, for a dict -/
theorem ps_subL {o i : Expr} {value : Expr} {to ti tv : TE} {p1 : Pos} (hu : X.A.units + 1 < cLine) (po : PE X o to) (pi : PE X i ti) (pv : PE X value tv) (hs : swapsWith value (some (.Subscript o i p1)) pos.line X.env = pure false) (hs' : swapsWithSole [.Subscript o i p1] value pos.line X.env = pure false) (hw : swappedStores [.Subscript o i p1] value X.env = pure none)
    (h1 : (assignEach [.Subscript o i p1] X.env).map (·.2) = [assign (.Subscript o i p1) X.env])
    (ha : ∀ v, assign (.Subscript o i p1) X.env v = (do
      let ov ← holding [v] (eval o X.env)
      let iv ← holding [v, ov] (eval i X.env)
      standAt p1
      holding [v, ov, iv] (setItem ov iv v)
      release [v, ov, iv] [])) :
    PS X (.Assign [.Subscript o i p1] value pos) (fun D σ H => tAsg tv (gSub to ti rSetL) D σ H ∨ sDPut to ti tv D σ H) := by
  have a := ps_asg (pos := pos) pv (pg_sub po pi set_list ha) hs' hw h1
  have b := ps_dput (pos := pos) hu po pi pv hs
  exact ⟨fun pins s σ H D I z => z.elim (a.run pins s σ H D I) (b.run pins s σ H D I)⟩
theorem ss_sub1 {i : Nat} {x : Str} {px p1 : Pos} {value : Expr} (hu : X.A.units + 1 < cLine) (hx : PE X (.Name x px) (tVar i)) (hj : EQ X b g) (h : EV X value m)
    (hs : swapsWith value (some (.Subscript (.Name x px) b p1)) pos.line X.env = pure false := by rfl) (hs' : swapsWithSole [.Subscript (.Name x px) b p1] value pos.line X.env = pure false := by rfl) (hw : swappedStores [.Subscript (.Name x px) b p1] value X.env = pure none := by rfl)
    (h1 : (assignEach [.Subscript (.Name x px) b p1] X.env).map (·.2) = [assign (.Subscript (.Name x px) b p1) X.env] := by rfl)
    (ha : ∀ v, assign (.Subscript (.Name x px) b p1) X.env v = (do
      let ov ← holding [v] (eval (.Name x px) X.env)
      let iv ← holding [v, ov] (eval b X.env)
      standAt p1
      holding [v, ov, iv] (setItem ov iv v)
      release [v, ov, iv] []) := by intro _; rfl) : SS X P (.Assign [.Subscript (.Name x px) b p1] value pos) (sub1M i g m) := by
  obtain ⟨te, pe, ze⟩ := (ev_frz h).ex
  obtain ⟨tj, pj, zj⟩ := hj.ex
  refine ⟨_, ps_subL hu hx pj pe hs hs' hw h1 ha, fun G H ω σ ρ r D g e q => ?_⟩
  unfold sub1M at e
  split at e
  · rename_i d ρ1 e1
    split at e
    · rename_i c jd e2 e3
      split at e
      · rename_i c' e4
        cases e
        have go : ∀ (R : V → V → V → Hp → Prop), (∀ G1 H1 ω1 w a jv o', Tr ω ω1 G H G1 H1 → σ[i]? = some (some (.ref a)) → VR X.K G1 H1 jd jv → D.nx σ (upd H1 a o') →
            ((isLst c = true ∧ ∃ xs k i, jv = .int k ∧ H1 a = some (.lst xs) ∧ ixN xs.length k = some i ∧ o' = .lst (xs.set i w)) ∨ isLst c = false ∧ ∃ kvs k, jv = kV k ∧ H1 a = some (.dK kvs) ∧ kvs.length < sizeLine ∧ o' = .dK (putK kvs k w)) → R w (.ref a) jv H1) →
            te σ H fun w H1 => tVar i σ H1 fun v H2 => tj σ H2 fun jv H3 => R w v jv H3 := fun R hR => by
          refine ze G H ω σ [] ρ [] d ρ1 _ g.len g.nil0 e1 fun G1 H1 ω1 w t1 g1 => ?_
          have hl1 : σ.length = ρ1.length := lens g.nil0 g1 rfl g.len
          have g2 := g1.drop1
          obtain ⟨v, ev, hv⟩ := g2.at hl1 e2
          refine ⟨v, ev, zj G1 H1 ω1 σ [] ρ1 [] jd _ hl1 g2 e3 fun jv hjv => ?_⟩
          obtain ⟨a, o', rfl, y1, y2, y3⟩ := setAt_ok hv hjv (w := w) (fun hf => g1.last.2 hf) e4
          obtain ⟨g3, t3⟩ := g2.setC hl1 e2 ev y1 y2
          rw [List.append_nil, List.append_nil] at g3
          exact hR G1 H1 ω1 w a jv o' t1 ev hjv (q _ _ _ _ (t1.trans t3) g3 Prot.refl) y3
        cases c with
        | lst md ds =>
          refine .inl (go (fun w v jv H3 => rSetL v jv w H3 fun H4 => D.nx σ H4) fun G1 H1 ω1 w a jv o' t1 ev hjv hD hz => ?_)
          rcases hz with ⟨_, xs, k, i, z1, z2, z3, z4⟩ | ⟨z0, _⟩
          · subst z4; exact ⟨a, xs, k, i, rfl, z1, z2, z3, hD⟩
          · cases z0
        | dic md ks ds =>
          refine .inr (go (fun w v jv H3 => ∃ a H4, v = .ref a ∧ DPut H3 a jv w H4 ∧ D.nx σ H4) fun G1 H1 ω1 w a jv o' t1 ev hjv hD hz => ?_)
          rcases hz with ⟨z0, _⟩ | ⟨_, kvs, k, z1, z2, z3, z4⟩
          · cases z0
          · subst z4; subst z1; exact ⟨a, _, rfl, DPut.k z2 z3, hD⟩
        | _ => simp [setAtD] at e4
      · cases e
    · cases e
  · cases e
/-- x.f[j] = e: e first -/
def subFM (i : Nat) (C : Addr) (fn : Str) (j : Env → Option D) (m : Env → Option (D × Env)) : Env → Option Res := fun ρ => match frzM m ρ with
  | some (d, ρ1) => (match rdF i C fn ρ1, j ρ1, rdS i ρ1 with
    | some c, some jd, some d0 => (match setAtD c jd d with
      | some c' => some (.nx (ρ1.set i (setFld fn c' d0)))
      | none => none)
    | _, _, _ => none)
  | none => none
theorem ss_subF {i : Nat} {C : Addr} {x fn : Str} {px p1 fpos : Pos} {value : Expr} (hu : X.A.units + 1 < cLine) (hx : PE X (.Name x px) (tVar i)) (cl : Cls X.K C) (na : NoAttr X.K C fn) (hj : EQ X b g) (h : EV X value m)
    (hbf : attributeBase (.Name x px) fn X.env (eval (.Name x px) X.env) = eval (.Name x px) X.env := by rfl)
    (hs : swapsWith value (some (.Subscript (.Attribute (.Name x px) fn fpos) b p1)) pos.line X.env = pure false := by rfl) (hs' : swapsWithSole [.Subscript (.Attribute (.Name x px) fn fpos) b p1] value pos.line X.env = pure false := by rfl) (hw : swappedStores [.Subscript (.Attribute (.Name x px) fn fpos) b p1] value X.env = pure none := by rfl)
    (h1 : (assignEach [.Subscript (.Attribute (.Name x px) fn fpos) b p1] X.env).map (·.2) = [assign (.Subscript (.Attribute (.Name x px) fn fpos) b p1) X.env] := by rfl)
    (ha : ∀ v, assign (.Subscript (.Attribute (.Name x px) fn fpos) b p1) X.env v = (do
      let ov ← holding [v] (eval (.Attribute (.Name x px) fn fpos) X.env)
      let iv ← holding [v, ov] (eval b X.env)
      standAt p1
      holding [v, ov, iv] (setItem ov iv v)
      release [v, ov, iv] []) := by intro _; rfl) : SS X P (.Assign [.Subscript (.Attribute (.Name x px) fn fpos) b p1] value pos) (subFM i C fn g m) := by
  obtain ⟨te, pe, ze⟩ := (ev_frz h).ex
  obtain ⟨tj, pj, zj⟩ := hj.ex
  refine ⟨_, ps_subL hu (pe_fld hx hbf) pj pe hs hs' hw h1 ha, fun G H ω σ ρ r D g e q => ?_⟩
  unfold subFM at e
  split at e
  · rename_i d ρ1 e1
    split at e
    · rename_i c jd d0 e2 e3 e5
      split at e
      · rename_i c' e4
        cases e
        obtain ⟨d0', e6, e7⟩ := rdF_some e2
        rw [e5] at e6
        cases e6
        have go : ∀ (R : V → V → V → Hp → Prop), (∀ G1 H1 ω1 w a jv o', Tr ω ω1 G H G1 H1 → VR X.K G1 H1 jd jv → D.nx σ (upd H1 a o') →
            ((isLst c = true ∧ ∃ xs k i, jv = .int k ∧ H1 a = some (.lst xs) ∧ ixN xs.length k = some i ∧ o' = .lst (xs.set i w)) ∨ isLst c = false ∧ ∃ kvs k, jv = kV k ∧ H1 a = some (.dK kvs) ∧ kvs.length < sizeLine ∧ o' = .dK (putK kvs k w)) → R w (.ref a) jv H1) →
            te σ H fun w H1 => tFld X.K (tVar i) fn σ H1 fun v H2 => tj σ H2 fun jv H3 => R w v jv H3 := fun R hR => by
          refine ze G H ω σ [] ρ [] d ρ1 _ g.len g.nil0 e1 fun G1 H1 ω1 w t1 g1 => ?_
          have hl1 : σ.length = ρ1.length := lens g.nil0 g1 rfl g.len
          have g2 := g1.drop1
          obtain ⟨ns, ds', xa, dx, vs, v, rfl, z1, z2, z3, z4, z5, z6, z7, z8, z9⟩ := g2.fld hl1 e5 e7
          refine ⟨_, z1, xa, C, dx, _, v, rfl, z2, cl, na, z8, zj G1 H1 ω1 σ [] ρ1 [] jd _ hl1 g2 e3 fun jv hjv => ?_⟩
          obtain ⟨a, o', rfl, y1, y2, y3⟩ := setAt_ok z9 hjv (w := w) (fun hf => g1.last.2 hf) e4
          obtain ⟨g3, t3⟩ := g2.setFL (d0 := .non) hl1 e5 z1 z2 z3 z4 z5 z6 z7 y1 y2
          rw [List.append_nil, List.append_nil] at g3
          exact hR G1 H1 ω1 w a jv o' t1 hjv (q _ _ _ _ (t1.trans t3) g3 Prot.refl) y3
        cases c with
        | lst md ds =>
          refine .inl (go (fun w v jv H3 => rSetL v jv w H3 fun H4 => D.nx σ H4) fun G1 H1 ω1 w a jv o' t1 hjv hD hz => ?_)
          rcases hz with ⟨_, xs, k, i, z1, z2, z3, z4⟩ | ⟨z0, _⟩
          · subst z4; exact ⟨a, xs, k, i, rfl, z1, z2, z3, hD⟩
          · cases z0
        | dic md ks ds =>
          refine .inr (go (fun w v jv H3 => ∃ a H4, v = .ref a ∧ DPut H3 a jv w H4 ∧ D.nx σ H4) fun G1 H1 ω1 w a jv o' t1 hjv hD hz => ?_)
          rcases hz with ⟨z0, _⟩ | ⟨_, kvs, k, z1, z2, z3, z4⟩
          · cases z0
          · subst z4; subst z1; exact ⟨a, _, rfl, DPut.k z2 z3, hD⟩
        | _ => simp [setAtD] at e4
      · cases e
    · cases e
  · cases e
end
end CW

namespace CW
open PySem L2
section
variable {K : PySem.W.Frag} {G H G' H' : Hp} {ω ω' : Ow} {σ τ : Sl} {ρ δ : List D}
theorem OwnL.snoc {p : List Nat} {d' : D} {v' : V} : ∀ {k : Nat} {ds : List D} {vs : List V}, OwnL K G H ω p k ds vs → Own K G H ω (p ++ [k + ds.length]) d' v' → OwnL K G H ω p k (ds ++ [d']) (vs ++ [v'])
  | k, [], vs, h, h' => by
    unfold OwnL at h
    subst h
    show OwnL K G H ω p k [d'] [v']
    unfold OwnL
    exact ⟨v', [], rfl, by simpa using h', by unfold OwnL; rfl⟩
  | k, d :: ds, vs, h, h' => by
    unfold OwnL at h
    obtain ⟨v, r, rfl, h1, h2⟩ := h
    show OwnL K G H ω p k (d :: (ds ++ [d'])) (v :: (r ++ [v']))
    unfold OwnL
    refine ⟨v, _, rfl, h1, OwnL.snoc h2 ?_⟩
    rw [show k + 1 + ds.length = k + (d :: ds).length by simp; omega]
    exact h'
/-- the names, the data behind a field's store -/
def putN (f : Str) (ns : List Str) : List Str := if ns.any (fun n => n == f) = true then ns else ns ++ [f]
def putL {α : Type} (f : Str) (x : α) : List Str → List α → List α
  | [], _ => [x]
  | n :: ns, y :: ys => if n = f then x :: ys else y :: putL f x ns ys
  | _ :: _, [] => []
theorem putF_zip {f : Str} {y : V} : ∀ {ns : List Str} {vs : List V}, ns.length = vs.length → putF f y (ns.zip vs) = (putN f ns).zip (putL f y ns vs)
  | [], vs, h => by
    have : vs = [] := List.length_eq_zero_iff.mp h.symm
    subst this
    rfl
  | n :: ns, [], h => by simp at h
  | n :: ns, v :: vs, h => by
    show (if n = f then (n, y) :: ns.zip vs else (n, v) :: putF f y (ns.zip vs)) = _
    unfold putL
    by_cases e : n = f
    · rw [if_pos e, if_pos e]
      have : putN f (n :: ns) = n :: ns := by unfold putN; simp [e]
      rw [this]; rfl
    · rw [if_neg e, if_neg e, putF_zip (by simpa using h)]
      have : putN f (n :: ns) = n :: putN f ns := by
        unfold putN
        have e1 : (n == f) = false := by simp [e]
        by_cases hb : ns.any (fun n => n == f) = true
        · rw [if_pos hb, if_pos (by simp only [List.any_cons, e1, hb]; rfl)]
        · rw [if_neg hb, if_neg (by simp only [List.any_cons, e1, Bool.false_or]; exact hb)]; rfl
      rw [this]; rfl
theorem putL_eq {α : Type} {f : Str} {x : α} : ∀ {ns : List Str} {xs : List α}, ns.length = xs.length → putL f x ns xs = if ns.any (fun n => n == f) = true then xs.set (fldIx f ns) x else xs ++ [x]
  | [], xs, h => by
    have : xs = [] := List.length_eq_zero_iff.mp h.symm
    subst this; rfl
  | n :: ns, [], h => by simp at h
  | n :: ns, y :: ys, h => by
    unfold putL fldIx
    by_cases e : n = f
    · subst e
      simp
    · have e1 : (n == f) = false := by simp [e]
      have e2 : (f == n) = false := by simp [Ne.symm e]
      rw [if_neg e, putL_eq (by simpa using h)]
      simp only [List.any_cons, e1, Bool.false_or, e2]
      by_cases hb : ns.any (fun n => n == f) = true
      · rw [if_pos hb, if_pos hb, if_neg (by simp)]; simp
      · rw [if_neg hb, if_neg hb]; rfl
theorem fldIx_new {f : Str} : ∀ {ns : List Str}, ns.any (fun n => n == f) = false → fldIx f ns = ns.length
  | [], _ => rfl
  | n :: ns, h => by
    simp only [List.any_cons, Bool.or_eq_false_iff] at h
    unfold fldIx
    have : (f == n) = false := by
      have := h.1
      simp at this
      simp [Ne.symm this]
    rw [this, if_neg (by simp), fldIx_new h.2]; rfl
def fldO (ω : Ow) (n i k : Nat) : Ow := fun b => match ω b with
  | some (h :: r) => if h = n then some (i :: k :: r) else if h = i ∧ r.head? = some k then none else some (h :: r)
  | r => r
theorem fldO_some {n i k : Nat} {b : Addr} (h : fldO ω n i k b ≠ none) : ω b ≠ none := by
  unfold fldO at h
  split at h
  · rename_i a r e; rw [e]; simp
  · exact h
/-- x.f = the last value -/
theorem Good.putFld {i : Nat} {C : Addr} {ns : List Str} {ds : List D} {f : Str} {d : D} {y : V} {x dx : Addr} {vs : List V} (g : Good K G H ω (σ ++ [some y]) (ρ ++ [d])) (hl : σ.length = ρ.length) (hρ : ρ[i]? = some (.ins C ns ds)) (hs : σ[i]? = some (some (.ref x))) (hx : H x = some (.ins C dx (ns.zip vs))) (hwx : ω x = some [i]) (hlen : ns.length = ds.length) (hO : OwnL K G H ω [i] 0 ds vs) :
    ∃ ω', Good K G (upd H x (.ins C dx (putF f y (ns.zip vs)))) ω' σ (ρ.set i (.ins C (putN f ns) (putL f d ns ds))) ∧ Tr ω ω' G H G (upd H x (.ins C dx (putF f y (ns.zip vs)))) := by
  have hi : i < ρ.length := (List.getElem?_eq_some_iff.mp hρ).1
  have gx : G x = none := g.out x (by rw [hwx]; simp)
  have hvl : vs.length = ds.length := hO.length.symm
  have hk : fldIx f ns = fldIx f ns := rfl
  generalize hkk : fldIx f ns = k at hk
  have wx : fldO ω ρ.length i k x = some [i] := by
    unfold fldO
    rw [hwx]
    show (if i = ρ.length then _ else if i = i ∧ ([] : List Nat).head? = some k then none else some [i]) = _
    rw [if_neg (by omega), if_neg (by simp)]
  have wo : ∀ b h r, ω b = some (h :: r) → h ≠ ρ.length → ¬ (h = i ∧ r.head? = some k) → fldO ω ρ.length i k b = some (h :: r) := fun b h r e n1 n2 => by
    unfold fldO
    rw [e]
    show (if h = ρ.length then _ else if h = i ∧ r.head? = some k then none else some (h :: r)) = _
    rw [if_neg n1, if_neg n2]
  have wn : ∀ b r, ω b = some (ρ.length :: r) → fldO ω ρ.length i k b = some (i :: k :: r) := fun b r e => by
    unfold fldO
    rw [e]
    show (if ρ.length = ρ.length then _ else _) = _
    rw [if_pos rfl]
  refine ⟨fldO ω ρ.length i k, ⟨fun b o e => ?_, fun b h => g.out b (fldO_some h), fun b h => ?_, by simp [hl], fun j dj e => ?_⟩, Same.refl _, fun b o e h => ?_, fun _ h => .inl h, fun _ h => .inr (fldO_some h)⟩
  · rw [upd_ne (ne_of_none e gx)]; exact g.same b o e
  · by_cases hb : b = x
    · subst hb; rw [upd_same]; simp
    · rw [upd_ne hb]; exact g.live b (fldO_some h)
  · have mvx : ∀ b, ω b ≠ some [i] → b ≠ x := fun b h z => h (by rw [z]; exact hwx)
    by_cases hj : j = i
    · subst hj
      rw [List.getElem?_set_self hi] at e
      cases e
      refine .inr ⟨_, hs, ?_⟩
      unfold Own
      -- the new value, moved
      have hy : Own K G (upd H x (.ins C dx (putF f y (ns.zip vs)))) (fldO ω ρ.length j k) [j, k] d y ∨ d = .any := by
        rcases g.sl ρ.length d (by simp) with z | ⟨u, e1, h1⟩
        · exact .inr z
        · have : (σ ++ [some y])[ρ.length]? = some (some y) := by rw [← hl]; simp
          rw [this] at e1
          cases e1
          refine .inl (Own.move (Same.refl _) _ _ (fun b r er => ⟨upd_ne (mvx b (by rw [er]; simp; omega)), ?_⟩) d y h1)
          exact wn b r er
      have hy' : Own K G (upd H x (.ins C dx (putF f y (ns.zip vs)))) (fldO ω ρ.length j k) [j, k] d y := by
        rcases hy with z | z
        · exact z
        · subst z; unfold Own Rep; trivial
      refine ⟨x, dx, putL f y ns vs, rfl, by rw [upd_same, putF_zip (by omega)], wx, ?_, ?_⟩
      · rw [putL_eq hlen]
        unfold putN
        split <;> simp [hlen]
      · have keep : ∀ j', j' ≠ k → ∀ b r, ω b = some ([j] ++ [j'] ++ r) → upd H x (.ins C dx (putF f y (ns.zip vs))) b = H b ∧ fldO ω ρ.length j k b = some ([j] ++ [j'] ++ r) := fun j' hj' b r er => by
          refine ⟨upd_ne (mvx b (by rw [er]; simp)), wo b j (j' :: r) (by rw [er]; rfl) (by omega) (fun z => hj' (by simpa using z.2))⟩
        rw [putL_eq hlen, putL_eq (show ns.length = vs.length by omega)]
        by_cases hb : ns.any (fun n => n == f) = true
        · rw [if_pos hb, if_pos hb, hkk]
          exact OwnL.set (Same.refl _) k hO (fun j' hj' => keep j' (by omega)) fun _ => by rw [Nat.zero_add]; exact hy'
        · rw [if_neg hb, if_neg hb]
          have hkl : k = ds.length := by
            rw [← hkk, fldIx_new (Bool.not_eq_true _ ▸ hb), hlen]
          have hO2 : OwnL K G (upd H x (.ins C dx (putF f y (ns.zip vs)))) (fldO ω ρ.length j k) [j] 0 ds vs := by
            have := OwnL.set (K := K) (G := G) (H := H) (G' := G) (H' := upd H x (.ins C dx (putF f y (ns.zip vs)))) (ω := ω) (ω' := fldO ω ρ.length j k) (p := [j]) (Same.refl _) (d' := .any) (v' := .non) (k := 0) ds.length hO (fun j' hj' => keep j' (by omega)) (fun h => absurd h (Nat.lt_irrefl _))
            rw [List.set_eq_of_length_le (Nat.le_refl _), List.set_eq_of_length_le (by omega)] at this
            exact this
          refine hO2.snoc ?_
          rw [Nat.zero_add, ← hkl]
          exact hy'
    · rw [List.getElem?_set_ne (Ne.symm hj)] at e
      have hj2 : j < ρ.length := (List.getElem?_eq_some_iff.mp e).1
      rcases g.sl j dj (by rw [List.getElem?_append_left hj2]; exact e) with z | ⟨u, e1, h1⟩
      · exact .inl z
      · rw [List.getElem?_append_left (by omega)] at e1
        refine .inr ⟨u, e1, Own.move (Same.refl _) _ _ (fun b r er => ⟨upd_ne (mvx b (by rw [er]; simp; omega)), wo b j r er (by omega) (fun z => hj z.1)⟩) dj u h1⟩
  · have hb : b ≠ x := fun z => by rw [z, hwx] at h; cases h
    rw [upd_ne hb]; exact e
end
section
variable {X : Cx} {P : List Nat} {e a b : Expr} {es : List Expr} {pos : Pos} {f g : Env → Option D} {m ma mb : Env → Option (D × Env)} {ms : Env → Option (List D × Env)} {mo : Env → Option (List Opd × Env)}
/-- x.f = e -/
def fldM (i : Nat) (C : Addr) (fn : Str) (m : Env → Option (D × Env)) : Env → Option Res := fun ρ => match m ρ with
  | some (d, ρ1) => (match rdS i ρ1 with
    | some (.ins C' ns ds) => if C' = C ∧ ds.length < 1000 then some (.nx (ρ1.set i (.ins C (putN fn ns) (putL fn d ns ds)))) else none
    | _ => none)
  | none => none
theorem ss_fld {i : Nat} {C : Addr} {x fn : Str} {px p1 : Pos} {value : Expr} (hx : PE X (.Name x px) (tVar i)) (cl : Cls X.K C) (na : NoAttr X.K C fn) (h : EV X value m) (hs : swapsWith value (some (.Attribute (.Name x px) fn p1)) pos.line X.env = pure false := by rfl) : SS X P (.Assign [.Attribute (.Name x px) fn p1] value pos) (fldM i C fn m) := by
  obtain ⟨te, pe, ze⟩ := h.ex
  refine ⟨_, ps_fld hx pe hs, fun G H ω σ ρ r D g e q => ?_⟩
  unfold fldM at e
  split at e
  · rename_i d ρ1 e1
    split at e
    · rename_i C' ns ds e2
      split at e
      · rename_i hc
        obtain ⟨rfl, hd⟩ := hc
        cases e
        refine ze G H ω σ [] ρ [] d ρ1 _ g.len g.nil0 e1 fun G1 H1 ω1 w t1 g1 => ?_
        have hl1 : σ.length = ρ1.length := lens g.nil0 g1 rfl g.len
        have g2 := g1.drop1
        obtain ⟨v, ev, hv⟩ := g2.at hl1 e2
        unfold Own at hv
        obtain ⟨xa, dx, vs, rfl, z2, z3, z4, z5⟩ := hv
        have g3 : Good X.K G1 H1 ω1 (σ ++ [some w]) (ρ1 ++ [d]) := g1
        obtain ⟨ω4, g4, t4⟩ := g3.putFld (f := fn) hl1 (rdS_some e2).1 ev z2 z3 z4 z5
        refine ⟨_, ev, xa, _, dx, _, rfl, z2, cl, na, ?_, q _ _ _ _ (t1.trans t4) g4 Prot.refl⟩
        rw [List.length_zip, ← z5.length, z4, Nat.min_self]
        exact hd
      · cases e
    · cases e
  · cases e
/-- x.f[j] += e, ints in a dict -/
def augFM (i : Nat) (C : Addr) (fn : Str) (j v : Env → Option D) : Env → Option Res := fun ρ => match rdF i C fn ρ, j ρ, v ρ, rdS i ρ with
  | some c, some jd, some (.int b), some d0 => (match ixK c jd with
    | some (.int a) => (match setAtD c jd (.int (a + b)) with
      | some c' => some (.nx (ρ.set i (setFld fn c' d0)))
      | none => none)
    | _ => none)
  | _, _, _, _ => none
theorem ss_augF {i : Nat} {C : Addr} {x fn : Str} {px p1 fpos : Pos} {value : Expr} (hu : X.A.units + 1 < cLine) (hx : PE X (.Name x px) (tVar i)) (cl : Cls X.K C) (na : NoAttr X.K C fn) (hj : EQ X b g) (h : EQ X value f)
    (hbf : attributeBase (.Name x px) fn X.env (eval (.Name x px) X.env) = eval (.Name x px) X.env := by rfl)
    (ha : ∀ ov iv new, augStore b ov iv new = (do
      holding [new, ov, iv] (setItem ov iv new)
      release [new, ov, iv] []
      pure Flow.next) := by intro _ _ _; rfl) : SS X P (.AugAssign (.Subscript (.Attribute (.Name x px) fn fpos) b p1) .Add value pos) (augFM i C fn g f) := by
  obtain ⟨te, pe, ze⟩ := h.ex
  obtain ⟨tj, pj, zj⟩ := hj.ex
  refine ⟨_, ps_daug hu (pe_fld hx hbf) pj pe in_add ha, fun G H ω σ ρ r D g e q => ?_⟩
  unfold augFM at e
  split at e
  · rename_i c jd bi d0 e1 e2 e3 e4
    split at e
    · rename_i ai e5
      split at e
      · rename_i c' e6
        cases e
        obtain ⟨d0', e7, e8⟩ := rdF_some e1
        rw [e4] at e7
        cases e7
        have g0 := g.nil0
        obtain ⟨ns, ds', xa, dx, vs, v, rfl, z1, z2, z3, z4, z5, z6, z7, z8, z9⟩ := g0.fld g.len e4 e8
        refine ⟨_, z1, xa, C, dx, _, v, rfl, z2, cl, na, z8, zj G H ω σ [] ρ [] jd _ g.len g0 e2 fun jv hjv => ?_⟩
        obtain ⟨a, v2, rfl, y1, y2⟩ := ixK_ok (d1 := c) ⟨z9.ve g.same, fun z => z9.rep z⟩ hjv e5
        unfold Rep at y2
        subst y2
        refine ⟨a, _, rfl, y1, ze G H ω σ [] ρ [] _ _ g.len g0 e3 fun w hw => ?_⟩
        obtain ⟨a', o', ea, w1, w2, w3⟩ := setAt_ok (w := .int (ai + bi)) z9 hjv (fun _ => by unfold Rep; rfl) e6
        cases ea
        refine ⟨ai, bi, rfl, hw.eqS rfl, ?_⟩
        obtain ⟨g3, t3⟩ := g0.setFL (d0 := .non) g.len e4 z1 z2 z3 z4 z5 z6 z7 w1 w2
        rw [List.append_nil, List.append_nil] at g3
        have hD := q _ _ _ _ t3 g3 Prot.refl
        rcases w3 with ⟨u0, _⟩ | ⟨_, kvs, k, u1, u2, u3, u4⟩
        · exfalso
          cases c with
          | dic _ _ _ => cases u0
          | _ => simp [ixK] at e5
        · subst u4; subst u1
          exact ⟨_, DPut.k u2 u3, hD⟩
      · cases e
    · cases e
  · cases e
/-! ### x op= e -/
theorem ss_augI {i : Nat} {x : Str} {op : Operator} {pos' : Pos} {fi : Int → Int → Int} (hN : X.N.Nodup) (hi : X.N[i]? = some x) (hx : L2.Loc X.env.scope x) (he : EQ X e f) (ho : PIp X op (ipI fi)) (hP : P.contains i = false := by rfl) (hf : X.fn x = true ∨ X.env.scope.names.lookup x = some .local := by first | exact .inl rfl | exact .inr rfl | assumption) :
    SS X P (.AugAssign (.Name x pos') op e pos) (fun ρ => match rdS i ρ, f ρ with | some (.int a), some (.int b) => some (.nx (ρ.set i (.int (fi a b)))) | _, _ => none) := by
  obtain ⟨te, pe, ze⟩ := he.ex
  refine ⟨_, ps_aug hN hi hx pe ho hf, fun G H ω σ ρ r D g e q => ?_⟩
  split at e
  · rename_i ai bi e1 e2
    cases e
    have g0 := g.nil0
    obtain ⟨v, ev, hv⟩ := g0.at g.len e1
    unfold Own Rep at hv
    subst hv
    refine ⟨_, ev, ze G H ω σ [] ρ [] _ _ g.len g0 e2 fun w hw => ⟨ai, bi, rfl, hw.eqS rfl, ?_⟩⟩
    exact q G H ω _ Tr.refl (g.setF (by unfold Rep; rfl)) (Prot.set hP)
  · cases e
/-! ### own instances -/
/-- C(e, ..): arguments by value -/
def makeM (C : Addr) (F : List D → Option (D × List D)) (ms : Env → Option (List D × Env)) : Env → Option (D × Env) := fun ρ => match ms ρ with
  | some (ds, ρ1) => (match F (.ins C [] [] :: ds) with
    | some (.non, o :: outs) => if outs.length = ds.length then some (o, ρ1) else none
    | _ => none)
  | none => none
theorem ev_make {k n : Nat} {C f0 : Addr} {fd : FuncData} {ps : List Str} {F : List D → Option (D × List D)} {x : Str} {p : Pos} (M : Mk X.K C f0) (FO : FnOk X.prog X.w X.K X.mg X.base CX0 k f0 fd ps (spP X.K n F)) (hr : Room (k + 1) X.A) (hg : Gl X x) (hm : X.mg x = some (.ref C)) (hb : Binds X.K fd ps [])
    (h : AVl X (e :: es) ms) (hn : (e :: es).length + 1 = n := by rfl) (hdb : (x == ("__debug__" : Str)) = false := by decide) (he : starEach (e :: es) X.env = (false, eval e X.env) :: starEach es X.env := by rfl) (hpl : ((backTo pos (starEach es X.env)).any fun x => x.1) = false := by rfl) :
    EV X (.Call (.Name x p) (e :: es) [] pos) (makeM C F ms) := by
  obtain ⟨tp, pp, s⟩ := h.use
  refine ⟨_, pe_make M FO hr hg hm hb .nil pass0 pp hdb he hpl, fun G H ω σ τ ρ δ d ρ' Q hl g e q => ?_⟩
  unfold makeM at e
  split at e
  · rename_i ds ρ1 e1
    split at e
    · rename_i o outs e2
      split at e
      · rename_i ho
        cases e
        refine s G H ω σ τ ρ δ ds ρ' _ hl g e1 fun G1 H1 ω1 vs t1 g1 hl1 h2 n1 n2 => ?_
        intro xa dx hxa hdx hne
        obtain ⟨gA, tA⟩ := g1.layF (p := dx) (o := .own xa) hdx
        have hxa' : (upd H1 dx (.own xa)) xa = none := by rw [upd_ne hne.symm]; exact hxa
        obtain ⟨gB, tB⟩ := gA.layO (p := xa) (o := .ins C dx []) (d := .ins C [] []) hxa' (by
          unfold Own
          exact ⟨xa, dx, [], rfl, upd_same, (by unfold setO; rw [if_pos rfl]), rfl, by unfold OwnL; rfl⟩)
        have hB : (ρ' ++ δ).length = (σ ++ τ).length := by simp; omega
        obtain ⟨gC, tC⟩ := gB.re (σ2 := (σ ++ τ) ++ (V.ref xa :: vs).map some) (ρ2 := (ρ' ++ δ) ++ (.ins C [] [] :: ds)) (fun k => if k < (ρ' ++ δ).length then some k else if k < (ρ' ++ δ).length + ds.length then some (k + 1) else if k = (ρ' ++ δ).length + ds.length then some (ρ' ++ δ).length else none)
          (by simp; omega) fun j dj ej => by
            have c1 : (ρ' ++ (δ ++ ds) ++ [D.ins C [] []]) = (ρ' ++ δ) ++ (ds ++ [D.ins C [] []]) := by simp
            have c2 : (σ ++ (τ ++ vs.map some) ++ [some (V.ref xa)]) = (σ ++ τ) ++ (vs.map some ++ [some (V.ref xa)]) := by simp
            rw [c1, c2]
            by_cases hj : j < (ρ' ++ δ).length
            · rw [List.getElem?_append_left hj] at ej
              exact .inr ⟨j, by rw [if_pos hj], by rw [List.getElem?_append_left hj]; exact ej, by rw [List.getElem?_append_left (l₁ := σ ++ τ) (by omega), List.getElem?_append_left (l₁ := σ ++ τ) (by omega)]⟩
            · rw [List.getElem?_append_right (by omega)] at ej
              by_cases hj2 : j = (ρ' ++ δ).length
              · subst hj2
                rw [Nat.sub_self] at ej
                refine .inr ⟨(ρ' ++ δ).length + ds.length, by rw [if_neg (by omega), if_neg (by omega), if_pos rfl], ?_, ?_⟩
                · rw [List.getElem?_append_right (l₁ := ρ' ++ δ) (by omega), List.getElem?_append_right (l₁ := ds) (by omega)]
                  rw [show (ρ' ++ δ).length + ds.length - (ρ' ++ δ).length - ds.length = 0 by omega]
                  exact ej
                · rw [List.getElem?_append_right (l₁ := σ ++ τ) (by omega), List.getElem?_append_right (l₁ := σ ++ τ) (by omega), List.getElem?_append_right (l₁ := vs.map some) (by simp at hB ⊢; omega)]
                  rw [show (ρ' ++ δ).length - (σ ++ τ).length = 0 by omega, show (ρ' ++ δ).length + ds.length - (σ ++ τ).length - (List.map some vs).length = 0 by simp at hB ⊢; omega]
                  rfl
              · have hlt : j - (ρ' ++ δ).length < ds.length + 1 := by
                  have := (List.getElem?_eq_some_iff.mp ej).1
                  simpa using this
                obtain ⟨k, rfl⟩ : ∃ k, j = (ρ' ++ δ).length + (k + 1) := ⟨j - (ρ' ++ δ).length - 1, by omega⟩
                rw [show (ρ' ++ δ).length + (k + 1) - (ρ' ++ δ).length = k + 1 by omega] at ej hlt
                refine .inr ⟨(ρ' ++ δ).length + k, by rw [if_neg (by omega), if_pos (by omega)]; rfl, ?_, ?_⟩
                · rw [List.getElem?_append_right (l₁ := ρ' ++ δ) (by omega), List.getElem?_append_left (l₁ := ds) (by omega), show (ρ' ++ δ).length + k - (ρ' ++ δ).length = k by omega]
                  simpa using ej
                · rw [List.getElem?_append_right (l₁ := σ ++ τ) (by omega), List.getElem?_append_right (l₁ := σ ++ τ) (by omega), List.getElem?_append_left (l₁ := vs.map some) (by simp at hB ⊢; omega)]
                  rw [show (ρ' ++ δ).length + (k + 1) - (σ ++ τ).length = k + 1 by omega, show (ρ' ++ δ).length + k - (σ ++ τ).length = k by omega]
                  simp
        simp only [List.append_nil]
        refine ⟨by rw [List.length_cons, n1, n2]; exact hn, _, subO _ (ρ' ++ δ).length, .ins C [] [] :: ds, .non, d :: outs, gC.sub hB.symm rfl, e2, fun G3 H3 ω3 v t3 g3 => ?_⟩
        obtain ⟨g4, t4⟩ := gC.sup hB.symm rfl t3 g3
        have hv : v = .non := by
          have g5 : Good X.K G3 H3 ω3 ((V.ref xa :: vs).map some ++ ([] ++ [some v])) ((d :: outs) ++ ([] ++ [D.non])) := g3
          exact VR.eqS g5.last rfl
        have hpre : ∀ ω, Good X.K G3 H3 ω ((σ ++ τ) ++ ((V.ref xa :: vs).map some ++ [some v])) ((ρ' ++ δ) ++ ((d :: outs) ++ [D.non])) → Good X.K G3 H3 ω (σ ++ (τ ++ [some (V.ref xa)])) (ρ' ++ (δ ++ [d])) := fun ω g => by
          have g6 : Good X.K G3 H3 ω ((σ ++ (τ ++ [some (V.ref xa)])) ++ (vs.map some ++ [some v])) ((ρ' ++ (δ ++ [d])) ++ (outs ++ [D.non])) := by simpa [List.append_assoc] using g
          exact g6.pre (by simp; omega)
        exact ⟨hv, q G3 H3 _ _ (t1.trans (tA.trans (tB.trans (tC.trans t4)))) (hpre _ g4)⟩
      · cases e
    · cases e
  · cases e
/-- the receiver, lent: an instance of C without an attribute m -/
def lendI (i : Nat) (C : Addr) (mn : Str) (mo : Env → Option (List Opd × Env)) : Env → Option (List Opd × Env) := fun ρ => match rdS i ρ with
  | some (.ins C' ns _) => if C' = C ∧ ns.any (fun n => n == mn) = false then (match mo ρ with
    | some (os, ρ') => some (.s i :: os, ρ')
    | none => none) else none
  | _ => none
theorem lookup_no {α : Type} {mn : Str} : ∀ {ns : List Str} {xs : List α}, ns.any (fun n => n == mn) = false → (ns.zip xs).lookup mn = none
  | [], _, _ => by simp
  | n :: ns, [], _ => by simp
  | n :: ns, x :: xs, h => by
    simp only [List.any_cons, Bool.or_eq_false_iff] at h
    have : (mn == n) = false := by
      have := h.1
      simp at this
      simp [Ne.symm this]
    simp only [List.zip_cons_cons, List.lookup_cons, this]
    exact lookup_no h.2
theorem meth_sound {C : Addr} {mn : Str} {i n : Nat} {F : List D → Option (D × List D)} {tp : TA}
    (hn : ∀ ρ os ρ', mo ρ = some (os, ρ') → os.length + 1 = n)
    (s : ∀ (G H : Hp) (ω : Ow) (σ τ : Sl) (ρ δ : List D) (os : List Opd) (ρ' : Env) (Q : List V → Hp → Prop), σ.length = ρ.length → Good X.K G H ω (σ ++ τ) (ρ ++ δ) → mo ρ = some (os, ρ') →
    (∀ G' H' ω' vs, vs.length = os.length → Tr ω ω' G H G' H' → Good X.K G' H' ω' (σ ++ (τ ++ vs.map some)) (ρ' ++ (δ ++ os.map opdD)) → Paired (OpdAt σ) os vs → Q vs H') → tp σ H Q)
    {G H : Hp} {ω : Ow} {σ τ : Sl} {ρ δ : List D} {d : D} {ρ' : Env} {Q : VK} {E : XK} (hl : σ.length = ρ.length) (g : Good X.K G H ω (σ ++ τ) (ρ ++ δ)) (ee : callM F (lendI i C mn mo) ρ = some (d, ρ'))
    (q : ∀ G' H' ω' v, Tr ω ω' G H G' H' → Good X.K G' H' ω' (σ ++ (τ ++ [some v])) (ρ' ++ (δ ++ [d])) → Q v H') : tMeth C mn (spP X.K n F) [] E (tVar i) tp σ H Q := by
  have core := call_core (X := X) (mo := lendI i C mn mo) (F := F) (n := n) (E := E) (Q := Q) (tp := fun σ H Q => tVar i σ H fun x H1 => ∃ a dx fs, x = V.ref a ∧ H1 a = some (.ins C dx fs) ∧ fs.lookup mn = none ∧ tp σ H1 fun vs H2 => Q (x :: vs) H2)
    (fun ρ os ρ' e => by
      unfold lendI at e
      split at e
      · split at e
        · split at e
          · rename_i os1 ρ1 e1
            cases e
            rw [List.length_cons]
            exact hn _ _ _ e1
          · cases e
        · cases e
      · cases e)
    (fun G H ω σ τ ρ δ os ρ' Q hl g e q => by
      unfold lendI at e
      split at e
      · rename_i C' ns ds e0
        split at e
        · rename_i hc
          obtain ⟨rfl, hno⟩ := hc
          split at e
          · rename_i os1 ρ1 e1
            cases e
            obtain ⟨v, ev, hv⟩ := g.at hl e0
            unfold Own at hv
            obtain ⟨xa, dx, vs, rfl, z2, z3, z4, z5⟩ := hv
            refine ⟨_, ev, xa, dx, _, rfl, z2, lookup_no hno, ?_⟩
            have g1 : Good X.K G H ω (σ ++ (τ ++ [some (V.ref xa)])) (ρ ++ (δ ++ [.any])) := by
              rw [← List.append_assoc, ← List.append_assoc]; exact g.pushAny
            refine s G H ω σ (τ ++ [some (V.ref xa)]) ρ (δ ++ [.any]) os1 _ _ hl g1 e1 fun G2 H2 ω2 ws n2 t2 g2 p2 => ?_
            refine q G2 H2 ω2 (V.ref xa :: ws) (by rw [List.length_cons, List.length_cons, n2]) t2 ?_ (.cons ev p2)
            rw [List.append_assoc, List.append_assoc] at g2
            exact g2
          · cases e
        · cases e
      · cases e) hl g ee q
  unfold tMeth
  simp only [List.append_nil]
  exact core
theorem ev_meth {k n i : Nat} {C f0 : Addr} {fd : FuncData} {ps : List Str} {F : List D → Option (D × List D)} {x mn : Str} {px apos : Pos} {pl : Sem Bool} (hx : PE X (.Name x px) (tVar i)) (cl : Cls X.K C) (hm : Meth X.K C mn f0) (FO : FnOk X.prog X.w X.K X.mg X.base CX0 k f0 fd ps (spP X.K n F)) (hr : Room k X.A) (hb : Binds X.K fd ps [])
    (h : CV X (e :: es) mo) (hn : (e :: es).length + 1 = n := by rfl) (he : starEach (e :: es) X.env = (false, eval e X.env) :: starEach es X.env := by rfl) (hpl : ((backTo pos (starEach es X.env)).any fun x => x.1) = false := by rfl)
    (ht : eval (.Call (.Attribute (.Name x px) mn apos) (e :: es) [] pos) X.env = (do
      let ov ← eval (.Name x px) X.env
      standAt apos.atName
      let (f, first) ← holding [ov] (getMethod ov mn pl)
      callWith pos f first (backTo pos (starEach (e :: es) X.env)) (backToKw pos (keywordEach [] X.env))) := by rfl) :
    EV X (.Call (.Attribute (.Name x px) mn apos) (e :: es) [] pos) (callM F (lendI i C mn mo)) := by
  obtain ⟨tp, pp, s⟩ := h.ex
  exact ⟨_, pe_meth hx cl hm FO hr hb .nil pass0 pp he hpl ht, fun G H ω σ τ ρ δ d ρ' Q hl g e q => meth_sound (fun ρ os ρ' e => by rw [h.n _ _ _ e]; exact hn) s hl g e q⟩
/-! ### a for over what is read, its body changing nothing -/
structure BQ (X : Cx) (st : List Stmt) (f : Env → Bool) : Prop where
  ex : ∃ t, PSs X st t ∧ ∀ (G H : Hp) (ω : Ow) (σ : Sl) (ρ : Env) (D : Ends), Good X.K G H ω σ ρ → f ρ = true → D.nx σ H → t D σ H
theorem bq_nil : BQ X [] (fun _ => true) := ⟨_, pss_nil, fun G H ω σ ρ D g e q => q⟩
/-- if c: (never) -/
theorem bq_ifF {c : Expr} {A : List Stmt} {t : Env → Option Bool} (hc : TQ X c t) : BQ X [.If c A [] pos] (fun ρ => match t ρ with | some false => true | _ => false) := by
  obtain ⟨tc, pc, zc⟩ := hc.ex
  refine ⟨_, pss_one (ps_if pc pss_never pss_nil), fun G H ω σ ρ D g e q => ?_⟩
  split at e
  · rename_i e1
    exact zc G H ω σ [] ρ [] false _ g.len g.nil0 e1 (iteF q)
  · cases e
def forQM (k : Nat) (f : Env → Option D) (h : Env → Bool) : Env → Option Res := fun ρ => match f ρ with
  | some (.lst _ ds) => if k < ρ.length ∧ (ds.all fun d => h (ρ.set k d)) = true then some (.nx (match ds.getLast? with
    | some d => ρ.set k d
    | none => ρ)) else none
  | _ => none
theorem ss_forQ {k : Nat} {x : Str} {px : Pos} {body : List Stmt} {h : Env → Bool} (hp : PassesOwn (model X.prog X.w) X.A X.env X.xe) (hc : X.calm = true) (hi : EQ X e f) (hN : X.N.Nodup) (hix : X.N[k]? = some x) (hx : L2.Loc X.env.scope x) (hb : BQ X body h) (hP : P.contains k = false := by rfl)
    (hf : X.fn x = true ∨ X.env.scope.names.lookup x = some .local := by first | exact .inl rfl | exact .inr rfl | assumption) (hs : ∀ x, foldedSetIterable e X.env x = pure x := by intro _; rfl) : SS X P (.For (.Name x px) e body [] pos) (forQM k f h) := by
  obtain ⟨te, pe, ze⟩ := hi.ex
  obtain ⟨tb, pb, sb⟩ := hb.ex
  refine ⟨_, ps_for hp hc (pi_list pe) (pg_name hN hix hx hf) pb hs, fun G H ω σ ρ r D g e q => ?_⟩
  unfold forQM at e
  split at e
  · rename_i md ds e1
    split at e
    · rename_i hc2
      obtain ⟨hk, hall⟩ := hc2
      cases e
      refine ze G H ω σ [] ρ [] _ _ g.len g.nil0 e1 fun v hv => ?_
      obtain ⟨a, vs, rfl, hsq, hr⟩ := lst_sq hv
      -- the frame at turn i
      have fr : ∀ i, i ≤ ds.length → ∃ σi ρi, (σi = match vs[i - 1]? with | some w => (if i = 0 then σ else σ.set k (some w)) | none => σ) ∧ (ρi = match ds[i - 1]? with | some w => (if i = 0 then ρ else ρ.set k w) | none => ρ) ∧ Good X.K G H ω σi ρi := fun i hi => by
        cases hdi : ds[i - 1]? with
        | none =>
          have : vs[i - 1]? = none := by
            rw [List.getElem?_eq_none_iff] at hdi ⊢
            rw [← hr.length]; exact hdi
          exact ⟨_, _, rfl, rfl, by rw [this]; exact g⟩
        | some w =>
          obtain ⟨u, eu, hu⟩ := hr.get hdi
          refine ⟨_, _, rfl, rfl, ?_⟩
          rw [eu]
          by_cases h0 : i = 0
          · simp only [if_pos h0]; exact g
          · simp only [if_neg h0]; exact g.setF hu
      refine ⟨a, rfl, ⟨vs, hsq⟩, fun i n σ1 H1 => n = ds.length - i ∧ i ≤ ds.length ∧ H1 = H ∧ σ1 = (match vs[i - 1]? with | some w => (if i = 0 then σ else σ.set k (some w)) | none => σ), ⟨ds.length, by simp, Nat.zero_le _, rfl, ?_⟩, ?_⟩
      · cases vs[0 - 1]? <;> rfl
      · rintro i n σ1 H1 ⟨rfl, hi, rfl, rfl⟩
        by_cases hlt : i < ds.length
        · obtain ⟨u, eu, hu⟩ := hr.get (List.getElem?_eq_getElem hlt)
          refine .inr ⟨⟨vs, u, hsq, eu⟩, fun σ3 H3 => H3 = H1 ∧ σ3 = σ.set k (some u), fun σ3 H3 ⟨h1, h2⟩ => ⟨ds.length - (i + 1), by omega, rfl, hlt, h1, ?_⟩, fun y H2 ⟨e2, hy⟩ => ?_⟩
          · rw [h2, Nat.add_sub_cancel, eu]; rfl
          · subst e2
            have := hy vs hsq
            rw [eu] at this
            cases this
            have es : ((match vs[i - 1]? with | some w => (if i = 0 then σ else σ.set k (some w)) | none => σ) : Sl).set k (some u) = σ.set k (some u) := by
              cases vs[i - 1]? with
              | none => rfl
              | some w =>
                by_cases h0 : i = 0
                · simp [h0]
                · simp [h0]
            show tb _ (((match vs[i - 1]? with | some w => (if i = 0 then σ else σ.set k (some w)) | none => σ) : Sl).set k (some u)) H2
            rw [es]
            exact sb G H2 ω _ _ _ (g.setF hu) (List.all_eq_true.mp hall _ (List.getElem_mem hlt)) ⟨rfl, rfl⟩
        · have hn : i = ds.length := by omega
          subst hn
          refine .inl ⟨⟨vs, hsq, by rw [hr.length]; exact Nat.le_refl _⟩, ?_⟩
          have hlast : ds.getLast? = ds[ds.length - 1]? := List.getLast?_eq_getElem?
          cases hdl : ds[ds.length - 1]? with
          | none =>
            have : vs[ds.length - 1]? = none := by
              rw [List.getElem?_eq_none_iff] at hdl ⊢
              rw [← hr.length]; exact hdl
            rw [this]
            rw [hlast, hdl] at q
            exact q G H1 ω σ Tr.refl g Prot.refl
          | some w =>
            obtain ⟨u, eu, hu⟩ := hr.get hdl
            rw [eu]
            rw [hlast, hdl] at q
            have h0 : ds.length ≠ 0 := fun z => by
              have := (List.getElem?_eq_some_iff.mp hdl).1
              omega
            simp only [if_neg h0]
            exact q G H1 ω _ Tr.refl (g.setF hu) (Prot.set hP)
    · cases e
  · cases e
end
end CW

namespace CW
open PySem L2
theorem hu64 {A : Around} {k : Nat} (hr : Room k A) : A.units + 64 < cLine := by
  have := hr.un
  omega
section
variable {X : Cx} {P : List Nat} {e a b : Expr} {es : List Expr} {pos : Pos} {f g : Env → Option D} {m ma mb : Env → Option (D × Env)} {ms : Env → Option (List D × Env)} {s : Env → Option Res} {t : Env → Option (Bool × Env)}
theorem ev_add (ha : EV X a ma) (hb : EV X b mb) : EV X (.BinOp a .Add b pos) (op2M addI ma mb) := ev_op (q_opI0 fun _ _ => rfl) ha hb fun p q => pe_op op_add p q
theorem ev_sub (ha : EV X a ma) (hb : EV X b mb) : EV X (.BinOp a .Sub b pos) (op2M subI ma mb) := ev_op (q_opI0 fun _ _ => rfl) ha hb fun p q => pe_op op_sub p q
theorem ev_mul (ha : EV X a ma) (hb : EV X b mb) : EV X (.BinOp a .Mult b pos) (op2M mulI ma mb) := ev_op (q_opI (fun _ _ h => of_decide_eq_true h) fun _ _ => rfl) ha hb fun p q => pe_op op_mul p q
theorem ev_div (ha : EV X a ma) (hb : EV X b mb) : EV X (.BinOp a .FloorDiv b pos) (op2M divI ma mb) := ev_op (q_opI (P := CDiv) (fun i j h => (of_decide_eq_true h : (0 < j ∧ j < 1073741824))) fun _ _ => rfl) ha hb fun p q => pe_op op_fdiv p q
theorem ev_mod (ha : EV X a ma) (hb : EV X b mb) : EV X (.BinOp a .Mod b pos) (op2M modI ma mb) := ev_op (q_opI (fun _ _ h => of_decide_eq_true h) fun _ _ => rfl) ha hb fun p q => pe_op op_mod p q
theorem ev_ixS (ha : EV X a ma) (hb : EV X b mb) (hs : PlainIx b := by intro _ _; rfl) : EV X (.Subscript a b pos) (op2M ixD ma mb) := ev_op q_ixS ha hb fun p q => pe_ix (IxR.or ix_list ix_tup) p q hs
/-- {} -/
def dict0M : Env → Option (D × Env) := fun ρ => some (.dic .o [] [], ρ)
theorem ev_dict0 : EV X (.Dict [] [] pos) dict0M := by
  refine ⟨_, pe_dnewK, fun G H ω σ τ ρ δ d ρ' Q hl g e q => ?_⟩
  cases e
  intro p hp
  obtain ⟨g1, t1⟩ := g.layO (o := .dK []) (d := .dic .o [] []) hp (by
    unfold Own
    exact ⟨p, [], rfl, upd_same, (by unfold setO; rw [if_pos rfl]), rfl, RepL.nil⟩)
  rw [List.append_assoc, List.append_assoc] at g1
  exact q _ _ _ _ t1 g1
/-- built-ins of one argument of any kind -/
def un1M (F : D → Option D) (m : Env → Option (D × Env)) : Env → Option (D × Env) := fun ρ => match m ρ with
  | some (x, ρ') => (match F x with
    | some d => if isF d = true then some (d, ρ') else none
    | none => none)
  | none => none
theorem ev_b1 {r : List V → Hp → VK → Prop} {F : D → Option D} (hr : ∀ (G H : Hp) (d1 d : D) (v1 : V) (Q : VK), Same G H → VR X.K G H d1 v1 → F d1 = some d → (∀ v, VR X.K G H d v → Q v H) → r [v1] H Q)
    (ha : EV X a m) (hp : ∀ {t : TA}, PA X [a] t → PE X e (tCB r t)) (hs : starEach [a] X.env = (false, eval a X.env) :: starEach [] X.env := by rfl) : EV X e (un1M F m) := by
  obtain ⟨ta, pa, sa⟩ := ha.ex
  refine ⟨_, hp (pa_cons pa pa_nil hs), fun G H ω σ τ ρ δ d ρ' Q hl g e q => ?_⟩
  unfold un1M at e
  split at e
  · rename_i x ρ1 e1
    split at e
    · rename_i d1 e2
      split at e
      · rename_i hf
        cases e
        exact sa G H ω σ τ ρ δ x _ _ hl g e1 fun G1 H1 ω1 v t1 g1 => hr G1 H1 x _ v Q g1.same g1.last e2 fun w hw => q _ _ _ _ t1 (g1.drop1.add1 (hw.2 hf))
      · cases e
    · cases e
  · cases e
variable {p : Pos}
theorem ev_len (hg : Gl X "len") (hm : X.mg "len" = none) (ha : EV X a m) (hs : starEach [a] X.env = (false, eval a X.env) :: starEach [] X.env := by rfl) : EV X (.Call (.Name "len" p) [a] [] pos) (un1M lenD m) := by
  refine ev_b1 (fun G H d1 d v1 Q s h1 e q => ?_) ha (fun pa => pe_callB call_len_seq hg hm PySem.boot_len pa (by decide) (by decide) hs) hs
  have e' : ∃ ds, itemsD d1 = some ds ∧ d = .int ds.length := by
    cases d1 <;> simp only [lenD] at e <;> first | (cases e; done) | (cases e; exact ⟨_, rfl, rfl⟩)
  obtain ⟨ds, ed, rfl⟩ := e'
  obtain ⟨p, xs, z1, hs, hr⟩ := seq_of s (itemsD_some ed) h1
  exact ⟨p, xs, by rw [z1], hs, by rw [← hr.length]; exact q _ (VR.sc rfl)⟩
theorem ev_intc (hg : Gl X "int") (hm : X.mg "int" = none) (ha : EV X a m) (hs : starEach [a] X.env = (false, eval a X.env) :: starEach [] X.env := by rfl) : EV X (.Call (.Name "int" p) [a] [] pos) (un1M intD m) := by
  refine ev_b1 (fun G H d1 d v1 Q s h1 e q => ?_) ha (fun pa => pe_callTy call_int1 hg hm PyProof.Rows.boot_int pa (by decide) (by decide) hs) hs
  cases d1 <;> simp only [intD] at e <;> first | (cases e; done) | skip
  · rename_i b
    cases e
    exact .inr ⟨b, by rw [h1.eqS rfl], q _ (VR.sc rfl)⟩
  · rename_i i
    cases e
    exact .inl ⟨i, by rw [h1.eqS rfl], q _ (VR.sc rfl)⟩
/-! ### x.pop(e), [..].index(e) -/
def popAtV (i : Nat) (m : Env → Option (D × Env)) : Env → Option (D × Env) := fun ρ => match rdS i ρ with
  | some (.lst .o _) => (match m ρ with
    | some (.int j, ρ1) => (match rdS i ρ1 with
      | some (.lst .o ds) => if 0 ≤ j ∧ j < ds.length ∧ ds.length ≤ 16777216 then (match ds[j.toNat]? with
        | some d => if isF d = true then some (d, ρ1.set i (.lst .o (ds.eraseIdx j.toNat))) else none
        | none => none) else none
      | _ => none)
    | _ => none)
  | _ => none
theorem RepL.erase {K : PySem.W.Frag} {G : Hp} {ds : List D} {vs : List V} (h : RepL K G ds vs) (k : Nat) : RepL K G (ds.eraseIdx k) (vs.eraseIdx k) := by
  rw [List.eraseIdx_eq_take_drop_succ, List.eraseIdx_eq_take_drop_succ]
  exact (h.take k).app (h.drop (k + 1))
theorem ev_popAt {i : Nat} {x : Str} {px apos cpos : Pos} (hx : PE X (.Name x px) (tVar i)) (h : EV X e m) (hb : attributeBase (.Name x px) "pop" X.env (eval (.Name x px) X.env) = eval (.Name x px) X.env := by rfl)
    (hf : ((((backTo cpos (starEach [e] X.env)).all fun x => !x.1) && (backToKw cpos (keywordEach [] X.env)).all fun x => x.1.isSome) && decide (([e].length + ([] : List Keyword).length + if ([] : List Keyword).isEmpty = true then 0 else 1) < 30)) = true := by rfl)
    (hln : (apos.endLine == cpos.line) = true := by rfl) (hst : starEach [e] X.env = (false, eval e X.env) :: starEach [] X.env := by rfl) :
    EV X (.Call (.Attribute (.Name x px) "pop" apos) [e] [] cpos) (popAtV i m) := by
  obtain ⟨te, p, z⟩ := h.ex
  refine ⟨_, pe_bm PySem.F.plainAttrs_list PySem.F.slot_list_pop PySem.F.type_list_pop mt_popAt hx (pa_cons p pa_nil hst) hb hf hln hst (by rfl), fun G H ω σ τ ρ δ d ρ' Q hl g e q => ?_⟩
  unfold popAtV at e
  split at e
  · rename_i ds0 e0
    split at e
    · rename_i j ρ1 e1
      split at e
      · rename_i ds e2
        split at e
        · rename_i hc
          split at e
          · rename_i d1 e3
            split at e
            · rename_i hF
              cases e
              obtain ⟨v, ev, hv⟩ := g.at hl e0
              obtain ⟨a0, vs0, rfl, z1, _, _⟩ := own_lst hv
              refine ⟨_, ev, .inl ⟨rfl, vs0, SqL.of z1⟩, z G H ω σ τ ρ δ _ ρ1 _ hl g e1 fun G1 H1 ω1 y t1 g1 => ?_⟩
              have hl1 := lens g g1 rfl hl
              have g2 := g1.drop1
              obtain ⟨u, eu, hu⟩ := g2.at hl1 e2
              rw [ev] at eu
              cases eu
              obtain ⟨a, vs, ea, y1, y2, y3⟩ := own_lst hu
              cases ea
              obtain ⟨e4, _⟩ := rdS_some e2
              obtain ⟨w, ew, hw⟩ := y3.get e3
              obtain ⟨g3, t3⟩ := g2.setL hl1 e4 ev y2 (y3.erase j.toNat)
              have hyv : y = .int j := VR.eqS g1.last rfl
              have hsi : seqIndex? j vs.length = some j.toNat := by
                unfold seqIndex?
                rw [← y3.length]
                have h1 : ¬ j < 0 := by omega
                simp only [h1, if_false]
                simp [hc.1, hc.2.1]
              exact ⟨a0, vs, j, j.toNat, w, rfl, by rw [hyv], y1, by omega, by omega, hsi, ew, q _ _ _ _ (t1.trans t3) (g3.add1 hw)⟩
            · cases e
          · cases e
        · cases e
      · cases e
    · cases e
  · cases e
/-- the first place of a scalar in a list of scalars -/
def indexV (y : V) : List V → Option Nat
  | [] => none
  | v :: vs => if eqV v y = true then some 0 else (indexV y vs).map (· + 1)
def indexD (x y : D) : Option D := match x, scV y with
  | .lst _ ds, some v => (match scVs ds with
    | some vs => (indexV v vs).map fun n => .int (n : Nat)
    | none => none)
  | _, _ => none
theorem indexV_ok {y : V} : ∀ {vs : List V} {n : Nat}, indexV y vs = some n → ∃ z, vs[n]? = some z ∧ eqV z y = true ∧ ∀ (k : Nat) (z' : V), k < n → vs[k]? = some z' → eqV z' y = false
  | [], n, e => by cases e
  | v :: vs, n, e => by
    unfold indexV at e
    by_cases h : eqV v y = true
    · rw [if_pos h] at e
      cases e
      exact ⟨v, rfl, h, fun k z' hk => absurd hk (Nat.not_lt_zero _)⟩
    · rw [if_neg h] at e
      cases en : indexV y vs with
      | none => rw [en] at e; cases e
      | some k =>
        rw [en] at e
        cases e
        obtain ⟨z, e1, e2, e3⟩ := indexV_ok en
        refine ⟨z, by simpa using e1, e2, fun j z' hj ej => ?_⟩
        cases j with
        | zero => simp at ej; subst ej; simpa using h
        | succ j => exact e3 j z' (Nat.lt_of_succ_lt_succ hj) (by simpa using ej)
theorem ev_index {o : Expr} {apos cpos : Pos} (ho : EV X o ma) (h : EV X e mb) (hb : attributeBase o "index" X.env (eval o X.env) = eval o X.env := by rfl)
    (hf : ((((backTo cpos (starEach [e] X.env)).all fun x => !x.1) && (backToKw cpos (keywordEach [] X.env)).all fun x => x.1.isSome) && decide (([e].length + ([] : List Keyword).length + if ([] : List Keyword).isEmpty = true then 0 else 1) < 30)) = true := by rfl)
    (hln : (apos.endLine == cpos.line) = true := by rfl) (hst : starEach [e] X.env = (false, eval e X.env) :: starEach [] X.env := by rfl) :
    EV X (.Call (.Attribute o "index" apos) [e] [] cpos) (op2M indexD ma mb) := by
  obtain ⟨ta, pa, sa⟩ := ho.ex
  obtain ⟨tb, pb, sb⟩ := h.ex
  refine ⟨_, pe_bm PySem.F.plainAttrs_list PySem.F.slot_list_index PySem.F.type_list_index mt_index pa (pa_cons pb pa_nil hst) hb hf hln hst (by rfl), fun G H ω σ τ ρ δ d ρ' Q hl g e q => ?_⟩
  unfold op2M at e
  split at e
  · rename_i x ρ1 e1
    split at e
    · rename_i y ρ2 e2
      split at e
      · rename_i d1 e3
        split at e
        · rename_i hF
          cases e
          unfold indexD at e3
          split at e3
          · rename_i md ds yv ey
            split at e3
            · rename_i vs0 evs
              cases en : indexV yv vs0 with
              | none => rw [en] at e3; cases e3
              | some n =>
                rw [en] at e3
                cases e3
                refine sa G H ω σ τ ρ δ _ ρ1 _ hl g e1 fun G1 H1 ω1 v t1 g1 => ?_
                obtain ⟨p1, xs, rfl, hs1, hr1⟩ := lst_sq g1.last
                refine ⟨.inl ⟨rfl, xs, hs1⟩, ?_⟩
                refine sb G1 H1 ω1 σ (τ ++ [some (.ref p1)]) ρ1 (δ ++ [.lst md ds]) y _ _ (lens g g1 rfl hl) g1 e2 fun G2 H2 ω2 u t2 g2 => ?_
                have g3 : Good X.K G2 H2 ω2 (σ ++ (τ ++ [V.ref p1, u].map some)) (ρ' ++ (δ ++ [.lst md ds, y])) := by simpa [List.append_assoc] using g2
                have hl' : σ.length = ρ'.length := lens g g3 rfl hl
                obtain ⟨_, h4⟩ := g3.tops hl' (g.lensL hl)
                have hx := h4 0 (.lst md ds) (.ref p1) rfl rfl
                have hy := h4 1 y u rfl rfl
                obtain ⟨p2, xs2, ep, hs2, hr2⟩ := lst_sq hx
                cases ep
                obtain ⟨q1, q2⟩ := scVs_ok hr2 evs
                subst q1
                obtain ⟨z, z1, z2, z3⟩ := indexV_ok en
                refine ⟨p1, xs2, u, n, z, rfl, rfl, hs2, by rw [hy.eqS ey]; exact scV_flat ey, q2, z1, by rw [hy.eqS ey]; exact z2, fun k z' hk ek => by rw [hy.eqS ey]; exact z3 k z' hk ek, ?_⟩
                exact q _ _ _ _ (t1.trans t2) ((g3.dropN hl' (g.lensL hl)).add1 (by unfold Rep; rfl))
            · cases e3
          · cases e3
        · cases e
      · cases e
    · cases e
  · cases e
/-! ### statements' names -/
def whileS (N : Env → Nat) (t : Env → Option (Bool × Env)) (s : Env → Option Res) : Env → Option Res := fun ρ => whileM t s (N ρ) ρ
def retNM : Env → Option Res := fun ρ => some (.rt .non ρ)
def breakM : Env → Option Res := fun ρ => some (.bk ρ)
def contM : Env → Option Res := fun ρ => some (.ct ρ)
def ifFB (t : Env → Option Bool) : Env → Bool := fun ρ => match t ρ with | some false => true | _ => false
def augM (i : Nat) (fi : Int → Int → Int) (f : Env → Option D) : Env → Option Res := fun ρ => match rdS i ρ, f ρ with | some (.int a), some (.int b) => some (.nx (ρ.set i (.int (fi a b)))) | _, _ => none
/-- a, b = e -/
def unpM (m : Env → Option (D × Env)) (t : D → Env → Option Env) : Env → Option Res := fun ρ => match frzM m ρ with
  | some (d, ρ1) => (match t d ρ1 with
    | some ρ2 => if isF d = true then some (.nx ρ2) else none
    | none => none)
  | none => none
theorem ss_unpack {tg : Expr} {t : D → Env → Option Env} (he : EV X e m) (ht : TGD X P tg t) (hs : swapsWithSole [tg] e pos.line X.env = pure false := by rfl) (hw : swappedStores [tg] e X.env = pure none := by rfl)
    (h1 : (assignEach [tg] X.env).map (·.2) = [assign tg X.env] := by rfl) : SS X P (.Assign [tg] e pos) (unpM m t) := by
  obtain ⟨te, pe, ze⟩ := (ev_frz he).ex
  obtain ⟨gt, pg, zg⟩ := ht.ex
  refine ⟨_, ps_asg pe pg hs hw h1, fun G H ω σ ρ r D g e q => ?_⟩
  unfold unpM at e
  split at e
  · rename_i d ρ1 e1
    split at e
    · rename_i ρ2 e2
      split at e
      · rename_i hF
        cases e
        refine ze G H ω σ [] ρ [] d ρ1 _ g.len g.nil0 e1 fun G1 H1 ω1 v t1 g1 => ?_
        have hl1 : σ.length = ρ1.length := lens g.nil0 g1 rfl g.len
        refine zg G1 H1 ω1 σ [] ρ1 [] ρ2 d v _ hl1 g1.drop1 (g1.last.2 hF) e2 fun σ2 n2 g2 p2 => ?_
        rw [List.append_nil, List.append_nil] at g2
        exact q _ _ _ _ t1 g2 p2
      · cases e
    · cases e
  · cases e
end
end CW

namespace CW
open PySem L2
section
variable {X : Cx} {scope : Scope} {P : List Nat} {e tg : Expr} {m : Env → Option (D × Env)} {t : Env → Option (Bool × Env)} {tt : D → Env → Option Env}
/-- [e for x in xs if t for y in ys if u] where no x passes t -/
theorem ev_lc2n {elt iter tg1 iter1 : Expr} {ifs ifs1 : List Expr} {own : List (Str × Nat)} {pos : Pos} {ms : Env → Option (List D × Env)} {N : Nat} (hc : X.calm = true) (hN : X.N.Nodup) (hNl : N = X.N.length) (hi : IV X tg iter ms) (ok : BlkOk X.N X.env.scope scope own)
    (hg : ∀ c : CBlk X scope, TGD c.cx (notIn N (own.map (·.2))) tg tt) (ht : ∀ c : CBlk X scope, TsV c.cx ifs t) (hs : ∀ x, foldedSetIterable iter X.env x = pure x := by intro _; rfl) (hs1 : ∀ env x, foldedSetIterable iter1 env x = pure x := by intro _ _; rfl) :
    EV X (.ListComp elt [⟨tg, iter, ifs, 0⟩, ⟨tg1, iter1, ifs1, 0⟩] scope pos) (lcM N (own.map (·.2)) ms tt t (fun _ => none)) := by
  obtain ⟨wi, pi, zi⟩ := hi.ex
  obtain ⟨gt, pg, zg⟩ := TGD.all hg
  obtain ⟨tt0, pt, zt⟩ := TsV.all ht
  refine ⟨_, pe_lc2 (vs1 := []) (wi1 := fun _ _ _ => False) (g1 := fun _ _ _ _ => False) (tt1 := fun _ _ _ => False) (te := fun _ _ _ => False) hc hN pi ok (by intro i h; cases h) (fun s H C cl fp => pg ⟨s, H, C, cl, fp⟩) (fun s H C cl fp => pt ⟨s, H, C, cl, fp⟩)
    (fun s H C cl fp => ⟨fun _ _ _ _ _ _ h => h.elim⟩) (fun s H C cl fp => ⟨fun _ _ _ _ _ _ _ _ _ h => h.elim⟩) (fun s H C cl fp => ⟨fun _ _ _ _ _ _ h => h.elim⟩) (fun s H C cl fp => ⟨fun _ _ _ _ _ _ h => h.elim⟩) hs hs1, fun G H ω σ τ ρ δ d ρ' Q hl g e q => ?_⟩
  unfold lcM at e
  split at e
  · rename_i hlen
    exact lc_sound (te := fun _ _ _ => False) (iter := iter) (ifs := ifs) (N := N) zi zg zt (fun _ _ _ _ _ _ _ _ _ _ _ _ e _ => by cases e) notIn_mem (by omega) hl g e q
  · cases e
/-- range(e), where e runs code -/
def rng1VW (f : Env → Option (D × Env)) : Env → Option (List D × Env) := fun ρ => match f ρ with
  | some (.int j, ρ') => if -(2 ^ 62) ≤ j ∧ j < 2 ^ 62 then some (rngD 0 j.toNat, ρ') else none
  | _ => none
theorem iv_rng1V {a : Expr} {f : Env → Option (D × Env)} {p pos : Pos} (hg : Gl X "range") (hm : X.mg "range" = none) (h : EV X a f) (hs : starEach [a] X.env = [(false, eval a X.env)] := by rfl) : IV X tg (.Call (.Name "range" p) [a] [] pos) (rng1VW f) := by
  obtain ⟨te, p, z⟩ := h.ex
  refine ⟨_, pi_range1 hg hm (pa_cons p pa_nil (by rw [hs]; rfl)) hs, fun G H ω σ τ ρ δ ds ρ' R hl g e q => ?_⟩
  unfold rng1VW at e
  split at e
  · rename_i j ρ1 ej
    split at e
    · rename_i hj
      cases e
      refine z G H ω σ τ ρ δ _ _ _ hl g ej fun G' H' ω' v t1 g1 => ?_
      have hv := g1.last.2 rfl
      exact ⟨j, by rw [show v = V.int j from hv], hj.1, hj.2, q G' H' ω' _ t1 g1.drop1 yields_rng⟩
    · cases e
  · cases e
/-- a whole number of the top -/
theorem eq_gi {x : Str} {p : Pos} {n : Int} {t : Tok} (hg : Gl X x) (hm : X.mg x = some (.int n t)) (hd : (x == ("__debug__" : Str)) = false := by decide) : EQ X (.Name x p) (cst (.int n)) := eq_c (pe_glob (v := .int n) hg hm ⟨t, rfl⟩ hd) rfl
end
end CW

namespace CW
open PySem L2
/-- what a law's def promises: at every script of at most 63 whole numbers True -/
def spLawC (K : PySem.W.Frag) : Sp := fun vs H Q _ => ∃ (a : Addr) (ns : List Int), vs = [.ref a] ∧ SqL K H a (ns.map V.int) ∧ ns.length ≤ 63 ∧ ∀ H', Q (.bl true) H'
theorem repL_ints {K : PySem.W.Frag} {G : Hp} : ∀ ns : List Int, RepL K G (ns.map D.int) (ns.map V.int)
  | [] => by unfold RepL; rfl
  | n :: ns => by
    show RepL K G (.int n :: ns.map D.int) (.int n :: ns.map V.int)
    unfold RepL
    exact ⟨_, _, rfl, by unfold Rep; rfl, repL_ints ns⟩
theorem law_imp {P : Program} {w : World} {K : PySem.W.Frag} {mg : Str → Option Value} {base : Heap} {k : Nat} {f : Addr} {fd : FuncData} {F : List D → Option (D × List D)} (ok : FnOk P w K mg base CX0 k f fd ["script"] (spP K 1 F))
    (hF : ∀ ns : List Int, ns.length ≤ 63 → ∃ outs, F [.lst .x (ns.map D.int)] = some (.bl true, outs)) : FnOk P w K mg base CX0 k f fd ["script"] (spLawC K) := by
  refine ok.imp fun vs H Q E h => ?_
  obtain ⟨a, ns, rfl, hS, hl, q⟩ := h
  obtain ⟨outs, e⟩ := hF ns hl
  refine ⟨rfl, H, fun _ => none, [.lst .x (ns.map D.int)], _, outs, ⟨Same.refl _, fun _ h => absurd rfl h, fun _ h => absurd rfl h, rfl, ?_⟩, e, ?_⟩
  · intro i d e1
    cases i with
    | zero =>
      cases e1
      refine .inr ⟨.ref a, rfl, ?_⟩
      unfold Own
      unfold Rep
      exact ⟨a, _, rfl, hS, repL_ints ns⟩
    | succ i => simp at e1
  · intro G' H' ω' v t g
    have hv := g.sl outs.length (.bl true) (by simp)
    rcases hv with z | ⟨u, e1, h1⟩
    · cases z
    · have hl2 := g.len
      simp at hl2
      have : u = v := by
        rw [List.getElem?_append_right (by simp; omega), show outs.length - (List.map some [V.ref a]).length = 0 by simp; omega] at e1
        cases e1
        rfl
      subst this
      unfold Own Rep at h1
      rw [h1]
      exact q H'
end CW

namespace CW
open PySem L2
/-! ### a list that is lent to a loop -/
def offO (ω : Ow) (a : Addr) : Ow := fun b => if b = a then none else ω b
section
variable {K : PySem.W.Frag} {G H G' H' : Hp} {ω ω' : Ow} {σ σ' : Sl} {ρ ρ' : List D}
theorem Good.lendTo {i : Nat} {ds : List D} (g : Good K G H ω σ ρ) (hi : ρ[i]? = some (.lst .o ds)) : ∃ a vs, σ[i]? = some (some (.ref a)) ∧ H a = some (.lst vs) ∧ ω a = some [i] ∧ G a = none ∧ RepL K G ds vs ∧ Good K G H (offO ω a) σ (ρ.set i .any) := by
  rcases g.sl i _ hi with z | ⟨v, e1, h1⟩
  · cases z
  · unfold Own at h1
    obtain ⟨a, vs, rfl, h2, h3, h4⟩ := h1
    have off : ∀ b, offO ω a b ≠ none → ω b ≠ none := fun b h z => h (by unfold offO; split <;> first | rfl | exact z)
    refine ⟨a, vs, e1, h2, h3, g.out a (by rw [h3]; simp), h4, g.same, fun b h => g.out b (off b h), fun b h => g.live b (off b h), by simp [g.len], fun j d e => ?_⟩
    by_cases hj : j = i
    · subst hj
      have hl : j < ρ.length := (List.getElem?_eq_some_iff.mp hi).1
      rw [List.getElem?_set_self hl] at e
      cases e
      exact .inl rfl
    · rw [List.getElem?_set_ne (Ne.symm hj)] at e
      rcases g.sl j d e with z | ⟨u, e2, h5⟩
      · exact .inl z
      · refine .inr ⟨u, e2, Own.move (Same.refl _) _ _ (fun b r er => ⟨rfl, ?_⟩) d u h5⟩
        unfold offO
        rw [if_neg (fun z => ?_)]
        · exact er
        · rw [z, h3] at er
          have : [i] = [j] ++ r := Option.some.inj er
          simp at this
          exact hj this.1.symm
theorem Good.give {i : Nat} {ds : List D} {a : Addr} {vs : List V} (g : Good K G' H' ω' σ' ρ') (t : Tr (offO ω a) ω' G H G' H') (hH : H a = some (.lst vs)) (hw : ω a = some [i]) (hG : G a = none) (hr : RepL K G ds vs) (hs : σ'[i]? = some (some (.ref a))) :
    Good K G' H' (setO ω' a [i]) σ' (ρ'.set i (.lst .o ds)) ∧ Tr ω (setO ω' a [i]) G H G' H' := by
  have oa : offO ω a a = none := by unfold offO; rw [if_pos rfl]
  have wa : ω' a = none := by
    cases e : ω' a with
    | none => rfl
    | some p =>
      rcases t.fnew a (by rw [e]; simp) with z | z
      · rw [hH] at z; cases z
      · exact absurd oa z
  have ga : G' a = none := by
    cases e : G' a with
    | none => rfl
    | some p =>
      rcases t.gnew a (by rw [e]; simp) with z | z | z
      · exact absurd hG z
      · rw [hH] at z; cases z
      · exact absurd oa z
  have off : ∀ b, offO ω a b ≠ none → ω b ≠ none := fun b h z => h (by unfold offO; split <;> first | rfl | exact z)
  have ha : H' a = some (.lst vs) := t.keep a _ hH oa
  have hset : ∀ b, setO ω' a [i] b ≠ none → b = a ∨ ω' b ≠ none := fun b h => by
    by_cases hb : b = a
    · exact .inl hb
    · right; unfold setO at h; rw [if_neg hb] at h; exact h
  refine ⟨⟨g.same, fun b h => ?_, fun b h => ?_, by simp [g.len], fun j d e => ?_⟩, t.gs, fun b o e h => t.keep b o e ?_, fun b h => ?_, fun b h => ?_⟩
  · rcases hset b h with rfl | z
    · exact ga
    · exact g.out b z
  · rcases hset b h with rfl | z
    · rw [ha]; simp
    · exact g.live b z
  · by_cases hj : j = i
    · subst hj
      have hl : j < ρ'.length := by
        have := (List.getElem?_eq_some_iff.mp e).1
        simpa using this
      rw [List.getElem?_set_self hl] at e
      cases e
      refine .inr ⟨_, hs, ?_⟩
      unfold Own
      exact ⟨a, vs, rfl, ha, by unfold setO; rw [if_pos rfl], RepL.mono t.gs _ _ hr⟩
    · rw [List.getElem?_set_ne (Ne.symm hj)] at e
      rcases g.sl j d e with z | ⟨u, e2, h5⟩
      · exact .inl z
      · refine .inr ⟨u, e2, Own.move (Same.refl _) _ _ (fun b r er => ⟨rfl, ?_⟩) d u h5⟩
        unfold setO
        rw [if_neg (fun z => ?_)]
        · exact er
        · rw [z, wa] at er; cases er
  · unfold offO; split <;> first | rfl | exact h
  · rcases t.gnew b h with z | z | z
    · exact .inl z
    · exact .inr (.inl z)
    · exact .inr (.inr (off b z))
  · rcases hset b h with rfl | z
    · exact .inr (by rw [hw]; simp)
    · rcases t.fnew b z with z | z
      · exact .inl z
      · exact .inr (off b z)
end
/-- an iterator hands out ds wherever what is pinned stands -/
def YieldsP (K : PySem.W.Frag) (G : Hp) (a : Addr) (o : HO) (J : It) (ds : List D) : Prop := ∀ (i : Nat) (G2 H2 : Hp), Same G G2 → Same G2 H2 → H2 a = some o → (i = ds.length → J.stop i H2) ∧
  ∀ d, ds[i]? = some d → J.go i H2 ∧ ∀ x H3, J.yld i H2 x H3 → H3 = H2 ∧ Rep K G2 d x
theorem yieldsP {K : PySem.W.Frag} {G : Hp} {a : Addr} {vs : List V} {ds : List D} (hr : RepL K G ds vs) : YieldsP K G a (.lst vs) (Itl K a) ds := fun i G2 H2 s1 s2 ha => by
  have sq : SqL K H2 a vs := SqL.of ha
  refine ⟨fun hi => ⟨vs, sq, by rw [hi, hr.length]; exact Nat.le_refl _⟩, fun d hd => ?_⟩
  obtain ⟨u, eu, hu⟩ := hr.get hd
  refine ⟨⟨vs, u, sq, eu⟩, fun x H3 ⟨e3, hx⟩ => ⟨e3, ?_⟩⟩
  have := hx vs sq
  rw [eu] at this
  cases this
  exact Rep.mono s1 _ _ hu
section
variable {X : Cx} {scope : Scope} {P : List Nat} {e tg : Expr} {m : Env → Option (D × Env)} {t : Env → Option (Bool × Env)} {tt : D → Env → Option Env}
theorem lc_soundO {gt : TG} {tt0 : TT} {te : TE} {vs : List Nat} {N : Nat}
    (zg : ∀ (G H : Hp) (ω : Ow) (σ τ : Sl) (ρ δ : List D) (ρ' : Env) (d : D) (v : V) (Q : St → Hp → Prop), σ.length = ρ.length → Good X.K G H ω (σ ++ τ) (ρ ++ δ) → Rep X.K G d v → tt d ρ = some ρ' → (∀ σ', σ'.length = σ.length → Good X.K G H ω (σ' ++ τ) (ρ' ++ δ) → Prot P σ σ' → Q σ' H) → gt v σ H Q)
    (zt : ∀ (G H : Hp) (ω : Ow) (σ τ : Sl) (ρ δ : List D) (b : Bool) (ρ' : Env) (Q : Bool → Hp → Prop), σ.length = ρ.length → Good X.K G H ω (σ ++ τ) (ρ ++ δ) → t ρ = some (b, ρ') → (∀ G' H' ω', Tr ω ω' G H G' H' → Good X.K G' H' ω' (σ ++ τ) (ρ' ++ δ) → Q b H') → tt0 σ H Q)
    (ze : ∀ (G H : Hp) (ω : Ow) (σ τ : Sl) (ρ δ : List D) (d : D) (ρ' : Env) (Q : VK), σ.length = ρ.length → Good X.K G H ω (σ ++ τ) (ρ ++ δ) → m ρ = some (d, ρ') → (∀ G' H' ω' v, Tr ω ω' G H G' H' → Good X.K G' H' ω' (σ ++ (τ ++ [some v])) (ρ' ++ (δ ++ [d])) → Q v H') → te σ H Q)
    (hP : ∀ i, i < N → i ∉ vs → i ∈ P) {G1 H1 : Hp} {ω1 : Ow} {σ τ : Sl} {ρ1 δ : List D} {ds acc0 : List D} {ρ2 : Env} {Q : VK} {J : It} {a : Addr} {o : HO} (hlN : σ.length = N) (hl1 : σ.length = ρ1.length) (g1 : Good X.K G1 H1 ω1 (σ ++ τ) (ρ1 ++ δ)) (hok : okV ρ1 vs = true) (e2 : compGo vs tt t m ds (wipeD ρ1 vs) [] = some (acc0, ρ2))
    (hY : YieldsP X.K G1 a o J ds) (ha : H1 a = some o) (hw : ω1 a = none)
    (q : ∀ G' H' ω' v, Tr ω1 ω' G1 H1 G' H' → Good X.K G' H' ω' (σ ++ (τ ++ [some v])) (restD ρ1 ρ2 vs ++ (δ ++ [.lst .o acc0])) → Q v H') : tLc (fun _ H R => R J H) gt tt0 te vs σ H1 Q := by
  intro Da hD
  have h2 : σ.length + τ.length = ρ1.length + δ.length := by have := g1.len; simpa using this
  obtain ⟨ω1', g1', t1'⟩ := new_lst (ds := []) (vs := []) g1 RepL.nil hD
  have hDa : a ≠ Da := fun z => by rw [z, hD] at ha; cases ha
  have ha1 : (upd H1 Da (.lst [])) a = some o := by rw [upd_ne hDa]; exact ha
  have hw1 : ω1' a = none := by
    cases ez : ω1' a with
    | none => rfl
    | some p =>
      rcases t1'.fnew a (by rw [ez]; simp) with z | z
      · rw [ha] at z; cases z
      · exact absurd hw z
  refine ⟨fun i n H2 => n = ds.length - i ∧ i ≤ ds.length ∧ ∃ G2 ω2 ρ3 acc, Tr ω1' ω2 G1 (upd H1 Da (.lst [])) G2 H2 ∧ Good X.K G2 H2 ω2 (wipe σ vs ++ (τ ++ [some (.ref Da)])) (ρ3 ++ (δ ++ [.lst .o acc])) ∧ compGo vs tt t m (ds.drop i) ρ3 acc = some (acc0, ρ2),
    ⟨ds.length, by simp, Nat.zero_le _, G1, ω1', _, [], Tr.refl, g1'.wipe hl1 vs, e2⟩, ?_⟩
  rintro i n H2 ⟨rfl, hi, G2, ω2, ρ3, acc, t2, g2, e3⟩
  have hy := hY i G2 H2 t2.gs g2.same (t2.keep _ _ ha1 hw1)
  have hl3 : (wipe σ vs).length = ρ3.length := by
    have a1 := g2.len
    simp only [List.length_append, wipe_length, List.length_cons, List.length_nil] at a1 ⊢
    omega
  by_cases hlt : i < ds.length
  · have hd : ds[i]? = some ds[i] := List.getElem?_eq_getElem hlt
    rw [List.drop_eq_getElem_cons hlt] at e3
    unfold compGo at e3
    obtain ⟨go, yl⟩ := hy.2 _ hd
    refine .inr ⟨go, fun H3 => ∃ G3 ω3 ρ4 acc', Tr ω1' ω3 G1 (upd H1 Da (.lst [])) G3 H3 ∧ Good X.K G3 H3 ω3 (wipe σ vs ++ (τ ++ [some (.ref Da)])) (ρ4 ++ (δ ++ [.lst .o acc'])) ∧ compGo vs tt t m (ds.drop (i + 1)) ρ4 acc' = some (acc0, ρ2), fun H3 h => ⟨ds.length - (i + 1), by omega, rfl, hlt, h⟩, fun x H3 hx => ?_⟩
    obtain ⟨rfl, hr⟩ := yl x H3 hx
    have g3 := g2
    have t3 : Tr ω2 ω2 G2 H3 G2 H3 := Tr.refl
    split at e3
    · rename_i ρ4 e4
      refine zg G2 H3 ω2 _ _ ρ3 _ ρ4 _ x _ hl3 g3 hr e4 fun σ4 n4 g4 p4 => ?_
      have w4 : wipe σ4 vs = wipe σ vs := by
        have w1 : wipe (wipe σ vs) vs = wipe σ vs := wipe_eq (by rw [wipe_length]) fun i hi => wipe_in hi
        rw [← w1]
        refine wipe_eq n4 fun i hi => ?_
        by_cases hiN : i < N
        · exact p4 i (hP i hiN hi)
        · rw [List.getElem?_eq_none (by rw [n4, wipe_length]; omega), List.getElem?_eq_none (by rw [wipe_length]; omega)]
      have hl4 : σ4.length = ρ4.length := by
        have a1 := g4.len
        have a2 := g3.len
        simp only [List.length_append] at a1 a2
        omega
      refine ⟨w4, ?_⟩
      split at e3
      · rename_i ρ5 e5
        refine zt G2 H3 ω2 σ4 _ ρ4 _ true ρ5 _ hl4 g4 e5 fun G5 H5 ω5 t5 g5 => iteT ?_
        have hl5 : σ4.length = ρ5.length := g4.lenT g5 hl4
        split at e3
        · rename_i y ρ6 e6
          split at e3
          · rename_i hF
            refine ze G5 H5 ω5 σ4 _ ρ5 _ y ρ6 _ hl5 g5 e6 fun G6 H6 ω6 v t6 g6 => ?_
            have hl6 : σ4.length = ρ6.length := lens g5 g6 rfl hl5
            have hv := g6.last.2 hF.1
            have g7 := g6.drop1
            have hn : (ρ6 ++ (δ ++ [D.lst .o acc]))[ρ6.length + δ.length]? = some (.lst .o acc) := get_last _ _ _
            have hs : (σ4 ++ (τ ++ [some (V.ref Da)]))[ρ6.length + δ.length]? = some (some (.ref Da)) := by
              rw [show ρ6.length + δ.length = σ4.length + τ.length by omega]; exact get_last _ _ _
            rcases g7.sl _ _ hn with z | ⟨u, e7, h7⟩
            · cases z
            · rw [hs] at e7
              cases e7
              unfold Own at h7
              obtain ⟨a, xs, ea, z1, z2, z3⟩ := h7
              cases ea
              refine ⟨xs, z1, by rw [← z3.length]; exact hF.2, ?_⟩
              obtain ⟨g8, t8⟩ := g7.write1 (o' := .lst (xs ++ [v])) (d' := .lst .o (acc ++ [y])) hs z2 (by
                unfold Own
                exact ⟨Da, xs ++ [v], rfl, upd_same, z2, z3.app (RepL.one hv)⟩)
              rw [set_last] at g8
              have g9 := g8.wipe hl6 vs
              rw [w4] at g9
              exact ⟨G6, ω6, _, _, t2.trans (t3.trans (t5.trans (t6.trans t8))), g9, e3⟩
          · cases e3
        · cases e3
      · rename_i ρ5 e5
        refine zt G2 H3 ω2 σ4 _ ρ4 _ false ρ5 _ hl4 g4 e5 fun G5 H5 ω5 t5 g5 => iteF ?_
        have hl5 : σ4.length = ρ5.length := g4.lenT g5 hl4
        have g9 := g5.wipe hl5 vs
        rw [w4] at g9
        exact ⟨G5, ω5, _, _, t2.trans (t3.trans t5), g9, e3⟩
      · cases e3
    · cases e3
  · have hn : i = ds.length := by omega
    subst hn
    rw [List.drop_length] at e3
    unfold compGo at e3
    cases e3
    refine .inl ⟨hy.1 rfl, q G2 H2 ω2 (.ref Da) (t1'.trans t2) (g2.rest g1 hl1 (by rw [wipe_length] at hl3; exact hl3) hok ?_)⟩
    exact t1'.gs.trans t2.gs
/-- [e for tg in x if ..] over the list that x owns; the loop can't read x -/
def lcT (i N : Nat) (vs : List Nat) (tt : D → Env → Option Env) (t : Env → Option (Bool × Env)) (m : Env → Option (D × Env)) : Env → Option (D × Env) := fun ρ => match rdS i ρ with
  | some (.lst .o ds) => (match lcM N vs (fun ρ => some (ds, ρ)) tt t m (ρ.set i .any) with
    | some (d, ρ') => some (d, ρ'.set i (.lst .o ds))
    | none => none)
  | _ => none
theorem lcT_sound {gt : TG} {tt0 : TT} {te : TE} {vs : List Nat} {N i : Nat}
    (zg : ∀ (G H : Hp) (ω : Ow) (σ τ : Sl) (ρ δ : List D) (ρ' : Env) (d : D) (v : V) (Q : St → Hp → Prop), σ.length = ρ.length → Good X.K G H ω (σ ++ τ) (ρ ++ δ) → Rep X.K G d v → tt d ρ = some ρ' → (∀ σ', σ'.length = σ.length → Good X.K G H ω (σ' ++ τ) (ρ' ++ δ) → Prot P σ σ' → Q σ' H) → gt v σ H Q)
    (zt : ∀ (G H : Hp) (ω : Ow) (σ τ : Sl) (ρ δ : List D) (b : Bool) (ρ' : Env) (Q : Bool → Hp → Prop), σ.length = ρ.length → Good X.K G H ω (σ ++ τ) (ρ ++ δ) → t ρ = some (b, ρ') → (∀ G' H' ω', Tr ω ω' G H G' H' → Good X.K G' H' ω' (σ ++ τ) (ρ' ++ δ) → Q b H') → tt0 σ H Q)
    (ze : ∀ (G H : Hp) (ω : Ow) (σ τ : Sl) (ρ δ : List D) (d : D) (ρ' : Env) (Q : VK), σ.length = ρ.length → Good X.K G H ω (σ ++ τ) (ρ ++ δ) → frzM m ρ = some (d, ρ') → (∀ G' H' ω' v, Tr ω ω' G H G' H' → Good X.K G' H' ω' (σ ++ (τ ++ [some v])) (ρ' ++ (δ ++ [d])) → Q v H') → te σ H Q)
    (hP : ∀ i, i < N → i ∉ vs → i ∈ P) {G H : Hp} {ω : Ow} {σ τ : Sl} {ρ δ : List D} {d : D} {ρ' : Env} {Q : VK} (hlN : σ.length = X.N.length → True) (hl : σ.length = ρ.length) (g : Good X.K G H ω (σ ++ τ) (ρ ++ δ)) (e : lcT i N vs tt t m ρ = some (d, ρ'))
    (q : ∀ G' H' ω' v, Tr ω ω' G H G' H' → Good X.K G' H' ω' (σ ++ (τ ++ [some v])) (ρ' ++ (δ ++ [d])) → Q v H') : tLc (iList X.K (tVar i)) gt tt0 te vs σ H Q := by
  unfold lcT at e
  split at e
  · rename_i ds e0
    split at e
    · rename_i d0 ρ3 e1
      cases e
      obtain ⟨e2, _⟩ := rdS_some e0
      have hi : i < ρ.length := (List.getElem?_eq_some_iff.mp e2).1
      obtain ⟨a, vs0, es, hH, hw, hG, hr, g1⟩ := g.lendTo (i := i) (ds := ds) (by rw [List.getElem?_append_left hi]; exact e2)
      rw [List.set_append_left _ _ hi] at g1
      rw [List.getElem?_append_left (by omega)] at es
      have oa : offO ω a a = none := by unfold offO; rw [if_pos rfl]
      unfold lcM at e1
      split at e1
      · rename_i hlen
        unfold compM at e1
        split at e1
        · rename_i ds1 ρ1 e4
          cases e4
          split at e1
          · rename_i hok
            split at e1
            · rename_i acc ρ2 e5
              cases e1
              refine ⟨.ref a, es, a, rfl, ⟨_, SqL.of hH⟩, ?_⟩
              refine lc_soundO (N := N) zg zt ze hP (by rw [← hlen, List.length_set]; exact hl) (by rw [List.length_set]; exact hl) g1 hok e5 (yieldsP hr) hH oa fun G' H' ω' v t1 g2 => ?_
              have hlr : i < (restD (ρ.set i .any) ρ2 vs).length := by
                have := g2.len
                simp only [List.length_append, List.length_cons, List.length_nil] at this
                have h0 := g.len
                simp only [List.length_append] at h0
                omega
              obtain ⟨g3, t3⟩ := Good.give (i := i) (ds := ds) g2 t1 hH hw hG hr (by rw [List.getElem?_append_left (by omega)]; exact es)
              rw [List.set_append_left _ _ hlr] at g3
              exact q _ _ _ _ t3 g3
            · cases e1
          · cases e1
        · rename_i e4; cases e4
      · cases e1
    · cases e
  · cases e
theorem ev_lcT {x : Str} {px : Pos} {ifs : List Expr} {own : List (Str × Nat)} {pos : Pos} {i N : Nat} (hc : X.calm = true) (hN : X.N.Nodup) (hn : PE X (.Name x px) (tVar i)) (ok : BlkOk X.N X.env.scope scope own)
    (hg : ∀ c : CBlk X scope, TGD c.cx (notIn N (own.map (·.2))) tg tt) (ht : ∀ c : CBlk X scope, TsV c.cx ifs t) (he : ∀ c : CBlk X scope, EV c.cx e m) (hs : ∀ y, foldedSetIterable (.Name x px) X.env y = pure y := by intro _; rfl) :
    EV X (.ListComp e [⟨tg, .Name x px, ifs, 0⟩] scope pos) (lcT i N (own.map (·.2)) tt t m) := by
  obtain ⟨gt, pg, zg⟩ := TGD.all hg
  obtain ⟨tt0, pt, zt⟩ := TsV.all ht
  obtain ⟨te, pe, ze⟩ := EV.all fun c => ev_frz (he c)
  exact ⟨_, pe_lc hc hN (pi_list hn) ok (fun s H C cl fp => pg ⟨s, H, C, cl, fp⟩) (fun s H C cl fp => pt ⟨s, H, C, cl, fp⟩) (fun s H C cl fp => pe ⟨s, H, C, cl, fp⟩) hs, fun G H ω σ τ ρ δ d ρ' Q hl g e q =>
    lcT_sound (N := N) zg zt ze notIn_mem (fun _ => trivial) hl g e q⟩
/-- two clauses, where no x passes the tests -/
theorem ev_lcT2n {x : Str} {px : Pos} {elt tg1 iter1 : Expr} {ifs ifs1 : List Expr} {own : List (Str × Nat)} {pos : Pos} {i N : Nat} (hc : X.calm = true) (hN : X.N.Nodup) (hn : PE X (.Name x px) (tVar i)) (ok : BlkOk X.N X.env.scope scope own)
    (hg : ∀ c : CBlk X scope, TGD c.cx (notIn N (own.map (·.2))) tg tt) (ht : ∀ c : CBlk X scope, TsV c.cx ifs t) (hs : ∀ y, foldedSetIterable (.Name x px) X.env y = pure y := by intro _; rfl) (hs1 : ∀ env x, foldedSetIterable iter1 env x = pure x := by intro _ _; rfl) :
    EV X (.ListComp elt [⟨tg, .Name x px, ifs, 0⟩, ⟨tg1, iter1, ifs1, 0⟩] scope pos) (lcT i N (own.map (·.2)) tt t (fun _ => none)) := by
  obtain ⟨gt, pg, zg⟩ := TGD.all hg
  obtain ⟨tt0, pt, zt⟩ := TsV.all ht
  refine ⟨_, pe_lc2 (vs1 := []) (wi1 := fun _ _ _ => False) (g1 := fun _ _ _ _ => False) (tt1 := fun _ _ _ => False) (te := fun _ _ _ => False) hc hN (pi_list hn) ok (by intro i h; cases h) (fun s H C cl fp => pg ⟨s, H, C, cl, fp⟩) (fun s H C cl fp => pt ⟨s, H, C, cl, fp⟩)
    (fun s H C cl fp => ⟨fun _ _ _ _ _ _ h => h.elim⟩) (fun s H C cl fp => ⟨fun _ _ _ _ _ _ _ _ _ h => h.elim⟩) (fun s H C cl fp => ⟨fun _ _ _ _ _ _ h => h.elim⟩) (fun s H C cl fp => ⟨fun _ _ _ _ _ _ h => h.elim⟩) hs hs1, fun G H ω σ τ ρ δ d ρ' Q hl g e q => ?_⟩
  exact lcT_sound (te := fun _ _ _ => False) (N := N) zg zt (fun _ _ _ _ _ _ _ _ _ _ _ _ e _ => by cases e) notIn_mem (fun _ => trivial) hl g e q
end
end CW

namespace CW
open PySem hiding Env
open L2
/-! ### the meanings, one step each -/
section
variable {α : Type} {i j n N : Nat} {ρ ρ' : Env} {d x y : D} {F : D → D → Option D} {f g h : Env → Option D} {m ma mb : Env → Option (D × Env)} {ms : Env → Option (List D × Env)} {s s' : Env → Option Res} {t t' : Env → Option (Bool × Env)} {tb tc : Env → Option Bool} {tt : D → Env → Option Env}
@[simp] theorem x_rdS : rdS i ρ = (match ρ[i]? with | some .any => none | r => r) := id rfl
@[simp] theorem x_cst : cst d ρ = some d := id rfl
@[simp] theorem x_op2 : op2 F f g ρ = (match f ρ with | some x => (match g ρ with | some y => F x y | none => none) | none => none) := id rfl
@[simp] theorem x_opI {C : Int → Int → Bool} {k : Int → Int → D} {a b : Int} : opI C k (.int a) (.int b) = if C a b = true then some (k a b) else none := id rfl
@[simp] theorem x_un1 {u : D → Option D} : un1 u f ρ = (match f ρ with | some x => u x | none => none) := id rfl
@[simp] theorem x_negI {a : Int} : negI (.int a) = some (.int (-a)) := id rfl
@[simp] theorem x_asB : asB f ρ = (match f ρ with | some (.bl c) => some c | _ => none) := id rfl
@[simp] theorem x_eqD_int {a b : Int} : eqD (.int a) (.int b) = some (.bl (decide (a = b))) := id rfl
@[simp] theorem x_neD_int {a b : Int} : neD (.int a) (.int b) = some (.bl (!decide (a = b))) := id rfl
@[simp] theorem x_eqD_str {a b : Str} : eqD (.str a) (.str b) = some (.bl (decide (a = b))) := id rfl
@[simp] theorem x_neD_str {a b : Str} : neD (.str a) (.str b) = some (.bl (!decide (a = b))) := id rfl
@[simp] theorem x_isNo_non : isNo .non .non = some (.bl true) := id rfl
@[simp] theorem x_isNo_int {a : Int} : isNo (.int a) .non = some (.bl false) := id rfl
@[simp] theorem x_isNo_tup {a : List D} : isNo (.tup a) .non = some (.bl false) := id rfl
@[simp] theorem x_isNo_bl {a : Bool} : isNo (.bl a) .non = some (.bl false) := id rfl
@[simp] theorem x_isNo_str {a : Str} : isNo (.str a) .non = some (.bl false) := id rfl
@[simp] theorem x_notNo_non : notNo .non .non = some (.bl false) := id rfl
@[simp] theorem x_notNo_int {a : Int} : notNo (.int a) .non = some (.bl true) := id rfl
@[simp] theorem x_notNo_tup {a : List D} : notNo (.tup a) .non = some (.bl true) := id rfl
@[simp] theorem x_vQ : vQ f ρ = (match f ρ with | some d => if isF d = true then some (d, ρ) else none | none => none) := id rfl
@[simp] theorem x_isF_int {a : Int} : isF (.int a) = true := id rfl
@[simp] theorem x_isF_non : isF .non = true := id rfl
@[simp] theorem x_isF_bl {a : Bool} : isF (.bl a) = true := id rfl
@[simp] theorem x_isF_str {a : Str} : isF (.str a) = true := id rfl
@[simp] theorem x_isF_tup {a : List D} : isF (.tup a) = true := id rfl
@[simp] theorem x_isF_lf {a : List D} : isF (.lst .f a) = true := id rfl
@[simp] theorem x_isF_lx {a : List D} : isF (.lst .x a) = true := id rfl
@[simp] theorem x_isF_lo {a : List D} : isF (.lst .o a) = false := id rfl
@[simp] theorem x_frz_int {a : Int} : frz (.int a) = some (.int a) := id rfl
@[simp] theorem x_frz_non : frz .non = some .non := id rfl
@[simp] theorem x_frz_bl {a : Bool} : frz (.bl a) = some (.bl a) := id rfl
@[simp] theorem x_frz_str {a : Str} : frz (.str a) = some (.str a) := id rfl
@[simp] theorem x_frz_tup {a : List D} : frz (.tup a) = some (.tup a) := id rfl
@[simp] theorem x_frz_lo {a : List D} : frz (.lst .o a) = some (.lst .f a) := id rfl
@[simp] theorem x_frz_lf {a : List D} : frz (.lst .f a) = some (.lst .f a) := id rfl
@[simp] theorem x_frz_lx {a : List D} : frz (.lst .x a) = some (.lst .x a) := id rfl
@[simp] theorem x_nmM : nmM i ρ = (match rdS i ρ with | some d => (match frz d with | some d' => some (d', ρ.set i d') | none => none) | none => none) := id rfl
@[simp] theorem x_mvM : mvM i ρ = (match rdS i ρ with | some d => some (d, ρ.set i .any) | none => none) := id rfl
@[simp] theorem x_frzM : frzM m ρ = (match m ρ with | some (d, ρ') => (match frz d with | some d' => some (d', ρ') | none => none) | none => none) := id rfl
@[simp] theorem x_nilM : nilM ρ = some ([], ρ) := id rfl
@[simp] theorem x_consM : consM m ms ρ = (match m ρ with | some (d, ρ') => (match ms ρ' with | some (ds, ρ'') => some (d :: ds, ρ'') | none => none) | none => none) := id rfl
@[simp] theorem x_tupM : tupM ms ρ = (match ms ρ with | some (ds, ρ') => if ds.all isF = true then some (.tup ds, ρ') else none | none => none) := id rfl
@[simp] theorem x_lstM : lstM ms ρ = (match ms ρ with | some (ds, ρ') => if ds.all isF = true then some (.lst .o ds, ρ') else none | none => none) := id rfl
@[simp] theorem x_op2M : op2M F ma mb ρ = (match ma ρ with | some (x, ρ1) => (match mb ρ1 with | some (y, ρ2) => (match F x y with | some d => if isF d = true then some (d, ρ2) else none | none => none) | none => none) | none => none) := id rfl
@[simp] theorem x_opN {F : D → D → Option (List D)} : opN F ma mb ρ = (match ma ρ with | some (x, ρ1) => (match mb ρ1 with | some (y, ρ2) => (match F x y with | some ds => some (.lst .o ds, ρ2) | none => none) | none => none) | none => none) := id rfl
@[simp] theorem x_opT {F : D → D → Option (List D)} : opT F ma mb ρ = (match ma ρ with | some (x, ρ1) => (match mb ρ1 with | some (y, ρ2) => (match F x y with | some ds => some (.tup ds, ρ2) | none => none) | none => none) | none => none) := id rfl
@[simp] theorem x_nilC : nilC ρ = some ([], ρ) := id rfl
@[simp] theorem x_consC {mo : Env → Option (List Opd × Env)} : consC m mo ρ = (match m ρ with | some (d, ρ') => (match mo ρ' with | some (ds, ρ'') => some (.v d :: ds, ρ'') | none => none) | none => none) := id rfl
@[simp] theorem x_lendC {mo : Env → Option (List Opd × Env)} : lendC i mo ρ = (match rdS i ρ with | some d => (match mo ρ with | some (ds, ρ'') => some (.s i :: ds, ρ'') | none => none) | none => none) := id rfl
@[simp] theorem x_callM {F : List D → Option (D × List D)} {mo : Env → Option (List Opd × Env)} : callM F mo ρ = (match mo ρ with
  | some (os, ρ1) => (match takeAll os ρ1 with
    | some (ds, ρ2) => (match F ds with
      | some (d, outs) => if outs.length = ds.length then some (d, putAll os outs ρ2) else none
      | none => none)
    | none => none)
  | none => none) := id rfl
@[simp] theorem x_take0 : takeAll [] ρ = some ([], ρ) := id rfl
@[simp] theorem x_takev {os : List Opd} : takeAll (.v d :: os) ρ = (match takeAll os ρ with | some (ds, ρ') => some (d :: ds, ρ') | none => none) := id rfl
@[simp] theorem x_takes {os : List Opd} : takeAll (.s i :: os) ρ = (match rdS i ρ with | some d => (match takeAll os (ρ.set i .any) with | some (ds, ρ') => some (d :: ds, ρ') | none => none) | none => none) := id rfl
@[simp] theorem x_put0 {ds : List D} : putAll [] ds ρ = ρ := by cases ds <;> rfl
@[simp] theorem x_putv {os : List Opd} {ds : List D} : putAll (.v x :: os) (d :: ds) ρ = putAll os ds ρ := id rfl
@[simp] theorem x_puts {os : List Opd} {ds : List D} : putAll (.s i :: os) (d :: ds) ρ = putAll os ds (ρ.set i d) := id rfl
@[simp] theorem x_seqM : seqM s s' ρ = (match s ρ with | some (.nx ρ') => s' ρ' | r => r) := id rfl
@[simp] theorem x_skipM : skipM ρ = some (.nx ρ) := id rfl
@[simp] theorem x_setM : setM i m ρ = (match m ρ with | some (d, ρ') => some (.nx (ρ'.set i d)) | none => none) := id rfl
@[simp] theorem x_dropM : dropM m ρ = (match m ρ with | some (_, ρ') => some (.nx ρ') | none => none) := id rfl
@[simp] theorem x_retM : retM m ρ = (match m ρ with | some (d, ρ') => some (.rt d ρ') | none => none) := id rfl
@[simp] theorem x_retNM : retNM ρ = some (.rt .non ρ) := id rfl
@[simp] theorem x_qB : qB tb ρ = (tb ρ).map fun b => (b, ρ) := id rfl
@[simp] theorem x_truthM : truthM m ρ = (match m ρ with | some (d, ρ') => (truthD d).map fun b => (b, ρ') | none => none) := id rfl
@[simp] theorem x_bindB {u : D → Option Bool} : bindB f u ρ = (match f ρ with | some d => u d | none => none) := by unfold bindB; cases f ρ <;> rfl
@[simp] theorem x_notB : notB tb ρ = (tb ρ).map not := id rfl
@[simp] theorem x_andB : andB tb tc ρ = (match tb ρ with | some true => tc ρ | r => r) := id rfl
@[simp] theorem x_orB : orB tb tc ρ = (match tb ρ with | some false => tc ρ | r => r) := id rfl
@[simp] theorem x_andV : andV f g ρ = (match f ρ with | some (.bl true) => g ρ | some (.bl false) => some (.bl false) | _ => none) := id rfl
@[simp] theorem x_orV : orV f g ρ = (match f ρ with | some (.bl false) => g ρ | some (.bl true) => some (.bl true) | _ => none) := id rfl
@[simp] theorem x_notD {b : Bool} : notD (.bl b) = some (.bl (!b)) := id rfl
@[simp] theorem x_notM : notM t ρ = (t ρ).map fun p => (!p.1, p.2) := id rfl
@[simp] theorem x_andM : andM t t' ρ = (match t ρ with | some (true, ρ') => t' ρ' | r => r) := id rfl
@[simp] theorem x_orT : orT t t' ρ = (match t ρ with | some (false, ρ') => t' ρ' | r => r) := id rfl
@[simp] theorem x_cmpM : cmpM F ma mb ρ = (match op2M F ma mb ρ with | some (.bl c, ρ') => some (c, ρ') | _ => none) := id rfl
@[simp] theorem x_ifM {u v : Env → Option α} : ifM t u v ρ = (match t ρ with | some (true, ρ') => u ρ' | some (false, ρ') => v ρ' | none => none) := id rfl
@[simp] theorem x_ifD {u v : Env → Option α} : ifD tb u v ρ = (match tb ρ with | some true => u ρ | some false => v ρ | none => none) := id rfl
@[simp] theorem x_truth_int {a : Int} : truthD (.int a) = some (a != 0) := id rfl
@[simp] theorem x_truth_bl {b : Bool} : truthD (.bl b) = some b := id rfl
@[simp] theorem x_truth_non : truthD .non = some false := id rfl
@[simp] theorem x_truth_tup {a : List D} : truthD (.tup a) = some (!a.isEmpty) := id rfl
@[simp] theorem x_truth_lst {q : Md} {a : List D} : truthD (.lst q a) = some (!a.isEmpty) := id rfl
@[simp] theorem x_len_lst {q : Md} {a : List D} : lenD (.lst q a) = some (.int a.length) := id rfl
@[simp] theorem x_len_tup {a : List D} : lenD (.tup a) = some (.int a.length) := id rfl
@[simp] theorem x_int_int {a : Int} : intD (.int a) = some (.int a) := id rfl
@[simp] theorem x_items_lst {q : Md} {a : List D} : itemsD (.lst q a) = some a := id rfl
@[simp] theorem x_items_tup {a : List D} : itemsD (.tup a) = some a := id rfl
@[simp] theorem x_ix_lst {q : Md} {a : List D} {k : Int} : ixD (.lst q a) (.int k) = (match atI a k with | some .any => none | r => r) := id rfl
@[simp] theorem x_ix_tup {a : List D} {k : Int} : ixD (.tup a) (.int k) = (match atI a k with | some .any => none | r => r) := id rfl
@[simp] theorem x_ixK {q : Md} {ks : List Key} {ds : List D} {k : D} : ixK (.dic q ks ds) k = (match keyD k with | some k => (match lk k ks ds with | some .any => none | r => r) | none => none) := id rfl
@[simp] theorem x_key_int {a : Int} : keyD (.int a) = some (.inl a) := id rfl
@[simp] theorem x_key_str {a : Str} : keyD (.str a) = some (.inr a) := id rfl
@[simp] theorem x_inS {x y : D} : inS x y = (match itemsD y with | some ds => inB x ds | none => none) := id rfl
@[simp] theorem x_posD {u : D → D → Option Bool} : posD u x y = (u x y).map .bl := id rfl
@[simp] theorem x_negD {u : D → D → Option Bool} : negD u x y = (u x y).map fun b => .bl (!b) := id rfl
@[simp] theorem x_lstW : lstW m ρ = (match m ρ with | some (.lst q ds, ρ') => if q ≠ .o then some (ds, ρ') else none | _ => none) := by
  unfold lstW; rfl
@[simp] theorem x_tupW : tupW m ρ = (match m ρ with | some (.tup ds, ρ') => some (ds, ρ') | _ => none) := by
  unfold tupW; rfl
@[simp] theorem x_rng1W : rng1W f ρ = (match f ρ with | some (.int j) => if -(2 ^ 62) ≤ j ∧ j < 2 ^ 62 then some (rngD 0 j.toNat, ρ) else none | _ => none) := id rfl
@[simp] theorem x_rng1VW : rng1VW m ρ = (match m ρ with | some (.int j, ρ') => if -(2 ^ 62) ≤ j ∧ j < 2 ^ 62 then some (rngD 0 j.toNat, ρ') else none | _ => none) := id rfl
@[simp] theorem x_rng2W : rng2W f g ρ = (match f ρ, g ρ with | some (.int i), some (.int j) => if (-(2 ^ 62) ≤ i ∧ i < 2 ^ 62) ∧ -(2 ^ 62) ≤ j ∧ j < 2 ^ 62 then some (rngD i (j - i).toNat, ρ) else none | _, _ => none) := id rfl
@[simp] theorem x_forS : forS ms tt s ρ = (match ms ρ with | some (ds, ρ') => forM tt s ds ρ' | none => none) := id rfl
@[simp] theorem x_nameT : nameT i d ρ = if i < ρ.length then some (ρ.set i d) else none := id rfl
@[simp] theorem x_nilT : nilT [] ρ = some ρ := id rfl
@[simp] theorem x_consT {ds : List D} {u : List D → Env → Option Env} : consT tt u (d :: ds) ρ = (match tt d ρ with | some ρ' => u ds ρ' | none => none) := id rfl
@[simp] theorem x_tupT {ds : List D} {u : List D → Env → Option Env} : tupT n u (.tup ds) ρ = if ds.length = n then u ds ρ else none := id rfl
@[simp] theorem x_b1N {u : D → Option (List D)} : b1N u m ρ = (match m ρ with | some (d, ρ') => (match u d with | some ds => some (.lst .o ds, ρ') | none => none) | none => none) := id rfl
@[simp] theorem x_b1T {u : D → Option (List D)} : b1T u m ρ = (match m ρ with | some (d, ρ') => (match u d with | some ds => some (.tup ds, ρ') | none => none) | none => none) := id rfl
@[simp] theorem x_b1NQ {u : D → Option (List D)} : b1NQ u f ρ = (match f ρ with | some d => (match u d with | some ds => some (.lst .o ds, ρ) | none => none) | none => none) := id rfl
@[simp] theorem x_b1TQ {u : D → Option (List D)} : b1TQ u f ρ = (match f ρ with | some d => (match u d with | some ds => some (.tup ds, ρ) | none => none) | none => none) := id rfl
@[simp] theorem x_cat {q q' : Md} {a b : List D} : catD (.lst q a) (.lst q' b) = if q ≠ .x ∧ q' ≠ .x ∧ a.length + b.length ≤ 16777216 then some (a ++ b) else none := id rfl
@[simp] theorem x_rep {q : Md} {a : List D} {k : Int} : repD (.lst q a) (.int k) = if q ≠ .x ∧ -(2 ^ 63) ≤ k ∧ k < 2 ^ 63 ∧ a.length * k.toNat ≤ 16777216 then some (List.replicate k.toNat a).flatten else none := id rfl
@[simp] theorem x_appM : appM i m ρ = (match rdS i ρ with
  | some (.lst .o _) => (match frzM m ρ with
    | some (d, ρ1) => (match rdS i ρ1 with
      | some (.lst .o ds) => if isF d = true ∧ ds.length < 16777216 then some (.non, ρ1.set i (.lst .o (ds ++ [d]))) else none
      | _ => none)
    | none => none)
  | _ => none) := id rfl
@[simp] theorem x_sub1M {k : Env → Option D} : sub1M i k m ρ = (match frzM m ρ with
  | some (d, ρ1) => (match rdS i ρ1, k ρ1 with
    | some c, some jd => (match setAtD c jd d with
      | some c' => some (.nx (ρ1.set i c'))
      | none => none)
    | _, _ => none)
  | none => none) := id rfl
@[simp] theorem x_setAt_lst {a : List D} {k : Int} : setAtD (.lst .o a) (.int k) d = (setAtL a k d).map (.lst .o) := id rfl
@[simp] theorem x_fnM {P : List Nat} {ds : List D} : fnM N n P s ds = if ds.length = n then (match s (ds ++ List.replicate (N - n) .any) with
  | some (.rt d ρ) => if ρ.length = N then some (d, outsP P n ρ) else none
  | some (.nx ρ) => if ρ.length = N then some (.non, outsP P n ρ) else none
  | _ => none) else none := id rfl
@[simp] theorem x_atI0 {α : Type} {x : α} {l : List α} : atI (x :: l) 0 = some x := by simp [atI, ixN]
theorem atI_of {α : Type} {l : List α} {k : Nat} {x : α} (h : l[k]? = some x) : atI l (k : Int) = some x := by
  have hl : k < l.length := (List.getElem?_eq_some_iff.mp h).1
  unfold atI ixN
  rw [if_pos (by omega), if_pos (by omega)]
  simpa using h
@[simp] theorem x_atI1 {α : Type} {x y : α} {l : List α} : atI (x :: y :: l) 1 = some y := atI_of (k := 1) rfl
@[simp] theorem x_atI2 {α : Type} {x y z : α} {l : List α} : atI (x :: y :: z :: l) 2 = some z := atI_of (k := 2) rfl
@[simp] theorem x_atI3 {α : Type} {x y z u : α} {l : List α} : atI (x :: y :: z :: u :: l) 3 = some u := atI_of (k := 3) rfl
@[simp] theorem x_atI4 {α : Type} {x y z u v : α} {l : List α} : atI (x :: y :: z :: u :: v :: l) 4 = some v := atI_of (k := 4) rfl
@[simp] theorem x_atI5 {α : Type} {x y z u v w : α} {l : List α} : atI (x :: y :: z :: u :: v :: w :: l) 5 = some w := atI_of (k := 5) rfl
@[simp] theorem x_outs0 {P : List Nat} : outsP P 0 ρ = [] := id rfl
@[simp] theorem x_outs1 {P : List Nat} : outsP P 1 ρ = [if P.contains 0 = true then (ρ[0]?).getD .any else .any] := id rfl
@[simp] theorem x_outs2 {P : List Nat} : outsP P 2 ρ = [if P.contains 0 = true then (ρ[0]?).getD .any else .any, if P.contains 1 = true then (ρ[1]?).getD .any else .any] := id rfl
@[simp] theorem x_outs3 {P : List Nat} : outsP P 3 ρ = [if P.contains 0 = true then (ρ[0]?).getD .any else .any, if P.contains 1 = true then (ρ[1]?).getD .any else .any, if P.contains 2 = true then (ρ[2]?).getD .any else .any] := id rfl
@[simp] theorem x_outs4 {P : List Nat} : outsP P 4 ρ = [if P.contains 0 = true then (ρ[0]?).getD .any else .any, if P.contains 1 = true then (ρ[1]?).getD .any else .any, if P.contains 2 = true then (ρ[2]?).getD .any else .any, if P.contains 3 = true then (ρ[3]?).getD .any else .any] := id rfl
@[simp] theorem x_outs5 {P : List Nat} : outsP P 5 ρ = [if P.contains 0 = true then (ρ[0]?).getD .any else .any, if P.contains 1 = true then (ρ[1]?).getD .any else .any, if P.contains 2 = true then (ρ[2]?).getD .any else .any, if P.contains 3 = true then (ρ[3]?).getD .any else .any, if P.contains 4 = true then (ρ[4]?).getD .any else .any] := id rfl
@[simp] theorem x_outs6 {P : List Nat} : outsP P 6 ρ = [if P.contains 0 = true then (ρ[0]?).getD .any else .any, if P.contains 1 = true then (ρ[1]?).getD .any else .any, if P.contains 2 = true then (ρ[2]?).getD .any else .any, if P.contains 3 = true then (ρ[3]?).getD .any else .any, if P.contains 4 = true then (ρ[4]?).getD .any else .any, if P.contains 5 = true then (ρ[5]?).getD .any else .any] := id rfl
@[simp] theorem x_setAtL0 {x : D} {l : List D} : setAtL (x :: l) 0 d = if isF d = true then some (d :: l) else none := by simp [setAtL, ixN]
@[simp] theorem x_setAtL1 {x y : D} {l : List D} : setAtL (x :: y :: l) 1 d = if isF d = true then some (x :: d :: l) else none := by
  have : (1 : Int) < (l.length : Int) + 1 + 1 := by omega
  simp [setAtL, ixN, this]
@[simp] theorem x_un1M {u : D → Option D} : un1M u m ρ = (match m ρ with | some (x, ρ') => (match u x with | some d => if isF d = true then some (d, ρ') else none | none => none) | none => none) := id rfl
@[simp] theorem x_popAtV : popAtV i m ρ = (match rdS i ρ with
  | some (.lst .o _) => (match m ρ with
    | some (.int j, ρ1) => (match rdS i ρ1 with
      | some (.lst .o ds) => if 0 ≤ j ∧ j < ds.length ∧ ds.length ≤ 16777216 then (match ds[j.toNat]? with
        | some d => if isF d = true then some (d, ρ1.set i (.lst .o (ds.eraseIdx j.toNat))) else none
        | none => none) else none
      | _ => none)
    | _ => none)
  | _ => none) := id rfl
@[simp] theorem x_popM : popM i ρ = (match rdS i ρ with
  | some (.lst .o ds) => (match ds[ds.length - 1]? with
    | some d => if isF d = true then some (d, ρ.set i (.lst .o ds.dropLast)) else none
    | none => none)
  | _ => none) := id rfl
@[simp] theorem x_dict0 : dict0M ρ = some (.dic .o [] [], ρ) := id rfl
@[simp] theorem x_extM : extM i m ρ = (match rdS i ρ with
  | some (.lst .o _) => (match m ρ with
    | some (.lst md es, ρ1) => (match rdS i ρ1 with
      | some (.lst .o ds) => if md ≠ .x ∧ ds.length + es.length ≤ 16777216 then some (.non, ρ1.set i (.lst .o (ds ++ es))) else none
      | _ => none)
    | _ => none)
  | _ => none) := id rfl
@[simp] theorem x_setAt_dic {ks : List Key} {ds : List D} {k : D} : setAtD (.dic .o ks ds) k d = (match keyD k with
    | some k => if isF d = true ∧ ks.length < 16777216 then some (.dic .o (putKD ks ds k d).1 (putKD ks ds k d).2) else none
    | none => none) := id rfl
@[simp] theorem x_sliceQ {lo hi : Env → Option (Option Int)} : sliceQ f lo hi ρ = (match f ρ with
  | some d => (match lo ρ, hi ρ with
    | some l, some h => (match sliceD d l h with
      | some d' => some (d', ρ)
      | none => none)
    | _, _ => none)
  | none => none) := id rfl
@[simp] theorem x_someO : someO f ρ = (match f ρ with | some (.int i) => some (some i) | _ => none) := id rfl
@[simp] theorem x_slice_lst {q : Md} {a : List D} {l h : Option Int} : sliceD (.lst q a) l h = some (.lst .o (cutL a l h)) := id rfl
@[simp] theorem x_slice_tup {a : List D} {l h : Option Int} : sliceD (.tup a) l h = some (.tup (cutL a l h)) := id rfl
end
end CW

namespace CW
open PySem hiding Env
open L2
/-- one turn of a loop -/
def turnM (t : D → Env → Option Env) (s : Env → Option Res) (d : D) (ρ : Env) : Option Res := match t d ρ with
  | some ρ1 => s ρ1
  | none => none
theorem forM_cons {t : D → Env → Option Env} {s : Env → Option Res} {d : D} {ds : List D} {ρ ρ' : Env} (h : turnM t s d ρ = some (.nx ρ')) : forM t s (d :: ds) ρ = forM t s ds ρ' := by
  unfold turnM at h
  split at h
  · rename_i ρ1 e
    rw [forM, e]
    simp only [h]
  · cases h
theorem forM_ret {t : D → Env → Option Env} {s : Env → Option Res} {d r : D} {ds : List D} {ρ ρ' : Env} (h : turnM t s d ρ = some (.rt r ρ')) : forM t s (d :: ds) ρ = some (.rt r ρ') := by
  unfold turnM at h
  split at h
  · rename_i ρ1 e
    rw [forM, e]
    simp only [h]
  · cases h
theorem forM_inv {t : D → Env → Option Env} {s : Env → Option Res} (I : Nat → Env → Prop) : ∀ (ds : List D) (k : Nat) (ρ : Env), I k ρ → (∀ (j : Nat) (d : D) (ρ : Env), ds[j]? = some d → I (k + j) ρ → ∃ ρ2, turnM t s d ρ = some (.nx ρ2) ∧ I (k + j + 1) ρ2) → ∃ ρ', forM t s ds ρ = some (.nx ρ') ∧ I (k + ds.length) ρ'
  | [], k, ρ, h, _ => ⟨ρ, rfl, h⟩
  | d :: ds, k, ρ, h, hs => by
    obtain ⟨ρ2, e, h2⟩ := hs 0 d ρ rfl h
    rw [forM_cons e]
    obtain ⟨ρ', e', h'⟩ := forM_inv I ds (k + 1) ρ2 h2 fun j d ρ hd hI => by
      have := hs (j + 1) d ρ (by simpa using hd) (by rw [show k + (j + 1) = k + 1 + j by omega]; exact hI)
      rw [show k + 1 + j + 1 = k + (j + 1) + 1 by omega]
      exact this
    exact ⟨ρ', e', by rw [List.length_cons, show k + (ds.length + 1) = k + 1 + ds.length by omega]; exact h'⟩
theorem rng_get {lo : Int} {n j : Nat} {d : D} (h : (rngD lo n)[j]? = some d) : j < n ∧ d = .int (lo + j) := by
  unfold rngD at h
  rw [List.getElem?_map] at h
  have hj : j < n := by
    have := List.getElem?_eq_some_iff.mp (Option.map_eq_some_iff.mp h).choose_spec.1
    simpa using this.1
  rw [List.getElem?_range hj] at h
  exact ⟨hj, (Option.some.inj h).symm⟩
theorem rng_len {lo : Int} {n : Nat} : (rngD lo n).length = n := by simp [rngD]
/-- a loop over range -/
theorem forM_rng {t : D → Env → Option Env} {s : Env → Option Res} (I : Nat → Env → Prop) {lo : Int} {n : Nat} {ρ : Env} (h : I 0 ρ) (hs : ∀ (j : Nat) (ρ : Env), j < n → I j ρ → ∃ ρ2, turnM t s (.int (lo + j)) ρ = some (.nx ρ2) ∧ I (j + 1) ρ2) :
    ∃ ρ', forM t s (rngD lo n) ρ = some (.nx ρ') ∧ I n ρ' := by
  obtain ⟨ρ', e, h'⟩ := forM_inv I (rngD lo n) 0 ρ h fun j d ρ hd hI => by
    obtain ⟨hj, rfl⟩ := rng_get hd
    rw [Nat.zero_add] at hI ⊢
    exact hs j ρ hj hI
  rw [rng_len, Nat.zero_add] at h'
  exact ⟨ρ', e, h'⟩
@[simp] theorem x_turnM {t : D → Env → Option Env} {s : Env → Option Res} {d : D} {ρ : Env} : turnM t s d ρ = (match t d ρ with | some ρ1 => s ρ1 | none => none) := id rfl
/-- one turn of a comprehension -/
theorem compGo_cons {vs : List Nat} {tt : D → Env → Option Env} {t : Env → Option (Bool × Env)} {m : Env → Option (D × Env)} {d x : D} {ds acc : List D} {ρ ρ1 ρ2 ρ3 : Env} (h1 : tt d ρ = some ρ1) (h2 : t ρ1 = some (true, ρ2)) (h3 : m ρ2 = some (x, ρ3)) (hx : isF x = true) (ha : acc.length < 16777216) :
    compGo vs tt t m (d :: ds) ρ acc = compGo vs tt t m ds (wipeD ρ3 vs) (acc ++ [x]) := by
  rw [compGo, h1]
  simp only [h2, h3, hx, ha, and_self, if_true]
theorem compGo_skip {vs : List Nat} {tt : D → Env → Option Env} {t : Env → Option (Bool × Env)} {m : Env → Option (D × Env)} {d : D} {ds acc : List D} {ρ ρ1 ρ2 : Env} (h1 : tt d ρ = some ρ1) (h2 : t ρ1 = some (false, ρ2)) :
    compGo vs tt t m (d :: ds) ρ acc = compGo vs tt t m ds (wipeD ρ2 vs) acc := by
  rw [compGo, h1]
  simp only [h2]
/-- a comprehension that leaves the frame as it was -/
theorem compGo_fix {vs : List Nat} {tt : D → Env → Option Env} {t : Env → Option (Bool × Env)} {m : Env → Option (D × Env)} {ρ : Env} (f : D → Option D) :
    ∀ (ds acc : List D), acc.length + ds.length ≤ 16777216 → (∀ d ∈ ds, ∃ ρ1 ρ2, tt d ρ = some ρ1 ∧ (match f d with
      | some x => t ρ1 = some (true, ρ2) ∧ isF x = true ∧ ∃ ρ3, m ρ2 = some (x, ρ3) ∧ wipeD ρ3 vs = ρ
      | none => t ρ1 = some (false, ρ2) ∧ wipeD ρ2 vs = ρ)) →
    compGo vs tt t m ds ρ acc = some (acc ++ ds.filterMap f, ρ)
  | [], acc, _, _ => by simp [compGo]
  | d :: ds, acc, hl, h => by
    obtain ⟨ρ1, ρ2, h1, h2⟩ := h d List.mem_cons_self
    simp only [List.length_cons] at hl
    cases hf : f d with
    | some x =>
      rw [hf] at h2
      obtain ⟨h2, hx, ρ3, h3, hw⟩ := h2
      rw [compGo_cons h1 h2 h3 hx (by omega), hw, compGo_fix f ds (acc ++ [x]) (by simp; omega) fun d hd => h d (List.mem_cons_of_mem _ hd)]
      simp [List.filterMap_cons, hf]
    | none =>
      rw [hf] at h2
      rw [compGo_skip h1 h2.1, h2.2, compGo_fix f ds acc (by omega) fun d hd => h d (List.mem_cons_of_mem _ hd)]
      simp [List.filterMap_cons, hf]
/-- .. that keeps all -/
theorem compGo_map {vs : List Nat} {tt : D → Env → Option Env} {m : Env → Option (D × Env)} {ρ : Env} (f : D → D) (ds : List D) (hl : ds.length ≤ 16777216) (h : ∀ d ∈ ds, ∃ ρ1, tt d ρ = some ρ1 ∧ isF (f d) = true ∧ ∃ ρ3, m ρ1 = some (f d, ρ3) ∧ wipeD ρ3 vs = ρ) :
    compGo vs tt yesM m ds ρ [] = some (ds.map f, ρ) := by
  rw [compGo_fix (fun d => some (f d)) ds [] (by simpa using hl) fun d hd => ?_]
  · simp
  · obtain ⟨ρ1, h1, h2, h3⟩ := h d hd
    exact ⟨ρ1, ρ1, h1, rfl, h2, h3⟩
/-- a comprehension with an invariant -/
theorem compGo_inv {vs : List Nat} {tt : D → Env → Option Env} {m : Env → Option (D × Env)} (I : Nat → Env → List D → Prop) : ∀ (ds : List D) (k : Nat) (ρ : Env) (acc : List D), I k ρ acc → acc.length + ds.length ≤ 16777216 → (∀ (j : Nat) (d : D) (ρ : Env) (acc : List D), ds[j]? = some d → I (k + j) ρ acc →
      ∃ ρ1 x ρ3, tt d ρ = some ρ1 ∧ m ρ1 = some (x, ρ3) ∧ isF x = true ∧ I (k + j + 1) (wipeD ρ3 vs) (acc ++ [x])) → ∃ acc' ρ', compGo vs tt yesM m ds ρ acc = some (acc', ρ') ∧ I (k + ds.length) ρ' acc'
  | [], k, ρ, acc, h, _, _ => ⟨acc, ρ, rfl, h⟩
  | d :: ds, k, ρ, acc, h, hl, hs => by
    obtain ⟨ρ1, x, ρ3, h1, h2, hx, h3⟩ := hs 0 d ρ acc rfl h
    simp only [List.length_cons] at hl
    rw [compGo_cons h1 rfl h2 hx (by omega)]
    obtain ⟨acc', ρ', e', h'⟩ := compGo_inv I ds (k + 1) _ _ h3 (by simp; omega) fun j d ρ acc hd hI => by
      have := hs (j + 1) d ρ acc (by simpa using hd) (by rw [show k + (j + 1) = k + 1 + j by omega]; exact hI)
      rw [show k + 1 + j + 1 = k + (j + 1) + 1 by omega]
      exact this
    exact ⟨acc', ρ', e', by rw [List.length_cons, show k + (ds.length + 1) = k + 1 + ds.length by omega]; exact h'⟩
theorem seq_run {s s' : Env → Option Res} {ρ ρ1 : Env} {r : Option Res} (h : s ρ = some (.nx ρ1)) (h' : s' ρ1 = r) : seqM s s' ρ = r := by
  rw [x_seqM, h]
  exact h'
theorem seq_stop {s s' : Env → Option Res} {ρ ρ1 : Env} {d : D} (h : s ρ = some (.rt d ρ1)) : seqM s s' ρ = some (.rt d ρ1) := by
  rw [x_seqM, h]
theorem turn_run {t : D → Env → Option Env} {s : Env → Option Res} {d : D} {ρ ρ1 : Env} {r : Option Res} (h : t d ρ = some ρ1) (h' : s ρ1 = r) : turnM t s d ρ = r := by
  rw [x_turnM, h]
  exact h'
theorem for_run {ms : Env → Option (List D × Env)} {t : D → Env → Option Env} {s : Env → Option Res} {ds : List D} {ρ ρ1 : Env} {r : Option Res} (h : ms ρ = some (ds, ρ1)) (h' : CW.forM t s ds ρ1 = r) : forS ms t s ρ = r := by
  rw [x_forS, h]
  exact h'
theorem rng_nat {n : Nat} (h : n ≤ 16777216) : -(2 ^ 62) ≤ (n : Int) ∧ (n : Int) < 2 ^ 62 := by omega
theorem rng1_run {f : Env → Option D} {ρ : Env} {n : Nat} (h : f ρ = some (.int n)) (hn : n ≤ 16777216) : rng1W f ρ = some (rngD 0 n, ρ) := by
  rw [x_rng1W, h]
  exact if_pos (rng_nat hn)
theorem rng1V_run {f : Env → Option (D × Env)} {ρ ρ1 : Env} {n : Nat} (h : f ρ = some (.int n, ρ1)) (hn : n ≤ 16777216) : rng1VW f ρ = some (rngD 0 n, ρ1) := by
  rw [x_rng1VW, h]
  exact if_pos (rng_nat hn)
theorem set_run {i : Nat} {m : Env → Option (D × Env)} {ρ ρ1 ρ2 : Env} {d : D} (h : m ρ = some (d, ρ1)) (h2 : ρ1.set i d = ρ2) : setM i m ρ = some (.nx ρ2) := by
  rw [x_setM, h, ← h2]
theorem drop_run {m : Env → Option (D × Env)} {ρ ρ1 : Env} {d : D} (h : m ρ = some (d, ρ1)) : dropM m ρ = some (.nx ρ1) := by
  rw [x_dropM, h]
theorem ret_run {m : Env → Option (D × Env)} {ρ ρ1 : Env} {d : D} (h : m ρ = some (d, ρ1)) : retM m ρ = some (.rt d ρ1) := by
  rw [x_retM, h]
theorem call_run {F : List D → Option (D × List D)} {mo : Env → Option (List Opd × Env)} {ρ ρ1 ρ2 ρ3 : Env} {os : List Opd} {ds outs : List D} {d : D} (h1 : mo ρ = some (os, ρ1)) (h2 : takeAll os ρ1 = some (ds, ρ2)) (h3 : F ds = some (d, outs)) (h4 : outs.length = ds.length) (h5 : putAll os outs ρ2 = ρ3) : callM F mo ρ = some (d, ρ3) := by
  rw [x_callM, h1]
  simp only [h2, h3, h4, if_true, h5]
theorem tup_run {m : Env → Option (D × Env)} {ρ ρ1 : Env} {ds : List D} (h : m ρ = some (.tup ds, ρ1)) : tupW m ρ = some (ds, ρ1) := by
  rw [x_tupW, h]
theorem lst_run {m : Env → Option (D × Env)} {ρ ρ1 : Env} {ds : List D} {md : Md} (h : m ρ = some (.lst md ds, ρ1)) (hm : md ≠ .o) : lstW m ρ = some (ds, ρ1) := by
  rw [x_lstW, h]
  exact if_pos hm
theorem fn_ret {N n : Nat} {P : List Nat} {s : Env → Option Res} {ds : List D} {d : D} {ρ : Env} (hn : ds.length = n) (h : s (ds ++ List.replicate (N - n) .any) = some (.rt d ρ)) (hl : ρ.length = N) : fnM N n P s ds = some (d, outsP P n ρ) := by
  rw [x_fnM, if_pos hn, h]
  exact if_pos hl
theorem fn_nx {N n : Nat} {P : List Nat} {s : Env → Option Res} {ds : List D} {ρ : Env} (hn : ds.length = n) (h : s (ds ++ List.replicate (N - n) .any) = some (.nx ρ)) (hl : ρ.length = N) : fnM N n P s ds = some (.non, outsP P n ρ) := by
  rw [x_fnM, if_pos hn, h]
  exact if_pos hl
theorem if_true' {α : Type} {t : Env → Option (Bool × Env)} {f g : Env → Option α} {ρ ρ1 : Env} {r : Option α} (h : t ρ = some (true, ρ1)) (h' : f ρ1 = r) : ifM t f g ρ = r := by
  rw [x_ifM, h]
  exact h'
theorem if_false' {α : Type} {t : Env → Option (Bool × Env)} {f g : Env → Option α} {ρ ρ1 : Env} {r : Option α} (h : t ρ = some (false, ρ1)) (h' : g ρ1 = r) : ifM t f g ρ = r := by
  rw [x_ifM, h]
  exact h'
@[simp] theorem x_yesM {ρ : Env} : yesM ρ = some (true, ρ) := id rfl
@[simp] theorem x_wipe0 {ρ : Env} : wipeD ρ [] = ρ := id rfl
@[simp] theorem x_wipe1 {ρ : Env} {v : Nat} {vs : List Nat} : wipeD ρ (v :: vs) = (wipeD ρ vs).set v .any := id rfl
@[simp] theorem x_rest0 {ρ ρ' : Env} : restD ρ ρ' [] = ρ' := id rfl
@[simp] theorem x_rest1 {ρ ρ' : Env} {v : Nat} {vs : List Nat} : restD ρ ρ' (v :: vs) = (restD ρ ρ' vs).set v ((ρ[v]?).getD .any) := id rfl
@[simp] theorem x_okV0 {ρ : Env} : okV ρ [] = true := id rfl
@[simp] theorem x_okV1 {ρ : Env} {v : Nat} {vs : List Nat} : okV ρ (v :: vs) = ((match ρ[v]? with | some .any => true | some d => isF d | none => true) && okV ρ vs) := by
  unfold okV
  rw [List.all_cons]
  all_goals
    cases ρ[v]? with
    | none => rfl
    | some d => cases d <;> rfl
@[simp] theorem x_lcM {N : Nat} {vs : List Nat} {ms : Env → Option (List D × Env)} {tt : D → Env → Option Env} {t : Env → Option (Bool × Env)} {m : Env → Option (D × Env)} {ρ : Env} : lcM N vs ms tt t m ρ = if ρ.length = N then compM vs ms tt t (frzM m) ρ else none := id rfl
@[simp] theorem x_compM {vs : List Nat} {ms : Env → Option (List D × Env)} {tt : D → Env → Option Env} {t : Env → Option (Bool × Env)} {m : Env → Option (D × Env)} {ρ : Env} : compM vs ms tt t m ρ = (match ms ρ with
  | some (ds, ρ1) => if okV ρ1 vs = true then (match compGo vs tt t m ds (wipeD ρ1 vs) [] with
    | some (acc, ρ2) => some (.lst .o acc, restD ρ1 ρ2 vs)
    | none => none) else none
  | none => none) := id rfl
@[simp] theorem x_lcT {i N : Nat} {vs : List Nat} {tt : D → Env → Option Env} {t : Env → Option (Bool × Env)} {m : Env → Option (D × Env)} {ρ : Env} : lcT i N vs tt t m ρ = (match rdS i ρ with
  | some (.lst .o ds) => (match lcM N vs (fun ρ => some (ds, ρ)) tt t m (ρ.set i .any) with
    | some (d, ρ') => some (d, ρ'.set i (.lst .o ds))
    | none => none)
  | _ => none) := id rfl
theorem lc_run {N : Nat} {vs : List Nat} {ms : Env → Option (List D × Env)} {tt : D → Env → Option Env} {t : Env → Option (Bool × Env)} {m : Env → Option (D × Env)} {ρ ρ1 ρ2 : Env} {ds acc : List D} (hl : ρ.length = N) (h : ms ρ = some (ds, ρ1)) (ok : okV ρ1 vs = true) (h2 : compGo vs tt t (frzM m) ds (wipeD ρ1 vs) [] = some (acc, ρ2)) :
    lcM N vs ms tt t m ρ = some (.lst .o acc, restD ρ1 ρ2 vs) := by
  rw [x_lcM, if_pos hl, x_compM, h]
  simp only [ok, if_true, h2]
end CW

namespace K82
open PySem hiding Env
open L2 CW
def top (i : Nat) : Stmt := PySem.Challenge.pw_courthouse_k82_marks_stay_in_turned_cell.main.body.getD i (.Pass ⟨0, 0, 0, 0⟩)
/-! references -/
abbrev s_references : Stmt := top 4
abbrev N_references : List Str := ["cells", "address"]
def m_references : Env → Option Res :=
  (retM (b1N itemsD (sliceQ (rdS 0) (someO (op2 addI (rdS 1) (cst (.int 3)))) (someO (op2 addI (op2 addI (rdS 1) (cst (.int 3))) (op2 ixD (rdS 0) (op2 addI (rdS 1) (cst (.int 2)))))))))
def F_references : List D → Option (D × List D) := fnM 2 2 [] (m_references)
theorem sc_references : FnScope N_references ["cells", "address"] (defScope s_references) := ⟨rfl, rfl, rfl, by decide +kernel, rfl, by decide +kernel, by decide +kernel⟩
/-! leads_to -/
abbrev s_leads_to : Stmt := top 8
abbrev N_leads_to : List Str := ["cells", "address", "kept", "marks", "target", "known", "key", "value"]
def T_leads_to_1 : Env → Option (Bool × Env) := (qB (asB (op2 neD (rdS 5) (cst (.int (-1))))))
def m_leads_to : Env → Option Res :=
  (seqM (ifM (qB (asB (op2 eqD (op2 ixD (rdS 0) (rdS 1)) (cst (.int 1))))) (retM (lcM 8 [5] (lstW (frzM (callM F_references (consC (nmM 0) (consC (nmM 1) nilC))))) (nameT 5) T_leads_to_1 (nmM 5))) skipM) (seqM (ifM (qB (asB (op2 eqD (op2 ixD (rdS 0) (rdS 1)) (cst (.int 2))))) (fun _ => none) skipM) (fun _ => none)))
def F_leads_to : List D → Option (D × List D) := fnM 8 4 [3] (m_leads_to)
theorem sc_leads_to : FnScope N_leads_to ["cells", "address", "kept", "marks"] (defScope s_leads_to) := ⟨rfl, rfl, rfl, by decide +kernel, rfl, by decide +kernel, by decide +kernel⟩
/-! opened -/
abbrev s_opened : Stmt := top 9
abbrev N_opened : List Str := ["cells", "address", "marks", "table", "key", "value"]
def T_opened_1 : Env → Option (Bool × Env) := (qB (asB (op2 eqD (op2 ixD (rdS 0) (rdS 3)) (cst (.int 3)))))
def m_opened : Env → Option Res :=
  (retM (lcT 2 6 [3, 4, 5] (nameT 3) T_opened_1 (fun _ => none)))
def F_opened : List D → Option (D × List D) := fnM 6 3 [2] (m_opened)
theorem sc_opened : FnScope N_opened ["cells", "address", "marks"] (defScope s_opened) := ⟨rfl, rfl, rfl, by decide +kernel, rfl, by decide +kernel, by decide +kernel⟩
/-! marked -/
abbrev s_marked : Stmt := top 10
abbrev N_marked : List Str := ["memory", "cells", "marks", "stack", "address"]
def N_marked_1 : Env → Nat := fun _ => 100000
def T_marked_1 : Env → Option (Bool × Env) := (qB (asB (op2 notNo (rdS 4) (cst .non))))
def W_marked_1 : Env → Option (Bool × Env) := (qB (bindB (rdS 3) truthD))
def B_marked_1 : Env → Option Res := (seqM (setM 4 (popM 3)) (ifM (qB (asB (op2 (negD inS) (rdS 4) (rdS 2)))) (seqM (dropM (appM 2 (nmM 4))) (dropM (extM 3 (opN catD (callM F_leads_to (consC (nmM 1) (consC (nmM 4) (consC (vQ (op2 ixD (rdS 0) (cst (.int 3)))) (lendC 2 nilC))))) (callM F_opened (consC (nmM 1) (consC (nmM 4) (lendC 2 nilC)))))))) skipM))
def m_marked : Env → Option Res :=
  (seqM (setM 1 (vQ (op2 ixD (rdS 0) (cst (.int 4))))) (seqM (setM 2 (lstM nilM)) (seqM (setM 3 (lcM 5 [4] (tupW (vQ (op2 ixD (rdS 0) (cst (.int 2))))) (nameT 4) T_marked_1 (nmM 4))) (seqM (whileS N_marked_1 W_marked_1 B_marked_1) (retM (b1T itemsD (b1NQ sortD (rdS 2))))))))
def F_marked : List D → Option (D × List D) := fnM 5 1 [] (m_marked)
theorem sc_marked : FnScope N_marked ["memory"] (defScope s_marked) := ⟨rfl, rfl, rfl, by decide +kernel, rfl, by decide +kernel, by decide +kernel⟩
/-! Reversal.__init__ -/
abbrev s_Reversal___init__ : Stmt := inClass (top 11) 0
abbrev N_Reversal___init__ : List Str := ["self", "cells"]
def m_Reversal___init__ (C_Reversal : Addr) : Env → Option Res :=
  (seqM (fldM 0 C_Reversal "cells" (b1NQ itemsD (rdS 1))) (seqM (fldM 0 C_Reversal "marks" (lstM nilM)) (fldM 0 C_Reversal "done" dict0M)))
def F_Reversal___init__ (C_Reversal : Addr) : List D → Option (D × List D) := fnM 2 2 [0] (m_Reversal___init__ C_Reversal)
theorem sc_Reversal___init__ : FnScope N_Reversal___init__ ["self", "cells"] (defScope s_Reversal___init__) := ⟨rfl, rfl, rfl, by decide +kernel, rfl, by decide +kernel, by decide +kernel⟩
/-! Reversal.begin -/
abbrev s_Reversal_begin : Stmt := inClass (top 11) 1
abbrev N_Reversal_begin : List Str := ["self", "address"]
def m_Reversal_begin (C_Reversal : Addr) : Env → Option Res :=
  (seqM (dropM (appFM 0 C_Reversal "marks" (rdS 1))) (subFM 0 C_Reversal "done" (rdS 1) (vQ (cst (.int 0)))))
def F_Reversal_begin (C_Reversal : Addr) : List D → Option (D × List D) := fnM 2 2 [0] (m_Reversal_begin C_Reversal)
theorem sc_Reversal_begin : FnScope N_Reversal_begin ["self", "address"] (defScope s_Reversal_begin) := ⟨rfl, rfl, rfl, by decide +kernel, rfl, by decide +kernel, by decide +kernel⟩
/-! Reversal.next_field -/
abbrev s_Reversal_next_field : Stmt := inClass (top 11) 2
abbrev N_Reversal_next_field : List Str := ["self", "address", "cell"]
def N_Reversal_next_field_1 : Env → Nat := fun _ => 1000
def W_Reversal_next_field_1 (C_Reversal : Addr) : Env → Option (Bool × Env) := (qB (asB (op2 ltI (op2 ixK (rdF 0 C_Reversal "done") (rdS 1)) (op2 ixD (rdF 0 C_Reversal "cells") (op2 addI (rdS 1) (cst (.int 2)))))))
def B_Reversal_next_field_1 (C_Reversal : Addr) : Env → Option Res := (seqM (setM 2 (vQ (op2 addI (op2 addI (rdS 1) (cst (.int 3))) (op2 ixK (rdF 0 C_Reversal "done") (rdS 1))))) (seqM (ifM (qB (andB (asB (op2 neD (op2 ixD (rdF 0 C_Reversal "cells") (rdS 2)) (cst (.int (-1))))) (asB (op2 (negD inS) (op2 ixD (rdF 0 C_Reversal "cells") (rdS 2)) (rdF 0 C_Reversal "marks"))))) (retM (mvM 2)) skipM) (augFM 0 C_Reversal "done" (rdS 1) (cst (.int 1)))))
def m_Reversal_next_field (C_Reversal : Addr) : Env → Option Res :=
  (seqM (ifM (qB (asB (op2 neD (op2 ixD (rdF 0 C_Reversal "cells") (rdS 1)) (cst (.int 1))))) (retM (vQ (cst .non))) skipM) (seqM (whileS N_Reversal_next_field_1 (W_Reversal_next_field_1 C_Reversal) (B_Reversal_next_field_1 C_Reversal)) (retM (vQ (cst .non)))))
def F_Reversal_next_field (C_Reversal : Addr) : List D → Option (D × List D) := fnM 3 2 [0] (m_Reversal_next_field C_Reversal)
theorem sc_Reversal_next_field : FnScope N_Reversal_next_field ["self", "address"] (defScope s_Reversal_next_field) := ⟨rfl, rfl, rfl, by decide +kernel, rfl, by decide +kernel, by decide +kernel⟩
/-! Reversal.mark -/
abbrev s_Reversal_mark : Stmt := inClass (top 11) 3
abbrev N_Reversal_mark : List Str := ["self", "root", "previous", "current", "cell", "target", "older"]
def N_Reversal_mark_1 : Env → Nat := fun _ => 100000
def W_Reversal_mark_1 : Env → Option (Bool × Env) := (qB (bindB (cst (.bl true)) truthD))
def B_Reversal_mark_1 (C_Reversal : Addr) : Env → Option Res := (seqM (setM 4 (callM (F_Reversal_next_field C_Reversal) (lendI 0 C_Reversal "next_field" (consC (nmM 3) nilC)))) (ifM (qB (asB (op2 notNo (rdS 4) (cst .non)))) (seqM (setM 5 (vQ (op2 ixD (rdF 0 C_Reversal "cells") (rdS 4)))) (seqM (subFM 0 C_Reversal "cells" (rdS 4) (nmM 2)) (seqM (setM 2 (nmM 3)) (seqM (setM 3 (nmM 5)) (dropM (callM (F_Reversal_begin C_Reversal) (lendI 0 C_Reversal "begin" (consC (nmM 3) nilC)))))))) (ifM (qB (asB (op2 eqD (rdS 2) (cst (.int (-1)))))) retNM (seqM (setM 4 (vQ (op2 addI (op2 addI (rdS 2) (cst (.int 3))) (op2 ixK (rdF 0 C_Reversal "done") (rdS 2))))) (seqM (setM 6 (vQ (op2 ixD (rdF 0 C_Reversal "cells") (rdS 4)))) (seqM (subFM 0 C_Reversal "cells" (rdS 4) (nmM 3)) (seqM (augFM 0 C_Reversal "done" (rdS 2) (cst (.int 1))) (seqM (setM 3 (nmM 2)) (setM 2 (nmM 6))))))))))
def m_Reversal_mark (C_Reversal : Addr) : Env → Option Res :=
  (seqM (setM 2 (vQ (cst (.int (-1))))) (seqM (setM 3 (nmM 1)) (seqM (dropM (callM (F_Reversal_begin C_Reversal) (lendI 0 C_Reversal "begin" (consC (nmM 1) nilC)))) (whileS N_Reversal_mark_1 W_Reversal_mark_1 (B_Reversal_mark_1 C_Reversal)))))
def F_Reversal_mark (C_Reversal : Addr) : List D → Option (D × List D) := fnM 7 2 [0] (m_Reversal_mark C_Reversal)
theorem sc_Reversal_mark : FnScope N_Reversal_mark ["self", "root"] (defScope s_Reversal_mark) := ⟨rfl, rfl, rfl, by decide +kernel, rfl, by decide +kernel, by decide +kernel⟩
/-! Reversal.led -/
abbrev s_Reversal_led : Stmt := inClass (top 11) 4
abbrev N_Reversal_led : List Str := ["self", "kept", "address", "known"]
def m_Reversal_led (C_Reversal : Addr) : Env → Option Res :=
  (seqM (forQM 2 (rdF 0 C_Reversal "marks") (ifFB (asB (op2 neD (op2 ixD (rdF 0 C_Reversal "cells") (rdS 2)) (cst (.int 1)))))) (retM (vQ (cst .non))))
def F_Reversal_led (C_Reversal : Addr) : List D → Option (D × List D) := fnM 4 2 [0] (m_Reversal_led C_Reversal)
theorem sc_Reversal_led : FnScope N_Reversal_led ["self", "kept"] (defScope s_Reversal_led) := ⟨rfl, rfl, rfl, by decide +kernel, rfl, by decide +kernel, by decide +kernel⟩
/-! marked_by_turning -/
abbrev s_marked_by_turning : Stmt := top 12
abbrev N_marked_by_turning : List Str := ["memory", "work", "address", "more"]
def N_marked_by_turning_1 : Env → Nat := fun _ => 1
def B_marked_by_turning_1 (C_Reversal : Addr) : Env → Option Res := (ifM (qB (andB (asB (op2 notNo (rdS 2) (cst .non))) (asB (op2 (negD inS) (rdS 2) (rdF 1 C_Reversal "marks"))))) (dropM (callM (F_Reversal_mark C_Reversal) (lendI 1 C_Reversal "mark" (consC (nmM 2) nilC)))) skipM)
def W_marked_by_turning_1 : Env → Option (Bool × Env) := (qB (asB (op2 notNo (rdS 3) (cst .non))))
def B_marked_by_turning_2 (C_Reversal : Addr) : Env → Option Res := (seqM (dropM (callM (F_Reversal_mark C_Reversal) (lendI 1 C_Reversal "mark" (consC (nmM 3) nilC)))) (setM 3 (callM (F_Reversal_led C_Reversal) (lendI 1 C_Reversal "led" (consC (vQ (op2 ixD (rdS 0) (cst (.int 3)))) nilC)))))
def m_marked_by_turning (C_Reversal : Addr) : Env → Option Res :=
  (seqM (setM 1 (makeM C_Reversal (F_Reversal___init__ C_Reversal) (consM (vQ (op2 ixD (rdS 0) (cst (.int 4)))) nilM))) (seqM (forS (tupW (vQ (op2 ixD (rdS 0) (cst (.int 2))))) (nameT 2) (B_marked_by_turning_1 C_Reversal)) (seqM (setM 3 (callM (F_Reversal_led C_Reversal) (lendI 1 C_Reversal "led" (consC (vQ (op2 ixD (rdS 0) (cst (.int 3)))) nilC)))) (seqM (whileS N_marked_by_turning_1 W_marked_by_turning_1 (B_marked_by_turning_2 C_Reversal)) (retM (tupM (consM (frzM (b1T itemsD (b1NQ sortD (rdF 1 C_Reversal "marks")))) (consM (frzM (b1TQ itemsD (rdF 1 C_Reversal "cells"))) nilM))))))))
def F_marked_by_turning (C_Reversal : Addr) : List D → Option (D × List D) := fnM 4 1 [] (m_marked_by_turning C_Reversal)
theorem sc_marked_by_turning : FnScope N_marked_by_turning ["memory"] (defScope s_marked_by_turning) := ⟨rfl, rfl, rfl, by decide +kernel, rfl, by decide +kernel, by decide +kernel⟩
/-! _law_cell -/
abbrev s_law_cell : Stmt := top 16
abbrev N_law_cell : List Str := ["script", "k"]
def m_law_cell : Env → Option Res :=
  (seqM (ifM (qB (asB (op2 ltI (rdS 1) (un1 lenD (rdS 0))))) (retM (vQ (op2 ixD (rdS 0) (rdS 1)))) skipM) (retM (vQ (cst (.int 0)))))
def F_law_cell : List D → Option (D × List D) := fnM 2 2 [] (m_law_cell)
theorem sc_law_cell : FnScope N_law_cell ["script", "k"] (defScope s_law_cell) := ⟨rfl, rfl, rfl, by decide +kernel, rfl, by decide +kernel, by decide +kernel⟩
/-! _law_digits -/
abbrev s_law_digits : Stmt := top 15
abbrev N_law_digits : List Str := ["script", "first", "last", "digits", "k", "cell", "turn", "seed"]
def B_law_digits_1 : Env → Option Res := (ifM (qB (asB (op2 gtI (rdS 5) (cst (.int 0))))) (seqM (dropM (appM 3 (vQ (op2 modI (un1 intD (rdS 5)) (cst (.int 1000)))))) (setM 5 (vQ (op2 divI (rdS 5) (cst (.int 1000)))))) skipM)
def B_law_digits_2 : Env → Option Res := (seqM (setM 7 (vQ (op2 modI (un1 intD (op2 addI (op2 addI (op2 mulI (rdS 7) (cst (.int 16807))) (op2 mulI (cst (.int 7)) (rdS 6))) (cst (.int 1)))) (cst (.int 2147483647))))) (dropM (appM 3 (vQ (op2 modI (un1 intD (op2 divI (rdS 7) (cst (.int 997)))) (cst (.int 1000)))))))
def B_law_digits_3 : Env → Option Res := (seqM (setM 5 (callM F_law_cell (consC (nmM 0) (consC (nmM 4) nilC)))) (seqM (ifM (qB (asB (op2 ltI (rdS 5) (cst (.int 0))))) (setM 5 (vQ (op2 subI (cst (.int 1)) (op2 mulI (cst (.int 2)) (rdS 5))))) skipM) (ifM (qB (asB (op2 geI (rdS 5) (op2 powI (cst (.int 10)) (cst (.int 18)))))) (forS (rng1W (cst (.int 60))) (nameT 6) B_law_digits_1) (seqM (setM 7 (vQ (op2 modI (un1 intD (op2 addI (op2 addI (op2 mulI (rdS 5) (cst (.int 48271))) (op2 mulI (rdS 4) (cst (.int 69621)))) (cst (.int 11)))) (cst (.int 2147483647))))) (forS (rng1W (cst (.int 12))) (nameT 6) B_law_digits_2)))))
def m_law_digits : Env → Option Res :=
  (seqM (setM 3 (lstM nilM)) (seqM (forS (rng2W (rdS 1) (rdS 2)) (nameT 4) B_law_digits_3) (retM (mvM 3))))
def F_law_digits : List D → Option (D × List D) := fnM 8 3 [] (m_law_digits)
theorem sc_law_digits : FnScope N_law_digits ["script", "first", "last"] (defScope s_law_digits) := ⟨rfl, rfl, rfl, by decide +kernel, rfl, by decide +kernel, by decide +kernel⟩
/-! _law_box -/
abbrev s_law_box : Stmt := top 14
abbrev N_law_box : List Str := ["script", "first", "last"]
def m_law_box : Env → Option Res :=
  (retM (lstM (consM (frzM (callM F_law_digits (consC (nmM 0) (consC (nmM 1) (consC (nmM 2) nilC))))) (consM (vQ (cst (.int 0))) nilM))))
def F_law_box : List D → Option (D × List D) := fnM 3 3 [] (m_law_box)
theorem sc_law_box : FnScope N_law_box ["script", "first", "last"] (defScope s_law_box) := ⟨rfl, rfl, rfl, by decide +kernel, rfl, by decide +kernel, by decide +kernel⟩
/-! _law_draw -/
abbrev s_law_draw : Stmt := top 17
abbrev N_law_draw : List Str := ["box", "many", "at"]
def m_law_draw : Env → Option Res :=
  (seqM (setM 2 (vQ (op2 ixD (rdS 0) (cst (.int 1))))) (seqM (sub1M 0 (cst (.int 1)) (vQ (op2 addI (rdS 2) (cst (.int 1))))) (seqM (ifM (qB (asB (op2 ltI (rdS 2) (un1 lenD (op2 ixD (rdS 0) (cst (.int 0))))))) (retM (vQ (op2 modI (un1 intD (op2 ixD (op2 ixD (rdS 0) (cst (.int 0))) (rdS 2))) (rdS 1)))) skipM) (retM (vQ (cst (.int 0)))))))
def F_law_draw : List D → Option (D × List D) := fnM 3 2 [0] (m_law_draw)
theorem sc_law_draw : FnScope N_law_draw ["box", "many"] (defScope s_law_draw) := ⟨rfl, rfl, rfl, by decide +kernel, rfl, by decide +kernel, by decide +kernel⟩
/-! _law_shuffled -/
abbrev s_law_shuffled : Stmt := top 19
abbrev N_law_shuffled : List Str := ["box", "numbers", "left", "order", "k"]
def B_law_shuffled_1 : Env → Option Res := (dropM (appM 3 (popAtV 2 (op2M modI (un1M intD (callM F_law_draw (lendC 0 (consC (vQ (cst (.int 1000))) nilC)))) (vQ (un1 lenD (rdS 2)))))))
def m_law_shuffled : Env → Option Res :=
  (seqM (setM 2 (b1NQ itemsD (rdS 1))) (seqM (setM 3 (lstM nilM)) (seqM (forS (rng1W (un1 lenD (rdS 1))) (nameT 4) B_law_shuffled_1) (retM (mvM 3)))))
def F_law_shuffled : List D → Option (D × List D) := fnM 5 2 [0] (m_law_shuffled)
theorem sc_law_shuffled : FnScope N_law_shuffled ["box", "numbers"] (defScope s_law_shuffled) := ⟨rfl, rfl, rfl, by decide +kernel, rfl, by decide +kernel, by decide +kernel⟩
/-! _law_numbers -/
abbrev s_law_numbers : Stmt := top 20
abbrev N_law_numbers : List Str := ["heap", "row"]
def E_law_numbers_1 : Env → Option (D × Env) := (vQ (op2 ixD (rdS 1) (cst (.int 1))))
def m_law_numbers : Env → Option Res :=
  (retM (lcM 2 [1] (tupW (vQ (op2 ixD (rdS 0) (cst (.int 4))))) (nameT 1) yesM E_law_numbers_1))
def F_law_numbers : List D → Option (D × List D) := fnM 2 1 [] (m_law_numbers)
theorem sc_law_numbers : FnScope N_law_numbers ["heap"] (defScope s_law_numbers) := ⟨rfl, rfl, rfl, by decide +kernel, rfl, by decide +kernel, by decide +kernel⟩
/-! _law_of -/
abbrev s_law_of : Stmt := top 21
abbrev N_law_of : List Str := ["heap", "number", "row"]
def B_law_of_1 : Env → Option Res := (ifM (qB (asB (op2 eqD (op2 ixD (rdS 2) (cst (.int 1))) (rdS 1)))) (retM (mvM 2)) skipM)
def m_law_of : Env → Option Res :=
  (seqM (forS (tupW (vQ (op2 ixD (rdS 0) (cst (.int 4))))) (nameT 2) B_law_of_1) (retM (vQ (cst .non))))
def F_law_of : List D → Option (D × List D) := fnM 3 2 [] (m_law_of)
theorem sc_law_of : FnScope N_law_of ["heap", "number"] (defScope s_law_of) := ⟨rfl, rfl, rfl, by decide +kernel, rfl, by decide +kernel, by decide +kernel⟩
/-! _law_body -/
abbrev s_law_body : Stmt := top 22
abbrev N_law_body : List Str := ["box", "row", "body", "key", "value"]
def m_law_body : Env → Option Res :=
  (seqM (ifM (qB (asB (op2 eqD (op2 ixD (rdS 1) (cst (.int 0))) (cst (.str "record"))))) (retM (b1NQ itemsD (op2 ixD (rdS 1) (cst (.int 2))))) skipM) (seqM (fun _ => none) (seqM (fun _ => none) (seqM (fun _ => none) (seqM (fun _ => none) (fun _ => none))))))
def F_law_body : List D → Option (D × List D) := fnM 5 2 [0] (m_law_body)
theorem sc_law_body : FnScope N_law_body ["box", "row"] (defScope s_law_body) := ⟨rfl, rfl, rfl, by decide +kernel, rfl, by decide +kernel, by decide +kernel⟩
/-! _law_memory -/
abbrev s_law_memory : Stmt := top 18
abbrev N_law_memory : List Str := ["box", "heap", "rows", "places", "at", "number", "size", "row", "body", "cells", "code", "registers", "x"]
def B_law_memory_1 : Env → Option Res := (seqM (ifM (cmpM eqD (callM F_law_draw (lendC 0 (consC (vQ (cst (.int 4))) nilC))) (vQ (cst (.int 0)))) (seqM (setM 6 (op2M addI (vQ (cst (.int 3))) (callM F_law_draw (lendC 0 (consC (vQ (cst (.int 5))) nilC))))) (seqM (dropM (appM 2 (tupM (consM (vQ (cst (.int 0))) (consM (nmM 6) (consM (frzM (lstM nilM)) nilM)))))) (setM 4 (vQ (op2 addI (rdS 4) (rdS 6)))))) skipM) (seqM (setM 7 (callM F_law_of (consC (nmM 1) (consC (nmM 5) nilC)))) (seqM (setM 8 (callM F_law_body (lendC 0 (consC (nmM 7) nilC)))) (seqM (dropM (appM 2 (tupM (consM (frzM (op2M indexD (lstM (consM (vQ (cst (.str "free"))) (consM (vQ (cst (.str "record"))) (consM (vQ (cst (.str "weak"))) (consM (vQ (cst (.str "table"))) nilM))))) (vQ (op2 ixD (rdS 7) (cst (.int 0)))))) (consM (nmM 5) (consM (nmM 8) nilM)))))) (seqM (sub1M 3 (rdS 5) (nmM 4)) (setM 4 (vQ (op2 addI (op2 addI (rdS 4) (cst (.int 3))) (un1 lenD (rdS 8))))))))))
def E_law_memory_1 : Env → Option (D × Env) := (vQ (ifD (asB (op2 isNo (rdS 12) (cst .non))) (un1 negI (cst (.int 1))) (op2 ixK (rdS 3) (rdS 12))))
def B_law_memory_2 : Env → Option Res := (ifM (qB (asB (op2 eqD (rdS 10) (cst (.int 0))))) (setM 9 (opN catD (opN catD (nmM 9) (lstM (consM (vQ (cst (.int 0))) (consM (vQ (op2 subI (rdS 5) (cst (.int 2)))) nilM)))) (opN repD (lstM (consM (vQ (cst (.int 0))) nilM)) (vQ (op2 subI (rdS 5) (cst (.int 2))))))) (setM 9 (opN catD (opN catD (nmM 9) (lstM (consM (nmM 10) (consM (nmM 5) (consM (vQ (un1 lenD (rdS 8))) nilM))))) (lcM 13 [12] (lstW (frzM (nmM 8))) (nameT 12) yesM E_law_memory_1))))
def E_law_memory_2 : Env → Option (D × Env) := (vQ (ifD (asB (op2 isNo (rdS 12) (cst .non))) (cst .non) (op2 ixK (rdS 3) (rdS 12))))
def m_law_memory : Env → Option Res :=
  (seqM (setM 2 (lstM nilM)) (seqM (setM 3 dict0M) (seqM (setM 4 (vQ (cst (.int 0)))) (seqM (forS (lstW (frzM (callM F_law_shuffled (lendC 0 (consC (callM F_law_numbers (consC (nmM 1) nilC)) nilC))))) (nameT 5) B_law_memory_1) (seqM (ifM (cmpM eqD (callM F_law_draw (lendC 0 (consC (vQ (cst (.int 4))) nilC))) (vQ (cst (.int 0)))) (dropM (appM 2 (tupM (consM (vQ (cst (.int 0))) (consM (frzM (op2M addI (vQ (cst (.int 3))) (callM F_law_draw (lendC 0 (consC (vQ (cst (.int 5))) nilC))))) (consM (frzM (lstM nilM)) nilM)))))) skipM) (seqM (setM 9 (lstM nilM)) (seqM (forS (lstW (frzM (nmM 2))) (tupT 3 (consT (nameT 10) (consT (nameT 5) (consT (nameT 8) nilT)))) B_law_memory_2) (seqM (setM 11 (b1T itemsD (lcM 13 [12] (tupW (vQ (op2 ixD (rdS 1) (cst (.int 2))))) (nameT 12) yesM E_law_memory_2))) (retM (tupM (consM (vQ (cst (.str "memory"))) (consM (vQ (op2 ixD (rdS 1) (cst (.int 1)))) (consM (nmM 11) (consM (vQ (op2 ixD (rdS 1) (cst (.int 3)))) (consM (frzM (b1TQ itemsD (rdS 9))) (consM (vQ (op2 ixD (rdS 1) (cst (.int 5)))) nilM))))))))))))))))
def F_law_memory : List D → Option (D × List D) := fnM 13 2 [0] (m_law_memory)
theorem sc_law_memory : FnScope N_law_memory ["box", "heap"] (defScope s_law_memory) := ⟨rfl, rfl, rfl, by decide +kernel, rfl, by decide +kernel, by decide +kernel⟩
/-! _law_blocks -/
abbrev s_law_blocks : Stmt := top 23
abbrev N_law_blocks : List Str := ["cells", "found", "at", "turn", "size"]
def B_law_blocks_1 : Env → Option Res := (ifM (qB (asB (op2 ltI (rdS 2) (un1 lenD (rdS 0))))) (seqM (setM 4 (vQ (op2 addI (cst (.int 2)) (op2 ixD (rdS 0) (op2 addI (rdS 2) (cst (.int 1))))))) (seqM (ifM (qB (asB (op2 neD (op2 ixD (rdS 0) (rdS 2)) (cst (.int 0))))) (setM 4 (vQ (op2 addI (cst (.int 3)) (op2 ixD (rdS 0) (op2 addI (rdS 2) (cst (.int 2))))))) skipM) (seqM (dropM (appM 1 (tupM (consM (nmM 2) (consM (vQ (op2 ixD (rdS 0) (rdS 2))) (consM (nmM 4) nilM)))))) (setM 2 (vQ (op2 addI (rdS 2) (rdS 4))))))) skipM)
def m_law_blocks : Env → Option Res :=
  (seqM (setM 1 (lstM nilM)) (seqM (setM 2 (vQ (cst (.int 0)))) (seqM (forS (rng1W (un1 lenD (rdS 0))) (nameT 3) B_law_blocks_1) (retM (mvM 1)))))
def F_law_blocks : List D → Option (D × List D) := fnM 5 1 [] (m_law_blocks)
theorem sc_law_blocks : FnScope N_law_blocks ["cells"] (defScope s_law_blocks) := ⟨rfl, rfl, rfl, by decide +kernel, rfl, by decide +kernel, by decide +kernel⟩
/-! _law_same -/
abbrev s_law_same : Stmt := top 24
abbrev N_law_same : List Str := ["actual", "expected", "k"]
def B_law_same_1 (self : List D → Option (D × List D)) : Env → Option Res := (ifM (notM (truthM (callM self (consC (vQ (op2 ixD (rdS 0) (rdS 2))) (consC (vQ (op2 ixD (rdS 1) (rdS 2))) nilC))))) (retM (vQ (cst (.bl false)))) skipM)
def m_law_same (self : List D → Option (D × List D)) : Env → Option Res :=
  (seqM (ifM (qB (bindB (un1 (isiD "tuple") (rdS 1)) truthD)) (seqM (ifM (qB (orB (notB (bindB (un1 (isiD "tuple") (rdS 0)) truthD)) (asB (op2 neD (un1 lenD (rdS 0)) (un1 lenD (rdS 1)))))) (retM (vQ (cst (.bl false)))) skipM) (seqM (forS (rng1W (un1 lenD (rdS 1))) (nameT 2) (B_law_same_1 self)) (retM (vQ (cst (.bl true)))))) skipM) (seqM (ifM (qB (asB (op2 isNo (rdS 1) (cst .non)))) (retM (vQ (op2 isNo (rdS 0) (cst .non)))) skipM) (seqM (ifM (qB (bindB (un1 (isiD "bool") (rdS 1)) truthD)) (retM (vQ (andV (un1 (isiD "bool") (rdS 0)) (op2 eqD (rdS 0) (rdS 1))))) skipM) (seqM (ifM (qB (bindB (un1 (isiD "int") (rdS 1)) truthD)) (retM (vQ (andV (un1 (isiD "int") (rdS 0)) (andV (un1 notD (un1 (isiD "bool") (rdS 0))) (op2 eqD (rdS 0) (rdS 1)))))) skipM) (retM (vQ (andV (un1 (isiD "str") (rdS 0)) (op2 eqD (rdS 0) (rdS 1)))))))))
def F_law_same : Nat → List D → Option (D × List D)
  | 0 => fnM 3 2 [] (fun _ => none)
  | n + 1 => fnM 3 2 [] (m_law_same (F_law_same n))
theorem sc_law_same : FnScope N_law_same ["actual", "expected"] (defScope s_law_same) := ⟨rfl, rfl, rfl, by decide +kernel, rfl, by decide +kernel, by decide +kernel⟩
/-! law -/
abbrev s_law : Stmt := top 25
abbrev N_law : List Str := ["script", "box", "turn", "many", "rows", "x", "fields", "heap", "memory", "found", "k", "due", "at", "code", "size"]
def E_law_1 : Env → Option (D × Env) := (op2M ixD (lstM (consM (vQ (cst .non)) (consM (vQ (op2 modI (un1 intD (op2 addI (rdS 5) (cst (.int 1)))) (rdS 3))) (consM (frzM (callM F_law_draw (lendC 1 (consC (nmM 3) nilC)))) (consM (vQ (cst (.int 0))) nilM))))) (callM F_law_draw (lendC 1 (consC (vQ (cst (.int 4))) nilC))))
def B_law_1 : Env → Option Res := (seqM (setM 6 (lcM 15 [10] (rng1VW (callM F_law_draw (lendC 1 (consC (vQ (cst (.int 4))) nilC)))) (nameT 10) yesM E_law_1)) (dropM (appM 4 (tupM (consM (vQ (cst (.str "record"))) (consM (nmM 5) (consM (frzM (b1TQ itemsD (rdS 6))) nilM)))))))
def T_law_1 : Env → Option (Bool × Env) := (qB (asB (op2 notNo (rdS 5) (cst .non))))
def T_law_2 : Env → Option (Bool × Env) := (qB (andB (asB (op2 notNo (rdS 5) (cst .non))) (asB (op2 (negD inS) (rdS 5) (rdS 9)))))
def B_law_2 : Env → Option Res := (ifM (qB (asB (op2 ltI (rdS 10) (un1 lenD (rdS 9))))) (setM 9 (opN catD (nmM 9) (lcM 15 [5] (tupW (vQ (op2 ixD (op2 ixD (rdS 4) (op2 ixD (rdS 9) (rdS 10))) (cst (.int 2))))) (nameT 5) T_law_2 (nmM 5)))) skipM)
def B_law_3 : Env → Option Res := (ifM (qB (andB (asB (op2 neD (rdS 13) (cst (.int 0)))) (asB (op2 (posD inS) (op2 ixD (op2 ixD (rdS 8) (cst (.int 4))) (op2 addI (rdS 12) (cst (.int 1)))) (rdS 9))))) (dropM (appM 11 (nmM 12))) skipM)
def B_law_4 (C_Reversal : Addr) : Env → Option Res := (seqM (setM 3 (op2M addI (vQ (cst (.int 1))) (callM F_law_draw (lendC 1 (consC (vQ (cst (.int 8))) nilC))))) (seqM (setM 4 (lstM nilM)) (seqM (forS (rng1W (rdS 3)) (nameT 5) B_law_1) (seqM (setM 7 (tupM (consM (vQ (cst (.str "heap"))) (consM (nmM 3) (consM (frzM (tupM (consM (frzM (callM F_law_draw (lendC 1 (consC (nmM 3) nilC)))) (consM (vQ (cst .non)) (consM (frzM (callM F_law_draw (lendC 1 (consC (nmM 3) nilC)))) nilM))))) (consM (frzM (tupM nilM)) (consM (frzM (b1TQ itemsD (rdS 4))) (consM (frzM (tupM nilM)) nilM)))))))) (seqM (setM 8 (callM F_law_memory (lendC 1 (consC (nmM 7) nilC)))) (seqM (setM 9 (lcM 15 [5] (tupW (vQ (op2 ixD (rdS 7) (cst (.int 2))))) (nameT 5) T_law_1 (nmM 5))) (seqM (forS (rng1W (cst (.int 40))) (nameT 10) B_law_2) (seqM (setM 11 (lstM nilM)) (seqM (forS (lstW (frzM (callM F_law_blocks (consC (vQ (op2 ixD (rdS 8) (cst (.int 4)))) nilC)))) (tupT 3 (consT (nameT 12) (consT (nameT 13) (consT (nameT 14) nilT)))) B_law_3) (ifM (orT (notM (truthM (callM (F_law_same 3) (consC (callM F_marked (consC (nmM 8) nilC)) (consC (b1TQ itemsD (rdS 11)) nilC))))) (notM (truthM (callM (F_law_same 3) (consC (callM (F_marked_by_turning C_Reversal) (consC (nmM 8) nilC)) (consC (tupM (consM (frzM (b1TQ itemsD (rdS 11))) (consM (vQ (op2 ixD (rdS 8) (cst (.int 4)))) nilM))) nilC)))))) (retM (vQ (cst (.bl false)))) skipM))))))))))
def m_law (C_Reversal : Addr) : Env → Option Res :=
  (seqM (setM 1 (callM F_law_box (consC (nmM 0) (consC (vQ (cst (.int 0))) (consC (vQ (cst (.int 63))) nilC))))) (seqM (forS (rng1W (cst (.int 3))) (nameT 2) (B_law_4 C_Reversal)) (retM (vQ (cst (.bl true))))))
def F_law (C_Reversal : Addr) : List D → Option (D × List D) := fnM 15 1 [] (m_law C_Reversal)
theorem sc_law : FnScope N_law ["script"] (defScope s_law) := ⟨rfl, rfl, rfl, by decide +kernel, rfl, by decide +kernel, by decide +kernel⟩
structure Tx (K : PySem.W.Frag) (mg : Str → Option Value) where
  z_bool : mg "bool" = none
  z_int : mg "int" = none
  z_isinstance : mg "isinstance" = none
  z_len : mg "len" = none
  z_list : mg "list" = none
  z_range : mg "range" = none
  z_sorted : mg "sorted" = none
  z_str : mg "str" = none
  z_tuple : mg "tuple" = none
  k_CELLS : Tok
  c_CELLS : mg "CELLS" = some (.int 4 k_CELLS)
  k_HEAD : Tok
  c_HEAD : mg "HEAD" = some (.int 3 k_HEAD)
  k_NOTHING : Tok
  c_NOTHING : mg "NOTHING" = some (.int (-1) k_NOTHING)
  f_references : Addr
  d_references : FuncData
  F_references : Fun K "references" "references" s_references f_references d_references
  b_references : Binds K d_references ["cells", "address"] []
  g_references : mg "references" = some (.ref f_references)
  f_leads_to : Addr
  d_leads_to : FuncData
  F_leads_to : Fun K "leads_to" "leads_to" s_leads_to f_leads_to d_leads_to
  b_leads_to : Binds K d_leads_to ["cells", "address", "kept", "marks"] []
  g_leads_to : mg "leads_to" = some (.ref f_leads_to)
  f_opened : Addr
  d_opened : FuncData
  F_opened : Fun K "opened" "opened" s_opened f_opened d_opened
  b_opened : Binds K d_opened ["cells", "address", "marks"] []
  g_opened : mg "opened" = some (.ref f_opened)
  f_marked : Addr
  d_marked : FuncData
  F_marked : Fun K "marked" "marked" s_marked f_marked d_marked
  b_marked : Binds K d_marked ["memory"] []
  g_marked : mg "marked" = some (.ref f_marked)
  f_Reversal___init__ : Addr
  d_Reversal___init__ : FuncData
  F_Reversal___init__ : Fun K "__init__" "Reversal.__init__" s_Reversal___init__ f_Reversal___init__ d_Reversal___init__
  b_Reversal___init__ : Binds K d_Reversal___init__ ["self", "cells"] []
  f_Reversal_begin : Addr
  d_Reversal_begin : FuncData
  F_Reversal_begin : Fun K "begin" "Reversal.begin" s_Reversal_begin f_Reversal_begin d_Reversal_begin
  b_Reversal_begin : Binds K d_Reversal_begin ["self", "address"] []
  f_Reversal_next_field : Addr
  d_Reversal_next_field : FuncData
  F_Reversal_next_field : Fun K "next_field" "Reversal.next_field" s_Reversal_next_field f_Reversal_next_field d_Reversal_next_field
  b_Reversal_next_field : Binds K d_Reversal_next_field ["self", "address"] []
  f_Reversal_mark : Addr
  d_Reversal_mark : FuncData
  F_Reversal_mark : Fun K "mark" "Reversal.mark" s_Reversal_mark f_Reversal_mark d_Reversal_mark
  b_Reversal_mark : Binds K d_Reversal_mark ["self", "root"] []
  f_Reversal_led : Addr
  d_Reversal_led : FuncData
  F_Reversal_led : Fun K "led" "Reversal.led" s_Reversal_led f_Reversal_led d_Reversal_led
  b_Reversal_led : Binds K d_Reversal_led ["self", "kept"] []
  f_marked_by_turning : Addr
  d_marked_by_turning : FuncData
  F_marked_by_turning : Fun K "marked_by_turning" "marked_by_turning" s_marked_by_turning f_marked_by_turning d_marked_by_turning
  b_marked_by_turning : Binds K d_marked_by_turning ["memory"] []
  g_marked_by_turning : mg "marked_by_turning" = some (.ref f_marked_by_turning)
  f_law_cell : Addr
  d_law_cell : FuncData
  F_law_cell : Fun K "_law_cell" "_law_cell" s_law_cell f_law_cell d_law_cell
  b_law_cell : Binds K d_law_cell ["script", "k"] []
  g_law_cell : mg "_law_cell" = some (.ref f_law_cell)
  f_law_digits : Addr
  d_law_digits : FuncData
  F_law_digits : Fun K "_law_digits" "_law_digits" s_law_digits f_law_digits d_law_digits
  b_law_digits : Binds K d_law_digits ["script", "first", "last"] []
  g_law_digits : mg "_law_digits" = some (.ref f_law_digits)
  f_law_box : Addr
  d_law_box : FuncData
  F_law_box : Fun K "_law_box" "_law_box" s_law_box f_law_box d_law_box
  b_law_box : Binds K d_law_box ["script", "first", "last"] []
  g_law_box : mg "_law_box" = some (.ref f_law_box)
  f_law_draw : Addr
  d_law_draw : FuncData
  F_law_draw : Fun K "_law_draw" "_law_draw" s_law_draw f_law_draw d_law_draw
  b_law_draw : Binds K d_law_draw ["box", "many"] []
  g_law_draw : mg "_law_draw" = some (.ref f_law_draw)
  f_law_shuffled : Addr
  d_law_shuffled : FuncData
  F_law_shuffled : Fun K "_law_shuffled" "_law_shuffled" s_law_shuffled f_law_shuffled d_law_shuffled
  b_law_shuffled : Binds K d_law_shuffled ["box", "numbers"] []
  g_law_shuffled : mg "_law_shuffled" = some (.ref f_law_shuffled)
  f_law_numbers : Addr
  d_law_numbers : FuncData
  F_law_numbers : Fun K "_law_numbers" "_law_numbers" s_law_numbers f_law_numbers d_law_numbers
  b_law_numbers : Binds K d_law_numbers ["heap"] []
  g_law_numbers : mg "_law_numbers" = some (.ref f_law_numbers)
  f_law_of : Addr
  d_law_of : FuncData
  F_law_of : Fun K "_law_of" "_law_of" s_law_of f_law_of d_law_of
  b_law_of : Binds K d_law_of ["heap", "number"] []
  g_law_of : mg "_law_of" = some (.ref f_law_of)
  f_law_body : Addr
  d_law_body : FuncData
  F_law_body : Fun K "_law_body" "_law_body" s_law_body f_law_body d_law_body
  b_law_body : Binds K d_law_body ["box", "row"] []
  g_law_body : mg "_law_body" = some (.ref f_law_body)
  f_law_memory : Addr
  d_law_memory : FuncData
  F_law_memory : Fun K "_law_memory" "_law_memory" s_law_memory f_law_memory d_law_memory
  b_law_memory : Binds K d_law_memory ["box", "heap"] []
  g_law_memory : mg "_law_memory" = some (.ref f_law_memory)
  f_law_blocks : Addr
  d_law_blocks : FuncData
  F_law_blocks : Fun K "_law_blocks" "_law_blocks" s_law_blocks f_law_blocks d_law_blocks
  b_law_blocks : Binds K d_law_blocks ["cells"] []
  g_law_blocks : mg "_law_blocks" = some (.ref f_law_blocks)
  f_law_same : Addr
  d_law_same : FuncData
  F_law_same : Fun K "_law_same" "_law_same" s_law_same f_law_same d_law_same
  b_law_same : Binds K d_law_same ["actual", "expected"] []
  g_law_same : mg "_law_same" = some (.ref f_law_same)
  f_law : Addr
  d_law : FuncData
  F_law : Fun K "law" "law" s_law f_law d_law
  b_law : Binds K d_law ["script"] []
  g_law : mg "law" = some (.ref f_law)
  s_law : ∀ (s : Shared) (v : Value), BindsTo s d_law ⟨[v], []⟩ [("script", v)]
  C_Reversal : Addr
  cl_Reversal : Cls K C_Reversal
  g_Reversal : mg "Reversal" = some (.ref C_Reversal)
  na_Reversal_cells : NoAttr K C_Reversal "cells"
  na_Reversal_done : NoAttr K C_Reversal "done"
  na_Reversal_marks : NoAttr K C_Reversal "marks"
  mk_Reversal : Mk K C_Reversal f_Reversal___init__
  me_Reversal_begin : Meth K C_Reversal "begin" f_Reversal_begin
  me_Reversal_next_field : Meth K C_Reversal "next_field" f_Reversal_next_field
  me_Reversal_mark : Meth K C_Reversal "mark" f_Reversal_mark
  me_Reversal_led : Meth K C_Reversal "led" f_Reversal_led
end K82

namespace K82
open PySem hiding Env
open L2 CW
/-! ### the draws -/
abbrev bx (l : List Int) (a : Nat) : D := .lst .o [.lst .f (l.map D.int), .int a]
def dr (l : List Int) (a : Nat) (n : Int) : Int := (l[a]?.getD 0) % n
theorem dr_lt {l : List Int} {a : Nat} {n : Int} (h : 0 < n) : 0 ≤ dr l a n ∧ dr l a n < n := ⟨Int.emod_nonneg _ (by omega), Int.emod_lt_of_pos _ h⟩
theorem draw_at {l : List Int} {a : Nat} {n : Int} (hn : 0 < n) : F_law_draw [bx l a, .int n] = some (.int (dr l a n), [bx l (a + 1), .any]) := by
  unfold F_law_draw m_law_draw bx dr
  by_cases h : a < l.length
  · have e : atI (l.map D.int) (a : Int) = some (.int l[a]) := atI_of (by simp [h])
    simp [h, e, hn]
  · simp [h]
theorem cell_at {ns : List Int} {k : Nat} : F_law_cell [.lst .x (ns.map D.int), .int k] = some (.int (ns[k]?.getD 0), [.any, .any]) := by
  unfold F_law_cell m_law_cell
  by_cases h : k < ns.length
  · have e : atI (ns.map D.int) (k : Int) = some (.int ns[k]) := atI_of (by simp [h])
    simp [h, e]
  · simp [h]
theorem digits_in1 {s f t k u v : D} {c : Int} {n : Nat} (ds : List Int) (hn : n ≤ 60) (hl : ds.length ≤ 10000) : ∃ ρ', CW.forM (nameT 6) B_law_digits_1 (rngD 0 n) [s, f, t, .lst .o (ds.map D.int), k, .int c, u, v] = some (.nx ρ') ∧ ∃ c' u' ds', ρ' = [s, f, t, .lst .o (List.map D.int ds'), k, .int c', u', v] ∧ ds'.length ≤ ds.length + n := by
  refine forM_rng (fun j ρ => ∃ c' u' ds', ρ = [s, f, t, .lst .o (List.map D.int ds'), k, .int c', u', v] ∧ ds'.length ≤ ds.length + j) ⟨c, u, ds, rfl, by omega⟩ ?_
  rintro j ρ hj ⟨c', u', ds', rfl, hl'⟩
  have h0 : ds'.length < 16777216 := by omega
  by_cases hc : 0 < c'
  · simp [B_law_digits_1, hc, h0]
    exact ⟨_, _, ds' ++ [c' % 1000], ⟨by simp, rfl, rfl⟩, by simp; omega⟩
  · simp [B_law_digits_1, hc]
    exact ⟨_, _, ds', ⟨rfl, rfl, rfl⟩, by omega⟩
theorem digits_in2 {s f t k c u : D} {v : Int} {n : Nat} (ds : List Int) (hn : n ≤ 60) (hl : ds.length ≤ 10000) : ∃ ρ', CW.forM (nameT 6) B_law_digits_2 (rngD 0 n) [s, f, t, .lst .o (ds.map D.int), k, c, u, .int v] = some (.nx ρ') ∧ ∃ v' u' ds', ρ' = [s, f, t, .lst .o (List.map D.int ds'), k, c, u', .int v'] ∧ ds'.length ≤ ds.length + n := by
  refine forM_rng (fun j ρ => ∃ v' u' ds', ρ = [s, f, t, .lst .o (List.map D.int ds'), k, c, u', .int v'] ∧ ds'.length ≤ ds.length + j) ⟨v, u, ds, rfl, by omega⟩ ?_
  rintro j ρ hj ⟨v', u', ds', rfl, hl'⟩
  have h0 : ds'.length < 16777216 := by omega
  simp [B_law_digits_2, h0]
  exact ⟨_, _, ds' ++ [(v' * 16807 + 7 * (j : Int) + 1) % 2147483647 / 997 % 1000], ⟨by simp, rfl, rfl⟩, by simp; omega⟩
theorem digits_key {ns ds : List Int} {j : Nat} {z : Int} {u v : D} (hj : j < 63) (hl : ds.length ≤ 60 * j) (q : Int) : ∃ ρ2, ifM (qB (asB (op2 geI (rdS 5) (op2 powI (cst (D.int 10)) (cst (D.int 18)))))) (forS (rng1W (cst (D.int 60))) (nameT 6) B_law_digits_1) (seqM (setM 7 (vQ (op2 modI (un1 intD (op2 addI (op2 addI (op2 mulI (rdS 5) (cst (D.int 48271))) (op2 mulI (rdS 4) (cst (D.int 69621)))) (cst (D.int 11)))) (cst (D.int 2147483647))))) (forS (rng1W (cst (D.int 12))) (nameT 6) B_law_digits_2))
        [.lst .x (ns.map D.int), .int 0, .int 63, .lst .o (List.map D.int ds), .int z, .int q, u, v] = some (.nx ρ2) ∧ ∃ ds k c u v, ρ2 = [.lst .x (ns.map D.int), .int 0, .int 63, .lst .o (List.map D.int ds), k, c, u, v] ∧ ds.length ≤ 60 * (j + 1) := by
  by_cases hq : (1000000000000000000 : Int) ≤ q
  · obtain ⟨ρ', e, c', u', ds', rfl, h2⟩ := digits_in1 (s := .lst .x (ns.map D.int)) (f := .int 0) (t := .int 63) (k := .int z) (u := u) (v := v) (c := q) (n := 60) ds (by omega) (by omega)
    refine ⟨_, by simp [hq]; exact e, ds', _, _, _, _, rfl, by omega⟩
  · obtain ⟨ρ', e, c', u', ds', rfl, h2⟩ := digits_in2 (s := .lst .x (ns.map D.int)) (f := .int 0) (t := .int 63) (k := .int z) (u := u) (c := .int q) (v := (q * 48271 + z * 69621 + 11) % 2147483647) (n := 12) ds (by omega) (by omega)
    refine ⟨_, by simp [hq]; exact e, ds', _, _, _, _, rfl, by omega⟩
theorem digits_turn {ns ds : List Int} {j : Nat} {k c u v : D} (hj : j < 63) (hl : ds.length ≤ 60 * j) : ∃ ρ2, turnM (nameT 4) B_law_digits_3 (.int j) [.lst .x (ns.map D.int), .int 0, .int 63, .lst .o (List.map D.int ds), k, c, u, v] = some (.nx ρ2) ∧ ∃ ds k c u v, ρ2 = [.lst .x (ns.map D.int), .int 0, .int 63, .lst .o (List.map D.int ds), k, c, u, v] ∧ ds.length ≤ 60 * (j + 1) := by
  by_cases hq : ns[j]?.getD 0 < 0
  · obtain ⟨ρ2, e, h2⟩ := digits_key (ns := ns) (z := (j : Int)) (u := u) (v := v) hj hl (1 - 2 * ns[j]?.getD 0)
    exact ⟨ρ2, turn_run rfl (by unfold B_law_digits_3; exact seq_run (by simp [cell_at]; rfl) (seq_run (by simp [hq]) e)), h2⟩
  · obtain ⟨ρ2, e, h2⟩ := digits_key (ns := ns) (z := (j : Int)) (u := u) (v := v) hj hl (ns[j]?.getD 0)
    exact ⟨ρ2, turn_run rfl (by unfold B_law_digits_3; exact seq_run (by simp [cell_at]; rfl) (seq_run (by simp [hq]) e)), h2⟩
theorem digits_loop {ns : List Int} : ∃ ρ', CW.forM (nameT 4) B_law_digits_3 (rngD 0 63) [.lst .x (ns.map D.int), .int 0, .int 63, .lst .o [], .any, .any, .any, .any] = some (.nx ρ') ∧ ∃ ds k c u v, ρ' = [.lst .x (ns.map D.int), .int 0, .int 63, .lst .o (List.map D.int ds), k, c, u, v] ∧ ds.length ≤ 60 * 63 := by
  refine forM_rng (fun j ρ => ∃ ds k c u v, ρ = [.lst .x (ns.map D.int), .int 0, .int 63, .lst .o (List.map D.int ds), k, c, u, v] ∧ ds.length ≤ 60 * j) ⟨[], _, _, _, _, rfl, by simp⟩ ?_
  rintro j ρ hj ⟨ds, k, c, u, v, rfl, hl⟩
  rw [Int.zero_add]
  exact digits_turn hj hl
theorem digits_at {ns : List Int} : ∃ l : List Int, F_law_digits [.lst .x (ns.map D.int), .int 0, .int 63] = some (.lst .o (l.map D.int), [.any, .any, .any]) := by
  obtain ⟨ρ', e, ds, k, c, u, v, rfl, _⟩ := digits_loop (ns := ns)
  unfold F_law_digits m_law_digits
  simp [e]
  exact ⟨ds, rfl⟩
theorem box_at {ns : List Int} : ∃ l : List Int, F_law_box [.lst .x (ns.map D.int), .int 0, .int 63] = some (bx l 0, [.any, .any, .any]) := by
  obtain ⟨l, e⟩ := digits_at (ns := ns)
  refine ⟨l, ?_⟩
  unfold F_law_box m_law_box
  simp [e]
end K82

namespace K82
open PySem hiding Env
open L2 CW
theorem emod_ix {v : Int} {n : Nat} (h : 0 < n) : 0 ≤ v % (n : Int) ∧ v % (n : Int) < n := ⟨Int.emod_nonneg _ (by omega), Int.emod_lt_of_pos _ (by omega)⟩
theorem shuf_turn {l ls os : List Int} {a' : Nat} {x k : D} (hls : 0 < ls.length) (h1 : 0 ≤ dr l a' 1000 % (ls.length : Int)) (h2 : dr l a' 1000 % (ls.length : Int) < ls.length) (h3 : (dr l a' 1000 % (ls.length : Int)).toNat < ls.length) (h4 : ls.length ≤ 16777216) (h5 : os.length < 16777216) : 
  B_law_shuffled_1 [bx l a', x, .lst .o (List.map D.int ls), .lst .o (List.map D.int os), k] = some (.nx [bx l (a' + 1), x, .lst .o ((ls.map D.int).eraseIdx (dr l a' 1000 % (ls.length : Int)).toNat), .lst .o (List.map D.int os ++ [.int ls[(dr l a' 1000 % (ls.length : Int)).toNat]]), k]) := by
  unfold B_law_shuffled_1
  simp [draw_at, hls]
  simp [h1, h2, h3, h4, h5]
theorem map_eraseIdx {α β : Type} (f : α → β) : ∀ (l : List α) (k : Nat), (l.map f).eraseIdx k = (l.eraseIdx k).map f
  | [], _ => by simp
  | a :: l, 0 => by simp
  | a :: l, k + 1 => by simp [map_eraseIdx f l k]
theorem erase_perm {α : Type} : ∀ (l : List α) (k : Nat) (h : k < l.length), ([l[k]] ++ l.eraseIdx k).Perm l
  | a :: l, 0, _ => by simp
  | a :: l, k + 1, h => by
    have hk : k < l.length := by simpa using h
    have ih := erase_perm l k hk
    simp only [List.getElem_cons_succ, List.eraseIdx_cons_succ]
    exact (List.Perm.swap a l[k] (l.eraseIdx k)).trans (ih.cons a)
theorem shuf_at {l : List Int} {a : Nat} {md : Md} (ns : List Int) (hl : ns.length ≤ 1000) : ∃ a' os, F_law_shuffled [bx l a, .lst md (ns.map D.int)] = some (.lst .o (List.map D.int os), [bx l a', .any]) ∧ os.Perm ns := by
  have L : ∃ ρ', CW.forM (nameT 4) B_law_shuffled_1 (rngD 0 ns.length) [bx l a, .lst md (ns.map D.int), .lst .o (ns.map D.int), .lst .o [], .any] = some (.nx ρ') ∧ ∃ a' ls os k, ρ' = [bx l a', .lst md (ns.map D.int), .lst .o (List.map D.int ls), .lst .o (List.map D.int os), k] ∧ (ls ++ os).Perm ns ∧ os.length = ns.length := by
    refine forM_rng (fun j ρ => ∃ a' ls os k, ρ = [bx l a', .lst md (ns.map D.int), .lst .o (List.map D.int ls), .lst .o (List.map D.int os), k] ∧ (ls ++ os).Perm ns ∧ os.length = j) ⟨a, ns, [], _, rfl, by simp, rfl⟩ ?_
    rintro j ρ hj ⟨a', ls, os, k, rfl, hp, ho⟩
    have hlen := hp.length_eq
    simp only [List.length_append] at hlen
    have hls : 0 < ls.length := by omega
    obtain ⟨h1, h2⟩ := emod_ix (v := dr l a' 1000) hls
    have h3 : (dr l a' 1000 % (ls.length : Int)).toNat < ls.length := by omega
    refine ⟨_, turn_run rfl (shuf_turn hls h1 h2 h3 (by omega) (by omega)), a' + 1, ls.eraseIdx (dr l a' 1000 % (ls.length : Int)).toNat, os ++ [ls[(dr l a' 1000 % (ls.length : Int)).toNat]], .int (0 + (j : Int)), ?_, ?_, by simp [ho]⟩
    · simp [map_eraseIdx]
    · refine List.Perm.trans ?_ hp
      rw [← List.append_assoc]
      refine List.perm_append_comm.trans ?_
      rw [← List.append_assoc]
      refine List.Perm.append_right os ?_
      exact erase_perm _ _ h3
  obtain ⟨ρ', e, a', ls, os, k, rfl, hp, ho⟩ := L
  have hlen := hp.length_eq
  simp only [List.length_append] at hlen
  have : ls = [] := List.eq_nil_of_length_eq_zero (by omega)
  subst this
  refine ⟨a', os, ?_, hp⟩
  unfold F_law_shuffled m_law_shuffled
  refine fn_ret (ρ := [bx l a', .lst md (ns.map D.int), .lst .o [], .any, k]) rfl ?_ rfl
  refine seq_run (ρ1 := [bx l a, .lst md (ns.map D.int), .lst .o (ns.map D.int), .any, .any]) (by simp) ?_
  refine seq_run (ρ1 := [bx l a, .lst md (ns.map D.int), .lst .o (ns.map D.int), .lst .o [], .any]) (by simp) ?_
  refine seq_run (for_run (rng1_run (n := ns.length) (by simp) (by omega)) e) ?_
  simp
end K82

namespace K82
open PySem hiding Env
open L2 CW
/-! ### heaps -/
def oD : Option Nat → D
  | none => .non
  | some y => .int (y : Nat)
abbrev Fs := List (List (Option Nat))
def rowD (x : Nat) (f : List (Option Nat)) : D := .tup [.str "record", .int (x : Nat), .tup (f.map oD)]
def rowsD (fs : Fs) : List D := fs.mapIdx rowD
def heapD (fs : Fs) (rg : List (Option Nat)) : D := .tup [.str "heap", .int (fs.length : Nat), .tup (rg.map oD), .tup [], .tup (rowsD fs), .tup []]
theorem rows_len {fs : Fs} : (rowsD fs).length = fs.length := by simp [rowsD]
theorem rows_get {fs : Fs} {x : Nat} : (rowsD fs)[x]? = (fs[x]?).map (rowD x) := by simp [rowsD, List.getElem?_mapIdx]
theorem numbers_at {fs : Fs} {rg : List (Option Nat)} (h : fs.length ≤ 1000) : F_law_numbers [heapD fs rg] = some (.lst .o ((List.range fs.length).map fun x : Nat => D.int (x : Int)), [.any]) := by
  unfold F_law_numbers m_law_numbers
  refine fn_ret (ρ := [heapD fs rg, .any]) rfl (ret_run ?_) rfl
  have e : (List.range fs.length).map (fun x : Nat => D.int (x : Int)) = (rowsD fs).map fun d => match d with | .tup [_, k, _] => k | _ => .any := by
    refine List.ext_getElem? fun i => ?_
    rw [List.getElem?_map, List.getElem?_map, rows_get]
    by_cases hi : i < fs.length
    · rw [List.getElem?_range hi, List.getElem?_eq_getElem hi]
      rfl
    · rw [List.getElem?_eq_none (by simp; omega), List.getElem?_eq_none (by omega)]
      rfl
  rw [e]
  refine lc_run (ρ1 := [heapD fs rg, .any]) (ρ2 := [heapD fs rg, .any]) (ds := rowsD fs) rfl (tup_run (by simp [heapD])) rfl ?_
  refine compGo_map _ _ (by rw [rows_len]; omega) fun d hd => ?_
  obtain ⟨x, hx, rfl⟩ := List.mem_iff_getElem.mp hd
  have hx2 : x < fs.length := by rw [rows_len] at hx; exact hx
  have : (rowsD fs)[x] = rowD x fs[x] := by
    have := rows_get (fs := fs) (x := x)
    rw [List.getElem?_eq_getElem hx, List.getElem?_eq_getElem hx2] at this
    exact Option.some.inj this
  rw [this]
  refine ⟨[heapD fs rg, rowD x fs[x]], rfl, rfl, [heapD fs rg, rowD x fs[x]], ?_, rfl⟩
  simp [E_law_numbers_1, rowD]
theorem forM_find {t : D → Env → Option Env} {s : Env → Option Res} {r : D} (I J : Env → Prop) : ∀ (ds : List D) (k : Nat) (ρ : Env) (d : D), I ρ → (∀ j d ρ, j < k → ds[j]? = some d → I ρ → ∃ ρ2, turnM t s d ρ = some (.nx ρ2) ∧ I ρ2) → ds[k]? = some d → (∀ ρ, I ρ → ∃ ρ', turnM t s d ρ = some (.rt r ρ') ∧ J ρ') → ∃ ρ', CW.forM t s ds ρ = some (.rt r ρ') ∧ J ρ'
  | [], k, ρ, d, _, _, hk, _ => by simp at hk
  | e :: ds, 0, ρ, d, h, _, hk, hr => by
    cases hk
    obtain ⟨ρ', e1, h1⟩ := hr ρ h
    exact ⟨ρ', forM_ret e1, h1⟩
  | e :: ds, k + 1, ρ, d, h, hs, hk, hr => by
    obtain ⟨ρ2, e1, h1⟩ := hs 0 e ρ (by omega) rfl h
    rw [forM_cons e1]
    exact forM_find I J ds k ρ2 d h1 (fun j d ρ hj hd hI => hs (j + 1) d ρ (by omega) (by simpa using hd) hI) (by simpa using hk) hr
theorem of_at {fs : Fs} {rg : List (Option Nat)} {x : Nat} (h : x < fs.length) : F_law_of [heapD fs rg, .int (x : Nat)] = some (rowD x fs[x], [.any, .any]) := by
  have L : ∃ ρ', CW.forM (nameT 2) B_law_of_1 (rowsD fs) [heapD fs rg, .int (x : Nat), .any] = some (.rt (rowD x fs[x]) ρ') ∧ ρ' = [heapD fs rg, .int (x : Nat), .any] := by
    refine forM_find (fun ρ => ∃ y, ρ = [heapD fs rg, .int (x : Nat), y]) (fun ρ' => ρ' = [heapD fs rg, .int (x : Nat), .any]) _ x _ (rowD x fs[x]) ⟨_, rfl⟩ ?_ (by rw [rows_get, List.getElem?_eq_getElem h]; rfl) ?_
    · rintro j d ρ hj hd ⟨y, rfl⟩
      have hj2 : j < fs.length := by omega
      rw [rows_get, List.getElem?_eq_getElem hj2] at hd
      cases hd
      refine ⟨[heapD fs rg, .int (x : Nat), rowD j fs[j]], turn_run rfl ?_, _, rfl⟩
      have hne : ¬ (j : Int) = (x : Int) := by omega
      simp [B_law_of_1, rowD, hne]
    · rintro ρ ⟨y, rfl⟩
      refine ⟨[heapD fs rg, .int (x : Nat), .any], turn_run rfl ?_, rfl⟩
      simp [B_law_of_1, rowD]
  obtain ⟨ρ', e, rfl⟩ := L
  unfold F_law_of m_law_of
  refine fn_ret (ρ := [heapD fs rg, .int (x : Nat), .any]) rfl (seq_stop (for_run (ρ1 := [heapD fs rg, .int (x : Nat), .any]) (tup_run (by simp [heapD])) e)) rfl
theorem body_at {b : D} {x : Nat} {f : List (Option Nat)} (hb : b ≠ .any) : F_law_body [b, rowD x f] = some (.lst .o (f.map oD), [b, .any]) := by
  unfold F_law_body m_law_body
  refine fn_ret (ρ := [b, rowD x f, .any, .any, .any]) rfl (seq_stop (if_true' (ρ1 := [b, rowD x f, .any, .any, .any]) ?_ (ret_run ?_))) rfl
  · simp [rowD]
  · simp [rowD]
end K82

namespace K82
open PySem hiding Env
open L2 CW
/-! ### blocks: a free one of s cells, the object x -/
abbrev Blk := Nat ⊕ Nat
def fds (fs : Fs) (x : Nat) : List (Option Nat) := fs[x]?.getD []
def szB (fs : Fs) : Blk → Nat
  | .inl s => s
  | .inr x => 3 + (fds fs x).length
def rowB (fs : Fs) : Blk → D
  | .inl s => .tup [.int 0, .int (s : Nat), .lst .f []]
  | .inr x => .tup [.int 1, .int (x : Nat), .lst .f ((fds fs x).map oD)]
def tot (fs : Fs) : List Blk → Nat
  | [] => 0
  | b :: bs => szB fs b + tot fs bs
def off (fs : Fs) (x : Nat) : List Blk → Nat
  | [] => 0
  | b :: bs => if b = .inr x then 0 else szB fs b + off fs x bs
def recs : List Blk → List Nat
  | [] => []
  | .inl _ :: bs => recs bs
  | .inr x :: bs => x :: recs bs
theorem recs_app (a b : List Blk) : recs (a ++ b) = recs a ++ recs b := by
  induction a with
  | nil => rfl
  | cons c a ih => cases c <;> simp [recs, ih]
theorem tot_app (fs : Fs) (a b : List Blk) : tot fs (a ++ b) = tot fs a + tot fs b := by
  induction a with
  | nil => simp [tot]
  | cons c a ih => simp [tot, ih]; omega
theorem mem_recs {bs : List Blk} {x : Nat} : x ∈ recs bs ↔ .inr x ∈ bs := by
  induction bs with
  | nil => simp [recs]
  | cons c a ih => cases c <;> simp [recs, ih]
theorem off_app (fs : Fs) {a b : List Blk} {x : Nat} (h : x ∈ recs a) : off fs x (a ++ b) = off fs x a := by
  induction a with
  | nil => simp [recs] at h
  | cons c a ih =>
    simp only [List.cons_append, off]
    split
    · rfl
    · rename_i hc
      rw [ih ?_]
      cases c with
      | inl s => exact h
      | inr y =>
        simp only [recs, List.mem_cons] at h
        rcases h with rfl | h
        · exact absurd rfl hc
        · exact h
theorem off_new (fs : Fs) {a : List Blk} {x : Nat} (h : x ∉ recs a) : off fs x (a ++ [.inr x]) = tot fs a := by
  induction a with
  | nil => simp [off, tot]
  | cons c a ih =>
    have hc : c ≠ .inr x := fun e => h (by subst e; simp [recs])
    simp only [List.cons_append, off, if_neg hc, tot]
    rw [ih ?_]
    cases c with
    | inl s => exact h
    | inr y => exact fun z => h (List.mem_cons_of_mem _ z)
/-- where the places' table stands -/
def plK (bs : List Blk) : List Key := (recs bs).map fun x : Nat => .inl (x : Int)
def plD (fs : Fs) (bs : List Blk) : List D := (recs bs).map fun x : Nat => .int (off fs x bs : Nat)
theorem lk_map (g : Nat → D) : ∀ (l : List Nat) (x : Nat), x ∈ l → lk (.inl (x : Int)) (l.map fun y : Nat => (.inl (y : Int) : Key)) (l.map g) = some (g x)
  | [], _, h => by simp at h
  | y :: l, x, h => by
    simp only [List.map_cons, lk]
    by_cases hy : y = x
    · subst hy; simp
    · have h1 : (Sum.inl (y : Int) : Key) ≠ .inl (x : Int) := fun e => hy (by have := Sum.inl.inj e; omega)
      rw [if_neg h1]
      exact lk_map g l x (by rcases List.mem_cons.mp h with e | e; exact absurd e.symm hy; exact e)
theorem lk_pl {fs : Fs} {bs : List Blk} {x : Nat} (h : x ∈ recs bs) : lk (.inl (x : Int)) (plK bs) (plD fs bs) = some (.int (off fs x bs : Nat)) := lk_map (fun x : Nat => .int (off fs x bs : Nat)) _ _ h
theorem has_pl {bs : List Blk} {x : Nat} (h : x ∉ recs bs) : hasK (.inl (x : Int)) (plK bs) = false := by
  unfold hasK plK
  rw [List.any_eq_false]
  intro k hk
  obtain ⟨y, hy, rfl⟩ := List.mem_map.mp hk
  simp only [decide_eq_true_eq]
  intro e
  have := Sum.inl.inj e
  have e3 : y = x := by omega
  subst e3
  exact h hy
theorem put_pl {fs : Fs} {bs : List Blk} {x : Nat} (h : x ∉ recs bs) : putKD (plK bs) (plD fs bs) (.inl (x : Int)) (.int (tot fs bs : Nat)) = (plK (bs ++ [.inr x]), plD fs (bs ++ [.inr x])) := by
  unfold putKD
  rw [has_pl h]
  simp only [Bool.false_eq_true, if_false]
  unfold plK plD
  rw [recs_app]
  simp only [recs, List.map_append, List.map_cons, List.map_nil, off_new fs h]
  refine Prod.ext rfl ?_
  simp only
  congr 1
  refine List.map_congr_left fun y hy => ?_
  rw [off_app fs hy]
theorem pl_free {fs : Fs} {bs : List Blk} {s : Nat} : plK (bs ++ [.inl s]) = plK bs ∧ plD fs (bs ++ [.inl s]) = plD fs bs := by
  unfold plK plD
  rw [recs_app]
  simp only [recs, List.append_nil, true_and]
  exact List.map_congr_left fun y hy => by rw [off_app fs hy]
/-- the frame of the memory's def -/
abbrev mE (l : List Int) (a : Nat) (hp : D) (fs : Fs) (bs : List Blk) (u5 u6 u7 u8 u9 u10 u11 u12 : D) : Env := [bx l a, hp, .lst .o (bs.map (rowB fs)), .dic .o (plK bs) (plD fs bs), .int (tot fs bs : Nat), u5, u6, u7, u8, u9, u10, u11, u12]
theorem idx_rec : indexD (.lst .o [.str "free", .str "record", .str "weak", .str "table"]) (.str "record") = some (.int 1) := by rfl
theorem draw_run {l : List Int} {a : Nat} {n : Int} {i : Nat} {m : Env → Option (D × Env)} {ρ : Env} (hi : rdS i ρ = some (bx l a)) (hn : 0 < n) (hm : m (ρ) = some (.int n, ρ)) : callM F_law_draw (lendC i (consC m nilC)) ρ = some (.int (dr l a n), (ρ.set i .any).set i (bx l (a + 1))) := by
  refine call_run (os := [.s i, .v (.int n)]) (ρ1 := ρ) (ρ2 := ρ.set i .any) (ds := [bx l a, .int n]) (outs := [bx l (a + 1), .any]) ?_ ?_ (draw_at hn) rfl rfl
  · rw [x_lendC, hi]
    simp [hm]
  · rw [x_takes, hi]
    simp
theorem mem_part2 {l : List Int} {a : Nat} {fs : Fs} {rg : List (Option Nat)} {R ds : List D} {ks : List Key} {t : Int} {x : Nat} {u6 u7 u8 u9 u10 u11 u12 : D} (h : x < fs.length) (hR : R.length < 16777216) (hk : ks.length < 16777216) :
    seqM (setM 7 (callM F_law_of (consC (nmM 1) (consC (nmM 5) nilC)))) (seqM (setM 8 (callM F_law_body (lendC 0 (consC (nmM 7) nilC)))) (seqM (dropM (appM 2 (tupM (consM (frzM (op2M indexD (lstM (consM (vQ (cst (.str "free"))) (consM (vQ (cst (.str "record"))) (consM (vQ (cst (.str "weak"))) (consM (vQ (cst (.str "table"))) nilM))))) (vQ (op2 ixD (rdS 7) (cst (.int 0)))))) (consM (nmM 5) (consM (nmM 8) nilM)))))) (seqM (sub1M 3 (rdS 5) (nmM 4)) (setM 4 (vQ (op2 addI (op2 addI (rdS 4) (cst (.int 3))) (un1 lenD (rdS 8))))))))
      [bx l a, heapD fs rg, .lst .o R, .dic .o ks ds, .int t, .int (x : Nat), u6, u7, u8, u9, u10, u11, u12] =
    some (.nx [bx l a, heapD fs rg, .lst .o (R ++ [.tup [.int 1, .int (x : Nat), .lst .f (fs[x].map oD)]]), .dic .o (putKD ks ds (.inl (x : Int)) (.int t)).1 (putKD ks ds (.inl (x : Int)) (.int t)).2, .int (t + 3 + (fs[x].length : Nat)), .int (x : Nat), u6, rowD x fs[x], .lst .f (fs[x].map oD), u9, u10, u11, u12]) := by
  have e1 := of_at (rg := rg) h
  have e2 := body_at (b := bx l a) (x := x) (f := fs[x]) (by intro z; cases z)
  refine seq_run (ρ1 := [bx l a, heapD fs rg, .lst .o R, .dic .o ks ds, .int t, .int (x : Nat), u6, rowD x fs[x], u8, u9, u10, u11, u12]) ?_ ?_
  · refine set_run (call_run (os := [.v (heapD fs rg), .v (.int (x : Nat))]) (ds := [heapD fs rg, .int (x : Nat)]) (by simp [heapD]; rfl) rfl e1 rfl rfl) rfl
  refine seq_run (ρ1 := [bx l a, heapD fs rg, .lst .o R, .dic .o ks ds, .int t, .int (x : Nat), u6, rowD x fs[x], .lst .o (fs[x].map oD), u9, u10, u11, u12]) ?_ ?_
  · refine set_run (call_run (os := [.s 0, .v (rowD x fs[x])]) (ds := [bx l a, rowD x fs[x]]) (by simp [rowD]; rfl) (by simp; rfl) e2 rfl rfl) rfl
  refine seq_run (ρ1 := [bx l a, heapD fs rg, .lst .o (R ++ [.tup [.int 1, .int (x : Nat), .lst .f (fs[x].map oD)]]), .dic .o ks ds, .int t, .int (x : Nat), u6, rowD x fs[x], .lst .f (fs[x].map oD), u9, u10, u11, u12]) ?_ ?_
  · simp [rowD, idx_rec, hR]
  simp [hk]
end K82

namespace K82
open PySem hiding Env
open L2 CW
theorem mem_part1 {l : List Int} {a : Nat} {hp d3 u5 u6 u7 u8 u9 u10 u11 u12 : D} {R : List D} {t : Int} (hR : R.length < 16777216) : ∃ a' u6' R' t',
    ifM (cmpM eqD (callM F_law_draw (lendC 0 (consC (vQ (cst (.int 4))) nilC))) (vQ (cst (.int 0)))) (seqM (setM 6 (op2M addI (vQ (cst (.int 3))) (callM F_law_draw (lendC 0 (consC (vQ (cst (.int 5))) nilC))))) (seqM (dropM (appM 2 (tupM (consM (vQ (cst (.int 0))) (consM (nmM 6) (consM (frzM (lstM nilM)) nilM)))))) (setM 4 (vQ (op2 addI (rdS 4) (rdS 6)))))) skipM
      [bx l a, hp, .lst .o R, d3, .int t, u5, u6, u7, u8, u9, u10, u11, u12] = some (.nx [bx l a', hp, .lst .o R', d3, .int t', u5, u6', u7, u8, u9, u10, u11, u12]) ∧
    (R' = R ∧ t' = t ∨ ∃ s : Nat, 3 ≤ s ∧ s ≤ 7 ∧ R' = R ++ [.tup [.int 0, .int (s : Nat), .lst .f []]] ∧ t' = t + (s : Nat)) := by
  by_cases h : dr l a 4 = 0
  · obtain ⟨h1, h2⟩ := dr_lt (l := l) (a := a + 1) (n := 5) (by omega)
    have hs : ((3 + (dr l (a + 1) 5).toNat : Nat) : Int) = 3 + dr l (a + 1) 5 := by omega
    refine ⟨a + 1 + 1, .int (3 + dr l (a + 1) 5), R ++ [.tup [.int 0, .int (3 + dr l (a + 1) 5), .lst .f []]], t + (3 + dr l (a + 1) 5), ?_, .inr ⟨3 + (dr l (a + 1) 5).toNat, by omega, by omega, by rw [hs], by rw [hs]⟩⟩
    refine if_true' (ρ1 := [bx l (a + 1), hp, .lst .o R, d3, .int t, u5, u6, u7, u8, u9, u10, u11, u12]) (by simp [draw_at, h]) ?_
    refine seq_run (ρ1 := [bx l (a + 1 + 1), hp, .lst .o R, d3, .int t, u5, .int (3 + dr l (a + 1) 5), u7, u8, u9, u10, u11, u12]) (by simp [draw_at]) ?_
    simp [hR]
  · refine ⟨a + 1, u6, R, t, ?_, .inl ⟨rfl, rfl⟩⟩
    exact if_false' (ρ1 := [bx l (a + 1), hp, .lst .o R, d3, .int t, u5, u6, u7, u8, u9, u10, u11, u12]) (by simp [draw_at, h]) (by simp)
theorem mem_turn {l : List Int} {a : Nat} {fs : Fs} {rg : List (Option Nat)} {bs : List Blk} {x : Nat} {u5 u6 u7 u8 u9 u10 u11 u12 : D} (h : x < fs.length) (hx : x ∉ recs bs) (hb : bs.length ≤ 1000) (hk : (recs bs).length ≤ 1000) :
    ∃ a' bs' v5 v6 v7 v8, turnM (nameT 5) B_law_memory_1 (.int (x : Nat)) (mE l a (heapD fs rg) fs bs u5 u6 u7 u8 u9 u10 u11 u12) = some (.nx (mE l a' (heapD fs rg) fs bs' v5 v6 v7 v8 u9 u10 u11 u12)) ∧ (bs' = bs ++ [.inr x] ∨ ∃ s, 3 ≤ s ∧ s ≤ 7 ∧ bs' = (bs ++ [.inl s]) ++ [.inr x]) := by
  obtain ⟨a', u6', R', t', e, hR⟩ := mem_part1 (l := l) (a := a) (hp := heapD fs rg) (d3 := .dic .o (plK bs) (plD fs bs)) (u5 := .int (x : Nat)) (u6 := u6) (u7 := u7) (u8 := u8) (u9 := u9) (u10 := u10) (u11 := u11) (u12 := u12) (R := bs.map (rowB fs)) (t := (tot fs bs : Nat)) (by simp; omega)
  -- the state behind the free block
  have key : ∃ bs1 : List Blk, R' = bs1.map (rowB fs) ∧ t' = (tot fs bs1 : Nat) ∧ plK bs1 = plK bs ∧ plD fs bs1 = plD fs bs ∧ recs bs1 = recs bs ∧ bs1.length ≤ bs.length + 1 ∧ (bs1 = bs ∨ ∃ s, 3 ≤ s ∧ s ≤ 7 ∧ bs1 = bs ++ [.inl s]) := by
    rcases hR with ⟨rfl, rfl⟩ | ⟨s, h3, h7, rfl, rfl⟩
    · exact ⟨bs, rfl, rfl, rfl, rfl, rfl, by omega, .inl rfl⟩
    · refine ⟨bs ++ [.inl s], by simp [rowB], by simp [tot_app, tot, szB], (pl_free (fs := fs)).1, pl_free.2, by simp [recs_app, recs], by simp, .inr ⟨s, h3, h7, rfl⟩⟩
  obtain ⟨bs1, rfl, rfl, k1, k2, k3, hl1, hor⟩ := key
  have hx1 : x ∉ recs bs1 := by rw [k3]; exact hx
  refine ⟨a', bs1 ++ [.inr x], .int (x : Nat), u6', rowD x fs[x], .lst .f (fs[x].map oD), turn_run rfl ?_, ?_⟩
  · unfold B_law_memory_1
    refine seq_run e ?_
    rw [mem_part2 h (by simp; omega) (by simp [plK]; omega), ← k1, ← k2, put_pl hx1]
    have hf : fds fs x = fs[x] := by simp [fds, h]
    simp [mE, rowB, hf, tot_app, tot, szB]
    omega
  · rcases hor with rfl | ⟨s, h3, h7, rfl⟩
    · exact .inl rfl
    · exact .inr ⟨s, h3, h7, rfl⟩
def frOK (bs : List Blk) : Prop := ∀ s, .inl s ∈ bs → 3 ≤ s ∧ s ≤ 7
theorem frOK_nil : frOK [] := fun s h => by simp at h
theorem frOK_x {bs : List Blk} {x : Nat} (h : frOK bs) : frOK (bs ++ [.inr x]) := fun s hs => h s (by simpa using hs)
theorem frOK_s {bs : List Blk} {s : Nat} (h : frOK bs) (h3 : 3 ≤ s) (h7 : s ≤ 7) : frOK (bs ++ [.inl s]) := fun t ht => by
  rcases List.mem_append.mp ht with z | z
  · exact h t z
  · simp at z; omega
theorem mem_loop1 {l : List Int} {a : Nat} {fs : Fs} {rg : List (Option Nat)} {os : List Nat} (hn : os.Nodup) (ho : ∀ x ∈ os, x < fs.length) (hl : os.length ≤ 100) :
    ∃ ρ', CW.forM (nameT 5) B_law_memory_1 (os.map fun x : Nat => .int (x : Nat)) (mE l a (heapD fs rg) fs [] .any .any .any .any .any .any .any .any) = some (.nx ρ') ∧ ∃ a' bs v5 v6 v7 v8, ρ' = mE l a' (heapD fs rg) fs bs v5 v6 v7 v8 .any .any .any .any ∧ recs bs = os ∧ frOK bs ∧ bs.length ≤ 2 * os.length := by
  obtain ⟨ρ', e, a', bs, v5, v6, v7, v8, rfl, h1, h2, h3⟩ := forM_inv (t := nameT 5) (s := B_law_memory_1) (fun k ρ => ∃ a' bs v5 v6 v7 v8, ρ = mE l a' (heapD fs rg) fs bs v5 v6 v7 v8 .any .any .any .any ∧ recs bs = os.take k ∧ frOK bs ∧ bs.length ≤ 2 * k) (os.map fun x : Nat => D.int (x : Nat)) 0 (mE l a (heapD fs rg) fs [] .any .any .any .any .any .any .any .any)
    ⟨a, [], _, _, _, _, rfl, by simp [recs], frOK_nil, by simp⟩ (by
      rintro j d ρ hd ⟨a', bs, v5, v6, v7, v8, rfl, h1, h2, h3⟩
      rw [Nat.zero_add] at h1 h3 ⊢
      rw [List.getElem?_map] at hd
      have hj : j < os.length := by
        by_cases hj : j < os.length
        · exact hj
        · rw [List.getElem?_eq_none (by omega)] at hd; cases hd
      rw [List.getElem?_eq_getElem hj] at hd
      cases hd
      have hx : os[j] ∉ recs bs := by
        rw [h1]
        intro hm
        obtain ⟨i, hi, e⟩ := List.mem_iff_getElem.mp hm
        simp only [List.length_take] at hi
        rw [List.getElem_take] at e
        have := (List.getElem_inj hn).mp e
        omega
      have hr : (recs bs).length ≤ 1000 := by rw [h1]; simp; omega
      obtain ⟨a2, bs2, w5, w6, w7, w8, e, hor⟩ := mem_turn (l := l) (a := a') (rg := rg) (u5 := v5) (u6 := v6) (u7 := v7) (u8 := v8) (u9 := .any) (u10 := .any) (u11 := .any) (u12 := .any) (ho _ (List.getElem_mem hj)) hx (by omega) hr
      refine ⟨_, e, a2, bs2, w5, w6, w7, w8, rfl, ?_, ?_, ?_⟩
      · rw [List.take_add_one, List.getElem?_eq_getElem hj]
        rcases hor with rfl | ⟨s, h3, h7, rfl⟩ <;> simp [recs_app, recs, h1]
      · rcases hor with rfl | ⟨s, h3, h7, rfl⟩
        · exact frOK_x h2
        · exact frOK_x (frOK_s h2 h3 h7)
      · rcases hor with rfl | ⟨s, h3, h7, rfl⟩ <;> simp <;> omega)
  rw [List.length_map, Nat.zero_add] at h1 h3
  exact ⟨_, e, a', bs, v5, v6, v7, v8, rfl, by rw [h1, List.take_length], h2, h3⟩
end K82

namespace K82
open PySem hiding Env
open L2 CW
/-- where a field points to -/
def aO (fs : Fs) (bs : List Blk) : Option Nat → Int
  | none => -1
  | some y => (off fs y bs : Nat)
def cB (fs : Fs) (bs : List Blk) : Blk → List Int
  | .inl s => [0, ((s - 2 : Nat) : Int)] ++ List.replicate (s - 2) 0
  | .inr x => [1, (x : Int), ((fds fs x).length : Nat)] ++ (fds fs x).map (aO fs bs)
def cells (fs : Fs) (bs : List Blk) : List Int := (bs.map (cB fs bs)).flatten
abbrev inO (bs : List Blk) (o : Option Nat) : Prop := ∀ y, o = some y → y ∈ recs bs
theorem comp_cells {fs : Fs} {bs : List Blk} {f : List (Option Nat)} {u0 u1 u2 u4 u5 u6 u7 u8 u9 u10 u11 : D} (hf : ∀ o ∈ f, inO bs o) (hl : f.length ≤ 1000) :
    compGo [12] (nameT 12) yesM (frzM E_law_memory_1) (f.map oD) [u0, u1, u2, .dic .o (plK bs) (plD fs bs), u4, u5, u6, u7, u8, u9, u10, u11, .any] [] = some ((f.map (aO fs bs)).map D.int, [u0, u1, u2, .dic .o (plK bs) (plD fs bs), u4, u5, u6, u7, u8, u9, u10, u11, .any]) := by
  have e : (f.map (aO fs bs)).map D.int = (f.map oD).map fun d => match d with | .int y => .int (off fs y.toNat bs : Nat) | _ => .int (-1) := by
    rw [List.map_map, List.map_map]
    refine List.map_congr_left fun o _ => ?_
    cases o <;> simp [aO, oD]
  rw [e]
  refine compGo_map _ _ (by simp; omega) fun d hd => ?_
  obtain ⟨o, ho, rfl⟩ := List.mem_map.mp hd
  cases o with
  | none => exact ⟨[u0, u1, u2, .dic .o (plK bs) (plD fs bs), u4, u5, u6, u7, u8, u9, u10, u11, .non], rfl, rfl, [u0, u1, u2, .dic .o (plK bs) (plD fs bs), u4, u5, u6, u7, u8, u9, u10, u11, .non], by simp [E_law_memory_1, oD], rfl⟩
  | some y =>
    have hy := lk_pl (fs := fs) (hf _ ho y rfl)
    exact ⟨[u0, u1, u2, .dic .o (plK bs) (plD fs bs), u4, u5, u6, u7, u8, u9, u10, u11, .int (y : Nat)], rfl, rfl, [u0, u1, u2, .dic .o (plK bs) (plD fs bs), u4, u5, u6, u7, u8, u9, u10, u11, .int (y : Nat)], by simp [E_law_memory_1, oD, hy], rfl⟩
theorem comp_regs {fs : Fs} {bs : List Blk} {f : List (Option Nat)} {u0 u1 u2 u4 u5 u6 u7 u8 u9 u10 u11 : D} (hf : ∀ o ∈ f, inO bs o) (hl : f.length ≤ 1000) :
    compGo [12] (nameT 12) yesM (frzM E_law_memory_2) (f.map oD) [u0, u1, u2, .dic .o (plK bs) (plD fs bs), u4, u5, u6, u7, u8, u9, u10, u11, .any] [] = some ((f.map fun o => oD (o.map fun y => off fs y bs)), [u0, u1, u2, .dic .o (plK bs) (plD fs bs), u4, u5, u6, u7, u8, u9, u10, u11, .any]) := by
  have e : (f.map fun o => oD (o.map fun y => off fs y bs)) = (f.map oD).map fun d => match d with | .int y => .int (off fs y.toNat bs : Nat) | _ => .non := by
    rw [List.map_map]
    refine List.map_congr_left fun o _ => ?_
    cases o <;> simp [oD]
  rw [e]
  refine compGo_map _ _ (by simp; omega) fun d hd => ?_
  obtain ⟨o, ho, rfl⟩ := List.mem_map.mp hd
  cases o with
  | none => exact ⟨[u0, u1, u2, .dic .o (plK bs) (plD fs bs), u4, u5, u6, u7, u8, u9, u10, u11, .non], rfl, rfl, [u0, u1, u2, .dic .o (plK bs) (plD fs bs), u4, u5, u6, u7, u8, u9, u10, u11, .non], by simp [E_law_memory_2, oD], rfl⟩
  | some y =>
    have hy := lk_pl (fs := fs) (hf _ ho y rfl)
    exact ⟨[u0, u1, u2, .dic .o (plK bs) (plD fs bs), u4, u5, u6, u7, u8, u9, u10, u11, .int (y : Nat)], rfl, rfl, [u0, u1, u2, .dic .o (plK bs) (plD fs bs), u4, u5, u6, u7, u8, u9, u10, u11, .int (y : Nat)], by simp [E_law_memory_2, oD, hy], rfl⟩
abbrev tg3 : D → Env → Option Env := tupT 3 (consT (nameT 10) (consT (nameT 5) (consT (nameT 8) nilT)))
theorem mem_turn2 {fs : Fs} {bs : List Blk} {b : Blk} {C : List Int} {u0 u1 u2 u4 u5 u6 u7 u8 u10 u11 u12 : D} (h12 : u12 = .any ∨ isF u12 = true) (hs : ∀ s, b = .inl s → 3 ≤ s ∧ s ≤ 7) (hf : ∀ x, b = .inr x → ∀ o ∈ fds fs x, inO bs o) (hl : ∀ x, (fds fs x).length ≤ 100) (hC : C.length ≤ 10000) :
    ∃ v5 v8 v10, turnM tg3 B_law_memory_2 (rowB fs b) [u0, u1, u2, .dic .o (plK bs) (plD fs bs), u4, u5, u6, u7, u8, .lst .o (C.map D.int), u10, u11, u12] = some (.nx [u0, u1, u2, .dic .o (plK bs) (plD fs bs), u4, v5, u6, u7, v8, .lst .o ((C ++ cB fs bs b).map D.int), v10, u11, u12]) := by
  cases b with
  | inl s =>
    obtain ⟨h3, h7⟩ := hs s rfl
    refine ⟨.int (s : Nat), .lst .f [], .int 0, turn_run (ρ1 := [u0, u1, u2, .dic .o (plK bs) (plD fs bs), u4, .int (s : Nat), u6, u7, .lst .f [], .lst .o (C.map D.int), .int 0, u11, u12]) rfl ?_⟩
    unfold B_law_memory_2
    refine if_true' (ρ1 := [u0, u1, u2, .dic .o (plK bs) (plD fs bs), u4, .int (s : Nat), u6, u7, .lst .f [], .lst .o (C.map D.int), .int 0, u11, u12]) (by simp) ?_
    have e2 : ((s : Int) - 2).toNat = s - 2 := by omega
    have e3 : ((s - 2 : Nat) : Int) = (s : Int) - 2 := by omega
    have e4 : (-(2 ^ 63) ≤ (s : Int) - 2) ∧ (s : Int) - 2 < 2 ^ 63 := by omega
    have e5 : C.length + 2 ≤ 16777216 ∧ s - 2 ≤ 16777216 ∧ C.length + 2 + (s - 2) ≤ 16777216 := by omega
    simp only [Int.reducePow, Int.reduceNeg] at e4
    simp [e2, e4, e5, cB, e3]
  | inr x =>
    have hf := hf x rfl
    have hl := hl x
    refine ⟨.int (x : Nat), .lst .f ((fds fs x).map oD), .int 1, turn_run (ρ1 := [u0, u1, u2, .dic .o (plK bs) (plD fs bs), u4, .int (x : Nat), u6, u7, .lst .f ((fds fs x).map oD), .lst .o (C.map D.int), .int 1, u11, u12]) rfl ?_⟩
    unfold B_law_memory_2
    refine if_false' (ρ1 := [u0, u1, u2, .dic .o (plK bs) (plD fs bs), u4, .int (x : Nat), u6, u7, .lst .f ((fds fs x).map oD), .lst .o (C.map D.int), .int 1, u11, u12]) (by simp) ?_
    have e1 := lc_run (N := 13) (vs := [12]) (ms := lstW (frzM (nmM 8))) (tt := nameT 12) (t := yesM) (m := E_law_memory_1) (ρ := [u0, u1, u2, .dic .o (plK bs) (plD fs bs), u4, .int (x : Nat), u6, u7, .lst .f ((fds fs x).map oD), .lst .f (C.map D.int), .int 1, u11, u12]) rfl
      (lst_run (ρ1 := [u0, u1, u2, .dic .o (plK bs) (plD fs bs), u4, .int (x : Nat), u6, u7, .lst .f ((fds fs x).map oD), .lst .f (C.map D.int), .int 1, u11, u12]) (ds := (fds fs x).map oD) (md := .f) (by simp) (by decide)) (by
        rcases h12 with rfl | h
        · rfl
        · cases u12 <;> first | rfl | simpa using h) (comp_cells (fs := fs) (bs := bs) hf (by omega))
    have e5 : C.length + 3 ≤ 16777216 ∧ C.length + 3 + (fds fs x).length ≤ 16777216 := by omega
    refine set_run (ρ1 := [u0, u1, u2, .dic .o (plK bs) (plD fs bs), u4, .int (x : Nat), u6, u7, .lst .f ((fds fs x).map oD), .lst .f (C.map D.int), .int 1, u11, u12]) (d := .lst .o ((C ++ cB fs bs (.inr x)).map D.int)) ?_ rfl
    rw [x_opN]
    have e6 : opN catD (nmM 9) (lstM (consM (nmM 10) (consM (nmM 5) (consM (vQ (un1 lenD (rdS 8))) nilM)))) [u0, u1, u2, .dic .o (plK bs) (plD fs bs), u4, .int (x : Nat), u6, u7, .lst .f ((fds fs x).map oD), .lst .o (C.map D.int), .int 1, u11, u12] = some (.lst .o ((C ++ [1, (x : Int), ((fds fs x).length : Nat)]).map D.int), [u0, u1, u2, .dic .o (plK bs) (plD fs bs), u4, .int (x : Nat), u6, u7, .lst .f ((fds fs x).map oD), .lst .f (C.map D.int), .int 1, u11, u12]) := by
      simp [e5]
    rw [e6]
    simp only []
    rw [e1]
    simp [e5, cB]
end K82

namespace K82
open PySem hiding Env
open L2 CW
def memD (fs : Fs) (bs : List Blk) (rg : List (Option Nat)) : D := .tup [.str "memory", .int (fs.length : Nat), .tup (rg.map fun o => oD (o.map fun y => off fs y bs)), .tup [], .tup ((cells fs bs).map D.int), .tup []]
/-- a heap whose fields and registers are objects of it -/
structure OkH (fs : Fs) (rg : List (Option Nat)) : Prop where
  n : fs.length ≤ 40
  fl : ∀ x, (fds fs x).length ≤ 100
  f : ∀ x, ∀ o ∈ fds fs x, ∀ y, o = some y → y < fs.length
  r : ∀ o ∈ rg, ∀ y, o = some y → y < fs.length
  rl : rg.length ≤ 1000
theorem cB_len {fs : Fs} {bs : List Blk} {b : Blk} (h : ∀ s, b = .inl s → 3 ≤ s ∧ s ≤ 7) : (cB fs bs b).length = szB fs b := by
  cases b with
  | inl s =>
    have := h s rfl
    simp [cB, szB]; omega
  | inr x => simp [cB, szB]; omega
theorem mem_loop2 {fs : Fs} {bs : List Blk} {u0 u1 u2 u4 u5 u6 u7 u8 u10 u11 u12 : D} (h12 : u12 = .any ∨ isF u12 = true) (hs : frOK bs) (hf : ∀ x, ∀ o ∈ fds fs x, inO bs o) (hl : ∀ x, (fds fs x).length ≤ 100) (hb : bs.length ≤ 90) :
    ∃ v5 v8 v10, CW.forM tg3 B_law_memory_2 (bs.map (rowB fs)) [u0, u1, u2, .dic .o (plK bs) (plD fs bs), u4, u5, u6, u7, u8, .lst .o [], u10, u11, u12] = some (.nx [u0, u1, u2, .dic .o (plK bs) (plD fs bs), u4, v5, u6, u7, v8, .lst .o ((cells fs bs).map D.int), v10, u11, u12]) := by
  obtain ⟨ρ', e, v5, v8, v10, C, rfl, h1, h2⟩ := forM_inv (t := tg3) (s := B_law_memory_2) (fun k ρ => ∃ v5 v8 v10 C, ρ = [u0, u1, u2, .dic .o (plK bs) (plD fs bs), u4, v5, u6, u7, v8, .lst .o (List.map D.int C), v10, u11, u12] ∧ C = ((bs.take k).map (cB fs bs)).flatten ∧ C.length ≤ 103 * k) (bs.map (rowB fs)) 0 [u0, u1, u2, .dic .o (plK bs) (plD fs bs), u4, u5, u6, u7, u8, .lst .o [], u10, u11, u12]
    ⟨u5, u8, u10, [], rfl, by simp, by simp⟩ (by
      rintro j d ρ hd ⟨v5, v8, v10, C, rfl, h1, h2⟩
      rw [Nat.zero_add] at h1 h2 ⊢
      rw [List.getElem?_map] at hd
      have hj : j < bs.length := by
        by_cases hj : j < bs.length
        · exact hj
        · rw [List.getElem?_eq_none (by omega)] at hd; cases hd
      rw [List.getElem?_eq_getElem hj] at hd
      cases hd
      have hsz : (cB fs bs bs[j]).length ≤ 103 := by
        rw [cB_len fun s e => hs s (e ▸ List.getElem_mem hj)]
        cases e : bs[j] with
        | inl s =>
          have := hs s (e ▸ List.getElem_mem hj)
          simp [szB]; omega
        | inr x =>
          have := hl x
          simp [szB]; omega
      obtain ⟨w5, w8, w10, e⟩ := mem_turn2 (fs := fs) (bs := bs) (b := bs[j]) (C := C) (u0 := u0) (u1 := u1) (u2 := u2) (u4 := u4) (u5 := v5) (u6 := u6) (u7 := u7) (u8 := v8) (u10 := v10) (u11 := u11) (u12 := u12) h12 (fun s e => hs s (e ▸ List.getElem_mem hj)) (fun x _ => hf x) hl (by omega)
      refine ⟨_, e, w5, w8, w10, _, rfl, ?_, ?_⟩
      · rw [List.take_add_one, List.getElem?_eq_getElem hj, h1, List.map_append, List.flatten_append]
        simp only [Option.toList_some, List.map_cons, List.map_nil, List.flatten_cons, List.flatten_nil, List.append_nil]
      · simp only [List.length_append]; omega)
  rw [List.length_map, Nat.zero_add, List.take_length] at h1
  exact ⟨v5, v8, v10, by rw [e, h1]; rfl⟩
theorem mem_free {l : List Int} {a : Nat} {hp d3 u4 u5 u6 u7 u8 u9 u10 u11 u12 : D} {R : List D} (hR : R.length < 16777216) : ∃ a' R',
    ifM (cmpM eqD (callM F_law_draw (lendC 0 (consC (vQ (cst (.int 4))) nilC))) (vQ (cst (.int 0)))) (dropM (appM 2 (tupM (consM (vQ (cst (.int 0))) (consM (frzM (op2M addI (vQ (cst (.int 3))) (callM F_law_draw (lendC 0 (consC (vQ (cst (.int 5))) nilC))))) (consM (frzM (lstM nilM)) nilM)))))) skipM
      [bx l a, hp, .lst .o R, d3, u4, u5, u6, u7, u8, u9, u10, u11, u12] = some (.nx [bx l a', hp, .lst .o R', d3, u4, u5, u6, u7, u8, u9, u10, u11, u12]) ∧
    (R' = R ∨ ∃ s : Nat, 3 ≤ s ∧ s ≤ 7 ∧ R' = R ++ [.tup [.int 0, .int (s : Nat), .lst .f []]]) := by
  by_cases h : dr l a 4 = 0
  · obtain ⟨h1, h2⟩ := dr_lt (l := l) (a := a + 1) (n := 5) (by omega)
    have hs : ((3 + (dr l (a + 1) 5).toNat : Nat) : Int) = 3 + dr l (a + 1) 5 := by omega
    refine ⟨a + 1 + 1, R ++ [.tup [.int 0, .int (3 + dr l (a + 1) 5), .lst .f []]], ?_, .inr ⟨3 + (dr l (a + 1) 5).toNat, by omega, by omega, by rw [hs]⟩⟩
    refine if_true' (ρ1 := [bx l (a + 1), hp, .lst .o R, d3, u4, u5, u6, u7, u8, u9, u10, u11, u12]) (by simp [draw_at, h]) ?_
    simp [draw_at, hR]
  · refine ⟨a + 1, R, ?_, .inl rfl⟩
    exact if_false' (ρ1 := [bx l (a + 1), hp, .lst .o R, d3, u4, u5, u6, u7, u8, u9, u10, u11, u12]) (by simp [draw_at, h]) (by simp)
theorem perm_nat {n : Nat} {os : List Int} (h : os.Perm ((List.range n).map fun x : Nat => (x : Int))) : ∃ ns : List Nat, os = ns.map (fun x : Nat => (x : Int)) ∧ ns.Perm (List.range n) := by
  refine ⟨os.map Int.toNat, ?_, ?_⟩
  · rw [List.map_map]
    have key : ∀ x ∈ os, x = ((fun x : Nat => (x : Int)) ∘ Int.toNat) x := fun x hx => by
      obtain ⟨y, _, rfl⟩ := List.mem_map.mp (h.mem_iff.mp hx)
      simp
    have : os.map id = os.map ((fun x : Nat => (x : Int)) ∘ Int.toNat) := List.map_congr_left key
    rw [List.map_id] at this
    exact this
  · have := h.map Int.toNat
    rw [List.map_map] at this
    refine this.trans ?_
    rw [show (Int.toNat ∘ fun x : Nat => (x : Int)) = id from funext fun x => by simp]
    simp
theorem memory_at {l : List Int} {a : Nat} {fs : Fs} {rg : List (Option Nat)} (h : OkH fs rg) : ∃ a' bs, F_law_memory [bx l a, heapD fs rg] = some (memD fs bs rg, [bx l a', .any]) ∧ (recs bs).Perm (List.range fs.length) ∧ frOK bs ∧ bs.length ≤ 90 := by
  obtain ⟨a1, os, e1, p1⟩ := shuf_at (l := l) (a := a) (md := .o) ((List.range fs.length).map fun x : Nat => (x : Int)) (by have := h.n; simp; omega)
  obtain ⟨ns, rfl, p2⟩ := perm_nat p1
  have hlen : ns.length = fs.length := by rw [p2.length_eq]; simp
  have hmem : ∀ x ∈ ns, x < fs.length := fun x hx => by simpa using p2.mem_iff.mp hx
  obtain ⟨ρ1, e2, a2, bs, v5, v6, v7, v8, rfl, h1, h2, h3⟩ := mem_loop1 (l := l) (a := a1) (fs := fs) (rg := rg) (os := ns) (p2.nodup_iff.mpr List.nodup_range) hmem (by have := h.n; omega)
  obtain ⟨a3, R', e3, hR⟩ := mem_free (l := l) (a := a2) (hp := heapD fs rg) (d3 := .dic .o (plK bs) (plD fs bs)) (u4 := .int (tot fs bs : Nat)) (u5 := v5) (u6 := v6) (u7 := v7) (u8 := v8) (u9 := .any) (u10 := .any) (u11 := .any) (u12 := .any) (R := bs.map (rowB fs)) (by have := h.n; simp; omega)
  have key : ∃ bs1 : List Blk, R' = bs1.map (rowB fs) ∧ plK bs = plK bs1 ∧ plD fs bs = plD fs bs1 ∧ recs bs1 = recs bs ∧ bs1.length ≤ bs.length + 1 ∧ frOK bs1 := by
    rcases hR with rfl | ⟨s, s3, s7, rfl⟩
    · exact ⟨bs, rfl, rfl, rfl, rfl, by omega, h2⟩
    · exact ⟨bs ++ [.inl s], by simp [rowB], (pl_free (fs := fs)).1.symm, pl_free.2.symm, by simp [recs_app, recs], by simp, frOK_s h2 s3 s7⟩
  obtain ⟨bs1, rfl, k1, k2, k3, hl1, hfr⟩ := key
  have hrec : (recs bs1).Perm (List.range fs.length) := by rw [k3, h1]; exact p2
  have hin : ∀ y, y < fs.length → y ∈ recs bs1 := fun y hy => hrec.mem_iff.mpr (by simpa using hy)
  have hb : bs1.length ≤ 90 := by have := h.n; omega
  rw [k1, k2] at e3
  obtain ⟨w5, w8, w10, e4⟩ := mem_loop2 (fs := fs) (bs := bs1) (u0 := bx l a3) (u1 := heapD fs rg) (u2 := .lst .f (bs1.map (rowB fs))) (u4 := .int (tot fs bs : Nat)) (u5 := v5) (u6 := v6) (u7 := v7) (u8 := v8) (u10 := .any) (u11 := .any) (u12 := .any) (.inl rfl) hfr (fun x o ho y e => hin y (h.f x o ho y e)) h.fl hb
  refine ⟨a3, bs1, ?_, hrec, hfr, hb⟩
  unfold F_law_memory m_law_memory
  refine fn_ret (ρ := [bx l a3, heapD fs rg, .lst .f (bs1.map (rowB fs)), .dic .o (plK bs1) (plD fs bs1), .int (tot fs bs : Nat), w5, v6, v7, w8, .lst .o ((cells fs bs1).map D.int), w10, .tup (rg.map fun o => oD (o.map fun y => off fs y bs1)), .any]) rfl ?_ rfl
  refine seq_run (ρ1 := [bx l a, heapD fs rg, .lst .o [], .any, .any, .any, .any, .any, .any, .any, .any, .any, .any]) (by simp) ?_
  refine seq_run (ρ1 := [bx l a, heapD fs rg, .lst .o [], .dic .o [] [], .any, .any, .any, .any, .any, .any, .any, .any, .any]) (by simp) ?_
  refine seq_run (ρ1 := mE l a (heapD fs rg) fs [] .any .any .any .any .any .any .any .any) (by simp [mE, plK, plD, recs, tot]) ?_
  refine seq_run (for_run (ds := ns.map fun x : Nat => .int (x : Nat)) (ρ1 := mE l a1 (heapD fs rg) fs [] .any .any .any .any .any .any .any .any) ?_ e2) ?_
  · have e5 := numbers_at (fs := fs) (rg := rg) (by have := h.n; omega)
    refine lst_run (md := .f) ?_ (by decide)
    have e6 : callM F_law_numbers (consC (nmM 1) nilC) (mE l a (heapD fs rg) fs [] .any .any .any .any .any .any .any .any) = some (.lst .o ((List.range fs.length).map fun x : Nat => D.int (x : Int)), mE l a (heapD fs rg) fs [] .any .any .any .any .any .any .any .any) :=
      call_run (os := [.v (heapD fs rg)]) (ds := [heapD fs rg]) rfl rfl e5 rfl rfl
    rw [List.map_map] at e1
    have e7 : callM F_law_shuffled (lendC 0 (consC (callM F_law_numbers (consC (nmM 1) nilC)) nilC)) (mE l a (heapD fs rg) fs [] .any .any .any .any .any .any .any .any) = some (.lst .o ((ns.map fun x : Nat => (x : Int)).map D.int), mE l a1 (heapD fs rg) fs [] .any .any .any .any .any .any .any .any) := by
      refine call_run (os := [.s 0, .v (.lst .o ((List.range fs.length).map fun x : Nat => D.int (x : Int)))]) (ρ1 := mE l a (heapD fs rg) fs [] .any .any .any .any .any .any .any .any) (ds := [bx l a, .lst .o ((List.range fs.length).map fun x : Nat => D.int (x : Int))]) ?_ rfl e1 rfl rfl
      rw [x_lendC, x_consC, e6]
      rfl
    rw [x_frzM, e7, List.map_map]
    rfl
  refine seq_run (ρ1 := [bx l a3, heapD fs rg, .lst .o (bs1.map (rowB fs)), .dic .o (plK bs1) (plD fs bs1), .int (tot fs bs : Nat), v5, v6, v7, v8, .any, .any, .any, .any]) (by simp only [mE, k1, k2]; exact e3) ?_
  refine seq_run (ρ1 := [bx l a3, heapD fs rg, .lst .o (bs1.map (rowB fs)), .dic .o (plK bs1) (plD fs bs1), .int (tot fs bs : Nat), v5, v6, v7, v8, .lst .o [], .any, .any, .any]) (by simp) ?_
  refine seq_run (for_run (ds := bs1.map (rowB fs)) (ρ1 := [bx l a3, heapD fs rg, .lst .f (bs1.map (rowB fs)), .dic .o (plK bs1) (plD fs bs1), .int (tot fs bs : Nat), v5, v6, v7, v8, .lst .o [], .any, .any, .any]) (lst_run (md := .f) (by simp) (by decide)) e4) ?_
  refine seq_run (ρ1 := [bx l a3, heapD fs rg, .lst .f (bs1.map (rowB fs)), .dic .o (plK bs1) (plD fs bs1), .int (tot fs bs : Nat), w5, v6, v7, w8, .lst .o ((cells fs bs1).map D.int), w10, .tup (rg.map fun o => oD (o.map fun y => off fs y bs1)), .any]) ?_ ?_
  · refine set_run (ρ1 := [bx l a3, heapD fs rg, .lst .f (bs1.map (rowB fs)), .dic .o (plK bs1) (plD fs bs1), .int (tot fs bs : Nat), w5, v6, v7, w8, .lst .o ((cells fs bs1).map D.int), w10, .any, .any]) (d := .tup (rg.map fun o => oD (o.map fun y => off fs y bs1))) ?_ rfl
    have e8 := lc_run (N := 13) (vs := [12]) (ms := tupW (vQ (op2 ixD (rdS 1) (cst (.int 2))))) (tt := nameT 12) (t := yesM) (m := E_law_memory_2) (ρ := [bx l a3, heapD fs rg, .lst .f (bs1.map (rowB fs)), .dic .o (plK bs1) (plD fs bs1), .int (tot fs bs : Nat), w5, v6, v7, w8, .lst .o ((cells fs bs1).map D.int), w10, .any, .any]) rfl
      (tup_run (ρ1 := [bx l a3, heapD fs rg, .lst .f (bs1.map (rowB fs)), .dic .o (plK bs1) (plD fs bs1), .int (tot fs bs : Nat), w5, v6, v7, w8, .lst .o ((cells fs bs1).map D.int), w10, .any, .any]) (ds := rg.map oD) (by simp [heapD])) rfl (comp_regs (fs := fs) (bs := bs1) (fun o ho y e => hin y (h.r o ho y e)) h.rl)
    rw [x_b1T, e8]
    rfl
  · simp [heapD, memD]
end K82

namespace K82
open PySem hiding Env
open L2 CW
/-! ### how the cells lie -/
theorem flat_at (g : Blk → List Int) : ∀ (pre : List Blk) (b : Blk) (post : List Blk) (k : Nat), k < (g b).length → (((pre ++ b :: post).map g).flatten)[((pre.map g).flatten).length + k]? = (g b)[k]?
  | [], b, post, k, h => by
    simp only [List.nil_append, List.map_cons, List.flatten_cons, List.map_nil, List.flatten_nil, List.length_nil, Nat.zero_add]
    rw [List.getElem?_append_left h]
  | c :: pre, b, post, k, h => by
    simp only [List.cons_append, List.map_cons, List.flatten_cons, List.length_append]
    rw [List.getElem?_append_right (by omega), show (g c).length + ((pre.map g).flatten).length + k - (g c).length = ((pre.map g).flatten).length + k by omega]
    exact flat_at g pre b post k h
theorem flat_len {fs : Fs} {bs0 : List Blk} : ∀ (pre : List Blk), frOK pre → ((pre.map (cB fs bs0)).flatten).length = tot fs pre
  | [], _ => rfl
  | c :: pre, h => by
    simp only [List.map_cons, List.flatten_cons, List.length_append, tot]
    rw [flat_len pre fun s hs => h s (List.mem_cons_of_mem _ hs), cB_len fun s e => h s (e ▸ List.mem_cons_self)]
theorem recs_split {bs : List Blk} {x : Nat} (h : x ∈ recs bs) : ∃ pre post, bs = pre ++ .inr x :: post ∧ x ∉ recs pre := by
  induction bs with
  | nil => simp [recs] at h
  | cons c bs ih =>
    by_cases hc : c = .inr x
    · exact ⟨[], bs, by simp [hc], by simp [recs]⟩
    · have h1 : x ∈ recs bs := by
        cases c with
        | inl s => exact h
        | inr y =>
          simp only [recs, List.mem_cons] at h
          rcases h with rfl | h
          · exact absurd rfl hc
          · exact h
      obtain ⟨pre, post, rfl, h2⟩ := ih h1
      refine ⟨c :: pre, post, rfl, ?_⟩
      cases c with
      | inl s => exact h2
      | inr y =>
        simp only [recs, List.mem_cons, not_or]
        exact ⟨fun e => hc (by rw [e]), h2⟩
theorem off_split {fs : Fs} {pre post : List Blk} {x : Nat} (h : x ∉ recs pre) : off fs x (pre ++ .inr x :: post) = tot fs pre := by
  induction pre with
  | nil => simp [off, tot]
  | cons c pre ih =>
    have hc : c ≠ .inr x := fun e => h (by subst e; simp [recs])
    simp only [List.cons_append, off, if_neg hc, tot]
    rw [ih ?_]
    cases c with
    | inl s => exact h
    | inr y => exact fun z => h (List.mem_cons_of_mem _ z)
/-- the cells of the object x -/
theorem cells_at {fs : Fs} {bs : List Blk} {x k : Nat} (hf : frOK bs) (hx : x ∈ recs bs) (hk : k < 3 + (fds fs x).length) : (cells fs bs)[off fs x bs + k]? = (cB fs bs (.inr x))[k]? := by
  obtain ⟨pre, post, e, h⟩ := recs_split hx
  have h1 : (cells fs bs) = ((pre ++ .inr x :: post).map (cB fs bs)).flatten := by unfold cells; rw [← e]
  have h2 : off fs x bs = ((pre.map (cB fs bs)).flatten).length := by
    rw [flat_len pre fun s hs => hf s (by rw [e]; exact List.mem_append_left _ hs), e, off_split h]
  rw [h1, h2, flat_at (cB fs bs) pre (.inr x) post k (by simp [cB]; omega)]
theorem off_in {fs : Fs} {pre : List Blk} {y : Nat} (h : y ∈ recs pre) : off fs y pre + szB fs (.inr y) ≤ tot fs pre := by
  obtain ⟨a, b, rfl, h1⟩ := recs_split h
  rw [off_split h1, tot_app]
  simp only [tot]
  omega
theorem off_past {fs : Fs} {pre post : List Blk} {b : Blk} {y : Nat} (h : y ∉ recs pre) (hb : b ≠ .inr y) : off fs y (pre ++ b :: post) = tot fs pre + szB fs b + off fs y post := by
  induction pre with
  | nil => simp [off, tot, hb]
  | cons c pre ih =>
    have hc : c ≠ .inr y := fun e => h (by subst e; simp [recs])
    simp only [List.cons_append, off, if_neg hc, tot]
    rw [ih ?_]
    · omega
    · cases c with
      | inl s => exact h
      | inr z => exact fun w => h (List.mem_cons_of_mem _ w)
/-- objects lie apart -/
theorem off_apart {fs : Fs} {bs : List Blk} {x y : Nat} (hx : x ∈ recs bs) (hy : y ∈ recs bs) (hne : x ≠ y) : off fs x bs + (3 + (fds fs x).length) ≤ off fs y bs ∨ off fs y bs + (3 + (fds fs y).length) ≤ off fs x bs := by
  obtain ⟨pre, post, rfl, h⟩ := recs_split hx
  rw [off_split h]
  by_cases hp : y ∈ recs pre
  · right
    rw [off_app fs hp]
    exact off_in hp
  · left
    rw [off_past hp (by intro e; exact hne (Sum.inr.inj e))]
    show tot fs pre + (3 + (fds fs x).length) ≤ tot fs pre + (3 + (fds fs x).length) + _
    omega
theorem cells_len {fs : Fs} {bs : List Blk} (hf : frOK bs) : (cells fs bs).length = tot fs bs := flat_len bs hf
/-! ### the blocks of the cells -/
def bkD (fs : Fs) : Nat → List Blk → List D
  | _, [] => []
  | at_, b :: bs => .tup [.int (at_ : Nat), .int (match b with | .inl _ => 0 | .inr _ => 1), .int (szB fs b : Nat)] :: bkD fs (at_ + szB fs b) bs
end K82

namespace K82
open PySem hiding Env
open L2 CW
theorem bkD_app (fs : Fs) : ∀ (l : List Blk) (a : Nat) (b : Blk), bkD fs a (l ++ [b]) = bkD fs a l ++ [.tup [.int (a + tot fs l : Nat), .int (match b with | .inl _ => 0 | .inr _ => 1), .int (szB fs b : Nat)]]
  | [], a, b => by cases b <;> simp [bkD, tot]
  | c :: l, a, b => by
    simp only [List.cons_append, bkD, tot]
    rw [bkD_app fs l (a + szB fs c) b]
    simp [Nat.add_assoc]
theorem bk_len (fs : Fs) : ∀ (l : List Blk) (a : Nat), (bkD fs a l).length = l.length
  | [], _ => rfl
  | c :: l, a => by simp [bkD, bk_len fs l]
theorem tot_ge {fs : Fs} : ∀ {bs : List Blk}, frOK bs → bs.length ≤ tot fs bs
  | [], _ => Nat.zero_le _
  | c :: bs, h => by
    have h1 := tot_ge (fs := fs) (bs := bs) fun s hs => h s (List.mem_cons_of_mem _ hs)
    have h2 : 1 ≤ szB fs c := by
      cases c with
      | inl s => have := h s List.mem_cons_self; simp [szB]; omega
      | inr x => simp [szB]; omega
    simp only [List.length_cons, tot]
    omega
theorem atI_cast {l : List Int} {k : Nat} {v : Int} (h : l[k]? = some v) : atI (l.map D.int) (k : Int) = some (.int v) := atI_of (by rw [List.getElem?_map, h]; rfl)
theorem blocks_at {fs : Fs} {bs : List Blk} (hf : frOK bs) (hl : (cells fs bs).length ≤ 100000) : F_law_blocks [.tup ((cells fs bs).map D.int)] = some (.lst .o (bkD fs 0 bs), [.any]) := by
  have hlen : (cells fs bs).length = tot fs bs := cells_len hf
  have hge := tot_ge (fs := fs) hf
  obtain ⟨ρ', e, t3, t4, rfl⟩ := forM_rng (t := nameT 3) (s := B_law_blocks_1) (fun k ρ => ∃ t3 t4, ρ = [.tup ((cells fs bs).map D.int), .lst .o (bkD fs 0 (bs.take k)), .int (tot fs (bs.take k) : Nat), t3, t4]) (lo := 0) (n := (cells fs bs).length) (ρ := [.tup ((cells fs bs).map D.int), .lst .o [], .int 0, .any, .any]) ⟨.any, .any, by simp [bkD, tot]⟩ (by
    rintro k ρ hk ⟨t3, t4, rfl⟩
    by_cases hb : k < bs.length
    · have hsplit : bs = bs.take k ++ bs[k] :: bs.drop (k + 1) := by
        rw [← List.drop_eq_getElem_cons hb, List.take_append_drop]
      have hpre : frOK (bs.take k) := fun s hs => hf s (List.mem_of_mem_take hs)
      have hsz : (cB fs bs bs[k]).length = szB fs bs[k] := cB_len fun s e => hf s (e ▸ List.getElem_mem hb)
      have rd : ∀ j, j < szB fs bs[k] → (cells fs bs)[tot fs (bs.take k) + j]? = (cB fs bs bs[k])[j]? := fun j hj => by
        have := flat_at (cB fs bs) (bs.take k) bs[k] (bs.drop (k + 1)) j (by omega)
        rw [← hsplit, flat_len _ hpre] at this
        exact this
      have htot : tot fs bs = tot fs (bs.take k) + (szB fs bs[k] + tot fs (bs.drop (k + 1))) := by
        conv => lhs; rw [hsplit]
        rw [tot_app]; rfl
      have hbk : (bkD fs 0 (bs.take k)).length < 16777216 := by rw [bk_len]; simp; omega
      have htk : bs.take (k + 1) = bs.take k ++ [bs[k]] := by rw [List.take_add_one, List.getElem?_eq_getElem hb]; rfl
      rw [htk, bkD_app, tot_app]
      generalize tot fs (bs.take k) = t at *
      cases hbk2 : bs[k] with
      | inl s =>
        rw [hbk2] at rd hsz htot
        have hs := hf s (hbk2 ▸ List.getElem_mem hb)
        have r0 := atI_cast (rd 0 (by simp [szB]; omega))
        have r1 := atI_cast (rd 1 (by simp [szB]; omega))
        have e3 : ((s - 2 : Nat) : Int) = (s : Int) - 2 := by omega
        have hlt : t < (cells fs bs).length := by rw [hlen, htot]; simp [szB]; omega
        refine ⟨[.tup ((cells fs bs).map D.int), .lst .o (bkD fs 0 (bs.take k) ++ [.tup [.int (t : Nat), .int 0, .int (s : Nat)]]), .int ((t : Int) + s), .int k, .int s], turn_run rfl ?_, .int k, .int s, ?_⟩
        · have r0' : atI ((cells fs bs).map D.int) (t : Int) = some (.int 0) := r0
          have r1' : atI ((cells fs bs).map D.int) ((t : Int) + 1) = some (.int ((s : Int) - 2)) := by
            rw [← e3]; exact r1
          have e4 : 2 + ((s : Int) - 2) = s := by omega
          unfold B_law_blocks_1
          simp [hlt, r0', r1', hbk, e4]
        · simp [szB, tot]
      | inr x =>
        rw [hbk2] at rd hsz htot
        have r0 := atI_cast (rd 0 (by simp [szB]; omega))
        have r1 := atI_cast (rd 1 (by simp [szB]; omega))
        have r2 := atI_cast (rd 2 (by simp [szB]; omega))
        have hlt : t < (cells fs bs).length := by rw [hlen, htot]; simp [szB]; omega
        refine ⟨[.tup ((cells fs bs).map D.int), .lst .o (bkD fs 0 (bs.take k) ++ [.tup [.int (t : Nat), .int 1, .int (3 + ((fds fs x).length : Nat))]]), .int ((t : Int) + (3 + ((fds fs x).length : Nat))), .int k, .int (3 + ((fds fs x).length : Nat))], turn_run rfl ?_, .int k, .int (3 + ((fds fs x).length : Nat)), ?_⟩
        · have r0' : atI ((cells fs bs).map D.int) (t : Int) = some (.int 1) := r0
          have r1' : atI ((cells fs bs).map D.int) ((t : Int) + 1) = some (.int (x : Int)) := r1
          have r2' : atI ((cells fs bs).map D.int) ((t : Int) + 2) = some (.int ((fds fs x).length : Nat)) := r2
          unfold B_law_blocks_1
          simp [hlt, r0', r1', r2', hbk]
        · simp [szB, tot]
    · have h1 : bs.take k = bs := List.take_of_length_le (by omega)
      have h2 : bs.take (k + 1) = bs := List.take_of_length_le (by omega)
      rw [h1, h2]
      refine ⟨[.tup ((cells fs bs).map D.int), .lst .o (bkD fs 0 bs), .int (tot fs bs : Nat), .int k, t4], turn_run rfl ?_, .int k, t4, rfl⟩
      have hn : ¬ tot fs bs < (cells fs bs).length := by omega
      unfold B_law_blocks_1
      simp [hn])
  have h1 : bs.take (cells fs bs).length = bs := List.take_of_length_le (by omega)
  rw [h1] at e
  unfold F_law_blocks m_law_blocks
  refine fn_ret (ρ := [.tup ((cells fs bs).map D.int), .any, .int (tot fs bs : Nat), t3, t4]) rfl ?_ rfl
  refine seq_run (ρ1 := [.tup ((cells fs bs).map D.int), .lst .o [], .any, .any, .any]) (by simp) ?_
  refine seq_run (ρ1 := [.tup ((cells fs bs).map D.int), .lst .o [], .int 0, .any, .any]) (by simp) ?_
  refine seq_run (for_run (rng1_run (n := (cells fs bs).length) (by simp) (by omega)) e) ?_
  simp
end K82

namespace K82
open PySem hiding Env
open L2 CW
/-! ### what is reached -/
def succs (fs : Fs) (x : Nat) : List Nat := (fds fs x).filterMap id
inductive Reach (fs : Fs) (rg : List (Option Nat)) : Nat → Prop
  | root {x : Nat} : some x ∈ rg → Reach fs rg x
  | step {x y : Nat} : Reach fs rg x → y ∈ succs fs x → Reach fs rg y
theorem reach_of {fs : Fs} {rg : List (Option Nat)} {P : Nat → Prop} (h0 : ∀ x, some x ∈ rg → P x) (h1 : ∀ x, P x → ∀ y ∈ succs fs x, P y) {x : Nat} (h : Reach fs rg x) : P x := by
  induction h with
  | root h => exact h0 _ h
  | step _ hy ih => exact h1 _ ih _ hy
abbrev nD (F : List Nat) : List D := F.map fun x : Nat => D.int (x : Int)
theorem scVs_int : ∀ l : List Int, scVs (l.map D.int) = some (l.map V.int)
  | [] => rfl
  | x :: l => by
    show (match scV (.int x), scVs (l.map D.int) with | some v, some vs => some (v :: vs) | _, _ => none) = _
    rw [scVs_int l]
    rfl
theorem inB_int {v : Int} {l : List Int} : inB (.int v) (l.map D.int) = some (decide (v ∈ l)) := by
  unfold inB
  rw [scVs_int]
  simp only [scV, Option.some.injEq]
  unfold inV
  rw [List.any_map, Bool.eq_iff_iff, List.any_eq_true, decide_eq_true_eq]
  constructor
  · rintro ⟨x, hx, h⟩
    have : x = v := by simpa [eqV] using h
    exact this ▸ hx
  · intro h
    exact ⟨v, h, by simp [eqV]⟩
theorem inB_nat {v : Nat} {F : List Nat} : inB (.int (v : Int)) (nD F) = some (decide (v ∈ F)) := by
  have : nD F = (F.map fun x : Nat => (x : Int)).map D.int := by rw [List.map_map]; rfl
  rw [this, inB_int]
  congr 1
  rw [decide_eq_decide, List.mem_map]
  constructor
  · rintro ⟨y, hy, e⟩
    have : y = v := by omega
    exact this ▸ hy
  · intro h
    exact ⟨v, h, rfl⟩
/-- the fields that are new -/
def newF (fs : Fs) (F : List Nat) (v : Nat) : List Nat := (fds fs v).filterMap fun o => match o with
  | some y => if y ∈ F then none else some y
  | none => none
theorem comp_new {fs : Fs} {F : List Nat} {v : Nat} {u0 u1 u2 u3 u4 u6 u7 u8 u10 u11 u12 u13 u14 : D} (hl : (fds fs v).length ≤ 1000) :
    compGo [5] (nameT 5) T_law_2 (frzM (nmM 5)) ((fds fs v).map oD) [u0, u1, u2, u3, u4, .any, u6, u7, u8, .lst .f (nD F), u10, u11, u12, u13, u14] [] = some (nD (newF fs F v), [u0, u1, u2, u3, u4, .any, u6, u7, u8, .lst .f (nD F), u10, u11, u12, u13, u14]) := by
  rw [compGo_fix (fun d => match d with | .int y => if y.toNat ∈ F then none else some (.int y) | _ => none) _ _ (by simp; omega) ?_]
  · rw [List.nil_append, List.filterMap_map]
    unfold newF nD
    rw [List.map_filterMap]
    congr 2
    congr 1
    funext o
    cases o with
    | none => rfl
    | some y =>
      simp only [Function.comp, oD, Int.toNat_natCast]
      split <;> rfl
  · intro d hd
    obtain ⟨o, ho, rfl⟩ := List.mem_map.mp hd
    cases o with
    | none => exact ⟨[u0, u1, u2, u3, u4, .non, u6, u7, u8, .lst .f (nD F), u10, u11, u12, u13, u14], [u0, u1, u2, u3, u4, .non, u6, u7, u8, .lst .f (nD F), u10, u11, u12, u13, u14], rfl, by simp [T_law_2, oD], rfl⟩
    | some y =>
      refine ⟨[u0, u1, u2, u3, u4, .int (y : Nat), u6, u7, u8, .lst .f (nD F), u10, u11, u12, u13, u14], [u0, u1, u2, u3, u4, .int (y : Nat), u6, u7, u8, .lst .f (nD F), u10, u11, u12, u13, u14], rfl, ?_⟩
      have hin := inB_nat (v := y) (F := F)
      by_cases hy : y ∈ F
      · simp only [oD, Int.toNat_natCast, hy, if_true]
        refine ⟨?_, rfl⟩
        simp [T_law_2, hin, hy]
      · simp only [oD, Int.toNat_natCast, hy, if_false]
        refine ⟨?_, rfl, [u0, u1, u2, u3, u4, .int (y : Nat), u6, u7, u8, .lst .f (nD F), u10, u11, u12, u13, u14], by simp, rfl⟩
        simp [T_law_2, hin, hy]
theorem found_turn {fs : Fs} {F : List Nat} {k : Nat} {u0 u1 u2 u3 u5 u6 u7 u8 u10 u11 u12 u13 u14 : D} (h5 : u5 = .any ∨ isF u5 = true) (hF : ∀ v ∈ F, v < fs.length) (hl : ∀ v, (fds fs v).length ≤ 1000) (hn : F.length ≤ 10000) :
    ∃ v5, turnM (nameT 10) B_law_2 (.int (k : Nat)) [u0, u1, u2, u3, .lst .o (rowsD fs), u5, u6, u7, u8, .lst .o (nD F), u10, u11, u12, u13, u14] = some (.nx [u0, u1, u2, u3, .lst .o (rowsD fs), u5, u6, u7, u8, .lst .o (nD (match F[k]? with | some v => F ++ newF fs F v | none => F)), .int (k : Nat), u11, u12, u13, u14]) ∧ v5 = u5 := by
  refine ⟨u5, turn_run (ρ1 := [u0, u1, u2, u3, .lst .o (rowsD fs), u5, u6, u7, u8, .lst .o (nD F), .int (k : Nat), u11, u12, u13, u14]) rfl ?_, rfl⟩
  unfold B_law_2
  by_cases hk : k < F.length
  · rw [List.getElem?_eq_getElem hk]
    refine if_true' (ρ1 := [u0, u1, u2, u3, .lst .o (rowsD fs), u5, u6, u7, u8, .lst .o (nD F), .int (k : Nat), u11, u12, u13, u14]) (by simp [hk]) ?_
    have hv := hF _ (List.getElem_mem hk)
    have i1 : atI (nD F) (k : Int) = some (.int (F[k] : Nat)) := atI_of (by simp [hk])
    have i2 : atI (rowsD fs) ((F[k] : Nat) : Int) = some (rowD F[k] fs[F[k]]) := atI_of (by rw [rows_get, List.getElem?_eq_getElem hv]; rfl)
    have hfd : fds fs F[k] = fs[F[k]] := by simp [fds, hv]
    have e1 := lc_run (N := 15) (vs := [5]) (ms := tupW (vQ (op2 ixD (op2 ixD (rdS 4) (op2 ixD (rdS 9) (rdS 10))) (cst (.int 2))))) (tt := nameT 5) (t := T_law_2) (m := nmM 5) (ρ := [u0, u1, u2, u3, .lst .o (rowsD fs), u5, u6, u7, u8, .lst .f (nD F), .int (k : Nat), u11, u12, u13, u14]) rfl
      (tup_run (ρ1 := [u0, u1, u2, u3, .lst .o (rowsD fs), u5, u6, u7, u8, .lst .f (nD F), .int (k : Nat), u11, u12, u13, u14]) (ds := (fds fs F[k]).map oD) (by simp only [x_vQ, x_op2, x_rdS, x_cst, x_ix_lst, x_ix_tup, List.getElem?_cons_succ, List.getElem?_cons_zero, i1, i2]; simp [rowD, hfd])) (by
        rcases h5 with rfl | h
        · rfl
        · cases u5 <;> first | rfl | simpa using h) (comp_new (fs := fs) (F := F) (v := F[k]) (hl _))
    refine set_run (ρ1 := [u0, u1, u2, u3, .lst .o (rowsD fs), u5, u6, u7, u8, .lst .f (nD F), .int (k : Nat), u11, u12, u13, u14]) (d := .lst .o (nD (F ++ newF fs F F[k]))) ?_ rfl
    have hnew : (newF fs F F[k]).length ≤ 1000 := by
      have := List.length_filterMap_le (fun o : Option Nat => match o with | some y => if y ∈ F then none else some y | none => none) (fds fs F[k])
      have h2 := hl F[k]
      show List.length (List.filterMap _ _) ≤ 1000
      omega
    have e6 : nmM 9 [u0, u1, u2, u3, .lst .o (rowsD fs), u5, u6, u7, u8, .lst .o (nD F), .int (k : Nat), u11, u12, u13, u14] = some (.lst .f (nD F), [u0, u1, u2, u3, .lst .o (rowsD fs), u5, u6, u7, u8, .lst .f (nD F), .int (k : Nat), u11, u12, u13, u14]) := by simp
    rw [x_opN, e6]
    simp only []
    rw [e1]
    have h7 : F.length + (newF fs F F[k]).length ≤ 16777216 := by omega
    simp [h7]
  · rw [List.getElem?_eq_none (by omega)]
    exact if_false' (ρ1 := [u0, u1, u2, u3, .lst .o (rowsD fs), u5, u6, u7, u8, .lst .o (nD F), .int (k : Nat), u11, u12, u13, u14]) (by simp [hk]) (by simp)
/-! ### forty turns suffice -/
theorem newF_mem {fs : Fs} {F : List Nat} {v y : Nat} : y ∈ newF fs F v ↔ y ∈ succs fs v ∧ y ∉ F := by
  unfold newF succs
  simp only [List.mem_filterMap, id]
  constructor
  · rintro ⟨o, ho, h⟩
    cases o with
    | none => cases h
    | some z =>
      simp only at h
      split at h
      · cases h
      · rename_i hz
        cases h
        exact ⟨⟨some y, ho, rfl⟩, hz⟩
  · rintro ⟨⟨o, ho, rfl⟩, h⟩
    exact ⟨some y, ho, by simp [h]⟩
theorem newF_len {fs : Fs} {F : List Nat} {v : Nat} : (newF fs F v).length ≤ (fds fs v).length := List.length_filterMap_le _ _
structure FI (fs : Fs) (rg : List (Option Nat)) (k : Nat) (F : List Nat) : Prop where
  lt : ∀ v ∈ F, v < fs.length
  reach : ∀ v ∈ F, Reach fs rg v
  roots : ∀ v, some v ∈ rg → v ∈ F
  p : ∃ P : List Nat, P.Nodup ∧ (∀ v ∈ P, v < fs.length) ∧ (∀ v ∈ P, ∀ y ∈ succs fs v, y ∈ F) ∧ (∀ i, i < k → ∀ v, F[i]? = some v → v ∈ P) ∧ F.length ≤ 2 + 3 * P.length
theorem nodup_lt {P : List Nat} {n : Nat} (h : P.Nodup) (hl : ∀ v ∈ P, v < n) : P.length ≤ n := by
  have := List.Nodup.length_le_of_subset h (l₂ := List.range n) fun v hv => by simpa using hl v hv
  simpa using this
theorem FI.next {fs : Fs} {rg : List (Option Nat)} {k : Nat} {F : List Nat} (h : FI fs rg k F) (hs : ∀ v, ∀ y ∈ succs fs v, y < fs.length) (h3 : ∀ v, (fds fs v).length ≤ 3) : FI fs rg (k + 1) (match F[k]? with | some v => F ++ newF fs F v | none => F) := by
  obtain ⟨P, p1, p2, p3, p4, p5⟩ := h.p
  cases hk : F[k]? with
  | none =>
    refine ⟨h.lt, h.reach, h.roots, P, p1, p2, p3, fun i hi v hv => ?_, p5⟩
    by_cases hik : i = k
    · subst hik; rw [hk] at hv; cases hv
    · exact p4 i (by omega) v hv
  | some v =>
    have hvF : v ∈ F := List.mem_of_getElem? hk
    simp only
    refine ⟨fun y hy => ?_, fun y hy => ?_, fun y hy => List.mem_append_left _ (h.roots y hy), ?_⟩
    · rcases List.mem_append.mp hy with z | z
      · exact h.lt y z
      · exact hs v y (newF_mem.mp z).1
    · rcases List.mem_append.mp hy with z | z
      · exact h.reach y z
      · exact .step (h.reach v hvF) (newF_mem.mp z).1
    · have hcl : ∀ y ∈ succs fs v, y ∈ F ++ newF fs F v := fun y hy => by
        by_cases hyF : y ∈ F
        · exact List.mem_append_left _ hyF
        · exact List.mem_append_right _ (newF_mem.mpr ⟨hy, hyF⟩)
      have hkl : k < F.length := (List.getElem?_eq_some_iff.mp hk).1
      have old : ∀ i, i < k + 1 → ∀ w, (F ++ newF fs F v)[i]? = some w → w = v ∨ ∃ i, i < k ∧ F[i]? = some w := fun i hi w hw => by
        rw [List.getElem?_append_left (by omega)] at hw
        by_cases hik : i = k
        · subst hik; rw [hk] at hw; exact .inl (Option.some.inj hw).symm
        · exact .inr ⟨i, by omega, hw⟩
      by_cases hvP : v ∈ P
      · have hnil : newF fs F v = [] := List.eq_nil_iff_forall_not_mem.mpr fun y hy => (newF_mem.mp hy).2 (p3 v hvP y (newF_mem.mp hy).1)
        refine ⟨P, p1, p2, fun w hw y hy => List.mem_append_left _ (p3 w hw y hy), fun i hi w hw => ?_, by rw [hnil, List.append_nil]; exact p5⟩
        rcases old i hi w hw with rfl | ⟨j, hj, e⟩
        · exact hvP
        · exact p4 j hj w e
      · refine ⟨v :: P, List.nodup_cons.mpr ⟨hvP, p1⟩, fun w hw => ?_, fun w hw y hy => ?_, fun i hi w hw => ?_, ?_⟩
        · rcases List.mem_cons.mp hw with rfl | z
          · exact h.lt w hvF
          · exact p2 w z
        · rcases List.mem_cons.mp hw with rfl | z
          · exact hcl y hy
          · exact List.mem_append_left _ (p3 w z y hy)
        · rcases old i hi w hw with rfl | ⟨j, hj, e⟩
          · exact List.mem_cons_self
          · exact List.mem_cons_of_mem _ (p4 j hj w e)
        · have h4 := newF_len (fs := fs) (F := F) (v := v)
          have h5 := h3 v
          simp only [List.length_append, List.length_cons]
          omega
theorem FI.all {fs : Fs} {rg : List (Option Nat)} {F : List Nat} (h : FI fs rg 40 F) (hn : fs.length ≤ 8) (v : Nat) : v ∈ F ↔ Reach fs rg v := by
  obtain ⟨P, p1, p2, p3, p4, p5⟩ := h.p
  have hP := nodup_lt p1 p2
  refine ⟨h.reach v, fun hr => reach_of (P := fun v => v ∈ F) h.roots (fun x hx y hy => ?_) hr⟩
  obtain ⟨i, hi, e⟩ := List.mem_iff_getElem.mp hx
  exact p3 x (p4 i (by omega) x (by rw [List.getElem?_eq_getElem hi, e])) y hy
end K82

namespace K82
open PySem hiding Env
open L2 CW
theorem off_mono (fs : Fs) : ∀ (bs : List Blk), (recs bs).Nodup → (recs bs).Pairwise fun x y => off fs x bs < off fs y bs
  | [], _ => by simp [recs]
  | .inl s :: bs, h => by
    show (recs bs).Pairwise _
    refine (off_mono fs bs h).imp fun {x y} hxy => ?_
    show (if (Sum.inl s : Blk) = .inr x then 0 else szB fs (.inl s) + off fs x bs) < (if (Sum.inl s : Blk) = .inr y then 0 else szB fs (.inl s) + off fs y bs)
    rw [if_neg (by intro e; cases e), if_neg (by intro e; cases e)]
    omega
  | .inr z :: bs, h => by
    have h : (z :: recs bs).Nodup := h
    obtain ⟨h1, h2⟩ := List.nodup_cons.mp h
    show (z :: recs bs).Pairwise _
    refine List.pairwise_cons.mpr ⟨fun y hy => ?_, ?_⟩
    · show (if (Sum.inr z : Blk) = .inr z then 0 else _) < (if (Sum.inr z : Blk) = .inr y then 0 else szB fs (.inr z) + off fs y bs)
      rw [if_pos rfl, if_neg (by intro e; cases e; exact h1 hy)]
      simp [szB]; omega
    · refine (List.Pairwise.and_mem.mp (off_mono fs bs h2)).imp fun {x y} hxy => ?_
      obtain ⟨hx, hy, hlt⟩ := hxy
      show (if (Sum.inr z : Blk) = .inr x then 0 else szB fs (.inr z) + off fs x bs) < (if (Sum.inr z : Blk) = .inr y then 0 else szB fs (.inr z) + off fs y bs)
      rw [if_neg (by intro e; cases e; exact h1 hx), if_neg (by intro e; cases e; exact h1 hy)]
      omega
theorem off_inj {fs : Fs} {bs : List Blk} {x y : Nat} (hx : x ∈ recs bs) (hy : y ∈ recs bs) (e : off fs x bs = off fs y bs) : x = y := by
  by_cases h : x = y
  · exact h
  · rcases off_apart (fs := fs) hx hy h with z | z <;> omega
/-- the addresses of what is found, in the order of the cells -/
def dueL (fs : Fs) (bs : List Blk) (F : List Nat) : List Nat := ((recs bs).filter fun x => decide (x ∈ F)).map fun x => off fs x bs
theorem due_mono {fs : Fs} {bs : List Blk} {F : List Nat} (h : (recs bs).Nodup) : (dueL fs bs F).Pairwise (· < ·) := by
  unfold dueL
  rw [List.pairwise_map]
  exact (off_mono fs bs h).filter _
theorem bk_get (fs : Fs) : ∀ (bs : List Blk) (a k : Nat) (h : k < bs.length), (bkD fs a bs)[k]? = some (.tup [.int (a + tot fs (bs.take k) : Nat), .int (match bs[k] with | .inl _ => 0 | .inr _ => 1), .int (szB fs bs[k] : Nat)])
  | [], a, k, h => by simp at h
  | c :: bs, a, 0, h => by cases c <;> simp [bkD, tot]
  | c :: bs, a, k + 1, h => by
    have hk : k < bs.length := by simpa using h
    simp only [bkD, List.getElem?_cons_succ, List.take_succ_cons, tot, List.getElem_cons_succ]
    rw [bk_get fs bs (a + szB fs c) k hk, Nat.add_assoc]
abbrev tgD : D → Env → Option Env := tupT 3 (consT (nameT 12) (consT (nameT 13) (consT (nameT 14) nilT)))
theorem recs_len : ∀ bs : List Blk, (recs bs).length ≤ bs.length
  | [] => Nat.le_refl _
  | .inl _ :: bs => Nat.le_succ_of_le (recs_len bs)
  | .inr _ :: bs => Nat.succ_le_succ (recs_len bs)
theorem due_loop {fs : Fs} {bs : List Blk} {rg : List (Option Nat)} {F : List Nat} {u0 u1 u2 u3 u4 u5 u6 u7 u10 u12 u13 u14 : D} (hf : frOK bs) (hnd : (recs bs).Nodup) (hb : bs.length ≤ 1000) :
    ∃ v12 v13 v14, CW.forM tgD B_law_3 (bkD fs 0 bs) [u0, u1, u2, u3, u4, u5, u6, u7, memD fs bs rg, .lst .o (nD F), u10, .lst .o [], u12, u13, u14] = some (.nx [u0, u1, u2, u3, u4, u5, u6, u7, memD fs bs rg, .lst .o (nD F), u10, .lst .o (nD (dueL fs bs F)), v12, v13, v14]) := by
  obtain ⟨ρ', e, v12, v13, v14, rfl⟩ := forM_inv (t := tgD) (s := B_law_3) (fun k ρ => ∃ v12 v13 v14, ρ = [u0, u1, u2, u3, u4, u5, u6, u7, memD fs bs rg, .lst .o (nD F), u10, .lst .o (nD (((recs (bs.take k)).filter fun x => decide (x ∈ F)).map fun x => off fs x bs)), v12, v13, v14]) (bkD fs 0 bs) 0 [u0, u1, u2, u3, u4, u5, u6, u7, memD fs bs rg, .lst .o (nD F), u10, .lst .o [], u12, u13, u14] ⟨u12, u13, u14, by simp [recs]⟩ (by
    rintro k d ρ hd ⟨v12, v13, v14, rfl⟩
    rw [Nat.zero_add]
    have hk : k < bs.length := by
      by_cases hk : k < bs.length
      · exact hk
      · rw [List.getElem?_eq_none (by rw [bk_len]; omega)] at hd; cases hd
    rw [bk_get fs bs 0 k hk] at hd
    cases hd
    rw [Nat.zero_add]
    have htk : bs.take (k + 1) = bs.take k ++ [bs[k]] := by rw [List.take_add_one, List.getElem?_eq_getElem hk]; rfl
    have hsplit : bs = bs.take k ++ bs[k] :: bs.drop (k + 1) := by rw [← List.drop_eq_getElem_cons hk, List.take_append_drop]
    rw [htk, recs_app]
    cases hbk : bs[k] with
    | inl s =>
      refine ⟨[u0, u1, u2, u3, u4, u5, u6, u7, memD fs bs rg, .lst .o (nD F), u10, .lst .o (nD (((recs (bs.take k)).filter fun x => decide (x ∈ F)).map fun x => off fs x bs)), .int (tot fs (bs.take k) : Nat), .int 0, .int (szB fs (.inl s) : Nat)], turn_run rfl ?_, .int (tot fs (bs.take k) : Nat), .int 0, .int (szB fs (.inl s) : Nat), by simp [recs]⟩
      unfold B_law_3
      simp
    | inr x =>
      rw [hbk] at hsplit
      have hx : x ∈ recs bs := by rw [mem_recs, ← hbk]; exact List.getElem_mem hk
      have hxp : x ∉ recs (bs.take k) := by
        intro hm
        rw [hsplit, recs_app] at hnd
        have := (List.nodup_append.mp hnd).2.2 x hm x (by simp [recs])
        exact this rfl
      have ho : off fs x bs = tot fs (bs.take k) := by
        conv => lhs; rw [hsplit]
        exact off_split hxp
      have hc : (cells fs bs)[tot fs (bs.take k) + 1]? = some (x : Int) := by
        rw [← ho, cells_at hf hx (by omega)]
        rfl
      have i1 : atI ((cells fs bs).map D.int) ((tot fs (bs.take k) : Nat) + 1 : Int) = some (.int (x : Nat)) := atI_cast hc
      have i2 := inB_nat (v := x) (F := F)
      have hlen : (((recs (bs.take k)).filter fun x => decide (x ∈ F)).map fun x => off fs x bs).length < 16777216 := by
        have h1 : (recs (bs.take k)).length ≤ (bs.take k).length := recs_len _
        have h2 := List.length_filter_le (fun x => decide (x ∈ F)) (recs (bs.take k))
        have h3 : (bs.take k).length ≤ 1000 := by simp; omega
        rw [List.length_map]; omega
      by_cases hxF : x ∈ F
      · refine ⟨[u0, u1, u2, u3, u4, u5, u6, u7, memD fs bs rg, .lst .o (nD F), u10, .lst .o (nD (((recs (bs.take k)).filter fun x => decide (x ∈ F)).map fun x => off fs x bs) ++ [.int (tot fs (bs.take k) : Nat)]), .int (tot fs (bs.take k) : Nat), .int 1, .int (szB fs (.inr x) : Nat)], turn_run rfl ?_, .int (tot fs (bs.take k) : Nat), .int 1, .int (szB fs (.inr x) : Nat), ?_⟩
        · unfold B_law_3
          simp only [List.length_map] at hlen
          simp [memD, i1, i2, hxF, hlen]
        · simp [recs, hxF, ho]
      · refine ⟨[u0, u1, u2, u3, u4, u5, u6, u7, memD fs bs rg, .lst .o (nD F), u10, .lst .o (nD (((recs (bs.take k)).filter fun x => decide (x ∈ F)).map fun x => off fs x bs)), .int (tot fs (bs.take k) : Nat), .int 1, .int (szB fs (.inr x) : Nat)], turn_run rfl ?_, .int (tot fs (bs.take k) : Nat), .int 1, .int (szB fs (.inr x) : Nat), by simp [recs, hxF]⟩
        unfold B_law_3
        simp [memD, i1, i2, hxF])
  rw [bk_len, Nat.zero_add, List.take_length] at e
  exact ⟨v12, v13, v14, e⟩
end K82

namespace K82
open PySem hiding Env
open L2 CW
/-- a heap in cells -/
structure Lay (fs : Fs) (rg : List (Option Nat)) (bs : List Blk) : Prop where
  h : OkH fs rg
  f3 : ∀ x, (fds fs x).length ≤ 3
  n8 : fs.length ≤ 8
  p : (recs bs).Perm (List.range fs.length)
  fr : frOK bs
  b : bs.length ≤ 90
theorem Lay.mem {fs : Fs} {rg : List (Option Nat)} {bs : List Blk} (L : Lay fs rg bs) {x : Nat} : x ∈ recs bs ↔ x < fs.length := by rw [L.p.mem_iff]; simp
theorem Lay.nd {fs : Fs} {rg : List (Option Nat)} {bs : List Blk} (L : Lay fs rg bs) : (recs bs).Nodup := L.p.nodup_iff.mpr List.nodup_range
theorem Lay.sc {fs : Fs} {rg : List (Option Nat)} {bs : List Blk} (L : Lay fs rg bs) {x y : Nat} (h : y ∈ succs fs x) : y < fs.length := by
  unfold succs at h
  obtain ⟨o, ho, e⟩ := List.mem_filterMap.mp h
  exact L.h.f x o ho y e
theorem Lay.rc {fs : Fs} {rg : List (Option Nat)} {bs : List Blk} (L : Lay fs rg bs) {x : Nat} (h : Reach fs rg x) : x < fs.length := by
  induction h with
  | root h => exact L.h.r _ h _ rfl
  | step _ hy _ => exact L.sc hy
theorem Lay.at0 {fs : Fs} {rg : List (Option Nat)} {bs : List Blk} (L : Lay fs rg bs) {x : Nat} (h : x < fs.length) : (cells fs bs)[off fs x bs]? = some 1 := by
  have := cells_at (fs := fs) (bs := bs) (x := x) (k := 0) L.fr (L.mem.mpr h) (by omega)
  exact this
theorem Lay.at2 {fs : Fs} {rg : List (Option Nat)} {bs : List Blk} (L : Lay fs rg bs) {x : Nat} (h : x < fs.length) : (cells fs bs)[off fs x bs + 2]? = some ((fds fs x).length : Nat) := by
  have := cells_at (fs := fs) (bs := bs) (x := x) (k := 2) L.fr (L.mem.mpr h) (by omega)
  exact this
theorem Lay.fd {fs : Fs} {rg : List (Option Nat)} {bs : List Blk} (L : Lay fs rg bs) {x j : Nat} (h : x < fs.length) (hj : j < (fds fs x).length) : (cells fs bs)[off fs x bs + 3 + j]? = some (aO fs bs (fds fs x)[j]) := by
  have := cells_at (fs := fs) (bs := bs) (x := x) (k := 3 + j) L.fr (L.mem.mpr h) (by omega)
  rw [Nat.add_assoc, this]
  show ([1, (x : Int), ((fds fs x).length : Nat)] ++ (fds fs x).map (aO fs bs))[3 + j]? = _
  rw [List.getElem?_append_right (by simp), show 3 + j - [1, (x : Int), ((fds fs x).length : Nat)].length = j by simp, List.getElem?_map, List.getElem?_eq_getElem hj]
  rfl
theorem cutL_mid {α : Type} {l : List α} {s n : Nat} (h : s + n ≤ l.length) : cutL l (some (s : Int)) (some ((s + n : Nat) : Int)) = (l.drop s).take n := by
  unfold cutL
  rw [HT.sIx_nat, HT.sIx_nat, Nat.min_eq_left (by omega), Nat.min_eq_left (by omega), show s + n - s = n by omega]
theorem Lay.seg {fs : Fs} {rg : List (Option Nat)} {bs : List Blk} (L : Lay fs rg bs) {x : Nat} (h : x < fs.length) : off fs x bs + 3 + (fds fs x).length ≤ (cells fs bs).length ∧ (((cells fs bs).drop (off fs x bs + 3)).take (fds fs x).length) = (fds fs x).map (aO fs bs) := by
  have hl : off fs x bs + 3 + (fds fs x).length ≤ (cells fs bs).length := by
    have h1 := off_in (fs := fs) (L.mem.mpr h)
    rw [cells_len L.fr]
    simp only [szB] at h1
    omega
  refine ⟨hl, List.ext_getElem? fun j => ?_⟩
  by_cases hj : j < (fds fs x).length
  · rw [List.getElem?_take_of_lt hj, List.getElem?_drop, L.fd h hj, List.getElem?_map, List.getElem?_eq_getElem hj]
    rfl
  · rw [List.getElem?_eq_none (by simp; omega), List.getElem?_eq_none (by simp; omega)]
theorem references_at {fs : Fs} {rg : List (Option Nat)} {bs : List Blk} (L : Lay fs rg bs) {x : Nat} (h : x < fs.length) : F_references [.tup ((cells fs bs).map D.int), .int (off fs x bs : Nat)] = some (.lst .o (((fds fs x).map (aO fs bs)).map D.int), [.any, .any]) := by
  have i2 : atI ((cells fs bs).map D.int) ((off fs x bs : Nat) + 2 : Int) = some (.int ((fds fs x).length : Nat)) := atI_cast (L.at2 h)
  obtain ⟨hl, hs⟩ := L.seg h
  have hc : cutL ((cells fs bs).map D.int) (some ((off fs x bs : Int) + 3)) (some ((off fs x bs : Int) + 3 + ((fds fs x).length : Nat))) = ((fds fs x).map (aO fs bs)).map D.int := by
    have := cutL_mid (l := (cells fs bs).map D.int) (s := off fs x bs + 3) (n := (fds fs x).length) (by simpa using hl)
    rw [← List.map_drop, ← List.map_take, hs] at this
    rw [← this]
    congr 2
  unfold F_references m_references
  refine fn_ret (ρ := [.tup ((cells fs bs).map D.int), .int (off fs x bs : Nat)]) rfl (ret_run ?_) rfl
  simp [i2, hc]
abbrev aD (fs : Fs) (bs : List Blk) (M : List Nat) : List D := nD (M.map fun x => off fs x bs)
theorem leads_at {fs : Fs} {rg : List (Option Nat)} {bs : List Blk} (L : Lay fs rg bs) {x : Nat} {kp : D} {ms : List D} (h : x < fs.length) : F_leads_to [.tup ((cells fs bs).map D.int), .int (off fs x bs : Nat), kp, .lst .o ms] = some (.lst .o (aD fs bs (succs fs x)), [.any, .any, .any, .lst .o ms]) := by
  have i0 : atI ((cells fs bs).map D.int) ((off fs x bs : Nat) : Int) = some (.int 1) := atI_cast (L.at0 h)
  unfold F_leads_to m_leads_to
  refine fn_ret (ρ := [.tup ((cells fs bs).map D.int), .int (off fs x bs : Nat), kp, .lst .o ms, .any, .any, .any, .any]) rfl (seq_stop (if_true' (ρ1 := [.tup ((cells fs bs).map D.int), .int (off fs x bs : Nat), kp, .lst .o ms, .any, .any, .any, .any]) (by simp [i0]) (ret_run ?_))) rfl
  have e2 : callM F_references (consC (nmM 0) (consC (nmM 1) nilC)) [.tup ((cells fs bs).map D.int), .int (off fs x bs : Nat), kp, .lst .o ms, .any, .any, .any, .any] = some (.lst .o (((fds fs x).map (aO fs bs)).map D.int), [.tup ((cells fs bs).map D.int), .int (off fs x bs : Nat), kp, .lst .o ms, .any, .any, .any, .any]) :=
    call_run (os := [.v (.tup ((cells fs bs).map D.int)), .v (.int (off fs x bs : Nat))]) (ds := [.tup ((cells fs bs).map D.int), .int (off fs x bs : Nat)]) rfl rfl (references_at L h) rfl rfl
  refine lc_run (ρ1 := [.tup ((cells fs bs).map D.int), .int (off fs x bs : Nat), kp, .lst .o ms, .any, .any, .any, .any]) (ρ2 := [.tup ((cells fs bs).map D.int), .int (off fs x bs : Nat), kp, .lst .o ms, .any, .any, .any, .any]) (ds := ((fds fs x).map (aO fs bs)).map D.int) rfl (lst_run (md := .f) (by rw [x_frzM, e2]; rfl) (by decide)) rfl ?_
  have hlen := L.f3 x
  show compGo [5] (nameT 5) T_leads_to_1 (frzM (nmM 5)) _ [.tup ((cells fs bs).map D.int), .int (off fs x bs : Nat), kp, .lst .o ms, .any, .any, .any, .any] [] = _
  rw [compGo_fix (fun d => match d with | .int y => if y = -1 then none else some (.int y) | _ => none) _ _ (by simp; omega) ?_]
  · rw [List.nil_append, List.map_map, List.filterMap_map]
    unfold aD nD succs
    rw [List.map_map, List.map_filterMap]
    congr 2
    congr 1
    funext o
    cases o with
    | none => rfl
    | some y =>
      simp only [Function.comp, aO, id]
      rw [if_neg (by omega)]
      rfl
  · intro d hd
    obtain ⟨v, hv, rfl⟩ := List.mem_map.mp hd
    refine ⟨[.tup ((cells fs bs).map D.int), .int (off fs x bs : Nat), kp, .lst .o ms, .any, .int v, .any, .any], [.tup ((cells fs bs).map D.int), .int (off fs x bs : Nat), kp, .lst .o ms, .any, .int v, .any, .any], rfl, ?_⟩
    by_cases hm : v = -1
    · simp only [hm, if_true]
      exact ⟨by simp [T_leads_to_1], rfl⟩
    · simp only [hm, if_false]
      exact ⟨by simp [T_leads_to_1, hm], rfl, [.tup ((cells fs bs).map D.int), .int (off fs x bs : Nat), kp, .lst .o ms, .any, .int v, .any, .any], by simp, rfl⟩
theorem opened_at {fs : Fs} {rg : List (Option Nat)} {bs : List Blk} (L : Lay fs rg bs) {a : Int} {M : List Nat} (h : ∀ x ∈ M, x < fs.length) (hl : M.length ≤ 1000) : F_opened [.tup ((cells fs bs).map D.int), .int a, .lst .o (aD fs bs M)] = some (.lst .o [], [.any, .any, .lst .o (aD fs bs M)]) := by
  unfold F_opened m_opened
  refine fn_ret (ρ := [.tup ((cells fs bs).map D.int), .int a, .lst .o (aD fs bs M), .any, .any, .any]) rfl (ret_run ?_) rfl
  have e1 := lc_run (N := 6) (vs := [3, 4, 5]) (ms := fun ρ => some (aD fs bs M, ρ)) (tt := nameT 3) (t := T_opened_1) (m := fun _ => none) (ρ := [.tup ((cells fs bs).map D.int), .int a, .any, .any, .any, .any]) (ρ1 := [.tup ((cells fs bs).map D.int), .int a, .any, .any, .any, .any]) (ρ2 := [.tup ((cells fs bs).map D.int), .int a, .any, .any, .any, .any]) (acc := []) rfl rfl rfl (by
    show compGo [3, 4, 5] (nameT 3) T_opened_1 (frzM fun _ => none) _ [.tup ((cells fs bs).map D.int), .int a, .any, .any, .any, .any] [] = _
    rw [compGo_fix (fun _ => none) _ _ (by simp; omega) ?_]
    · simp
    · intro d hd
      obtain ⟨v, hv, rfl⟩ := List.mem_map.mp hd
      obtain ⟨x, hx, rfl⟩ := List.mem_map.mp hv
      have i0 : atI ((cells fs bs).map D.int) ((off fs x bs : Nat) : Int) = some (.int 1) := atI_cast (L.at0 (h x hx))
      exact ⟨[.tup ((cells fs bs).map D.int), .int a, .any, .int (off fs x bs : Nat), .any, .any], [.tup ((cells fs bs).map D.int), .int a, .any, .int (off fs x bs : Nat), .any, .any], rfl, by simp [T_opened_1, i0], rfl⟩)
  rw [x_lcT]
  show (match lcM 6 [3, 4, 5] (fun ρ => some (aD fs bs M, ρ)) (nameT 3) T_opened_1 (fun _ => none) [.tup ((cells fs bs).map D.int), .int a, .any, .any, .any, .any] with | some (d, ρ') => some (d, ρ'.set 2 (.lst .o (aD fs bs M))) | none => none) = _
  rw [e1]
  rfl
end K82

namespace K82
open PySem hiding Env
open L2 CW
theorem while_step {t : Env → Option (Bool × Env)} {s : Env → Option Res} {n : Nat} {ρ ρ1 ρ2 : Env} (h : t ρ = some (true, ρ1)) (h2 : s ρ1 = some (.nx ρ2)) : whileM t s (n + 1) ρ = whileM t s n ρ2 := by
  rw [whileM, h]
  simp only [h2]
theorem while_done {t : Env → Option (Bool × Env)} {s : Env → Option Res} {n : Nat} {ρ ρ1 : Env} (h : t ρ = some (false, ρ1)) : whileM t s (n + 1) ρ = some (.nx ρ1) := by
  rw [whileM, h]
theorem while_ret {t : Env → Option (Bool × Env)} {s : Env → Option Res} {n : Nat} {ρ ρ1 ρ2 : Env} {d : D} (h : t ρ = some (true, ρ1)) (h2 : s ρ1 = some (.rt d ρ2)) : whileM t s (n + 1) ρ = some (.rt d ρ2) := by
  rw [whileM, h]
  simp only [h2]
theorem nD_len {M : List Nat} : (nD M).length = M.length := by simp
theorem aD_len {fs : Fs} {bs : List Blk} {M : List Nat} : (aD fs bs M).length = M.length := by simp
theorem aD_app {fs : Fs} {bs : List Blk} {M N : List Nat} : aD fs bs (M ++ N) = aD fs bs M ++ aD fs bs N := by simp
theorem in_aD {fs : Fs} {rg : List (Option Nat)} {bs : List Blk} (L : Lay fs rg bs) {x : Nat} {M : List Nat} (hx : x < fs.length) (hM : ∀ y ∈ M, y < fs.length) : inB (.int (off fs x bs : Nat)) (aD fs bs M) = some (decide (x ∈ M)) := by
  rw [inB_nat]
  congr 1
  rw [decide_eq_decide, List.mem_map]
  constructor
  · rintro ⟨y, hy, e⟩
    have := off_inj (L.mem.mpr (hM y hy)) (L.mem.mpr hx) e
    exact this ▸ hy
  · intro h
    exact ⟨x, h, rfl⟩
theorem marked_turn {fs : Fs} {rg : List (Option Nat)} {bs : List Blk} (L : Lay fs rg bs) {M S : List Nat} {x : Nat} {u4 : D} (hM : ∀ y ∈ M, y < fs.length) (hx : x < fs.length) (hl : M.length ≤ 900) (hs : S.length ≤ 200000) :
    B_marked_1 [memD fs bs rg, .tup ((cells fs bs).map D.int), .lst .o (aD fs bs M), .lst .o (aD fs bs (S ++ [x])), u4] = some (.nx [memD fs bs rg, .tup ((cells fs bs).map D.int), .lst .o (aD fs bs (if x ∈ M then M else M ++ [x])), .lst .o (aD fs bs (if x ∈ M then S else S ++ succs fs x)), .int (off fs x bs : Nat)]) := by
  have hin := in_aD L hx hM
  unfold B_marked_1
  refine seq_run (ρ1 := [memD fs bs rg, .tup ((cells fs bs).map D.int), .lst .o (aD fs bs M), .lst .o (aD fs bs S), .int (off fs x bs : Nat)]) ?_ ?_
  · refine set_run (ρ1 := [memD fs bs rg, .tup ((cells fs bs).map D.int), .lst .o (aD fs bs M), .lst .o (aD fs bs S), u4]) (d := .int (off fs x bs : Nat)) ?_ rfl
    simp
  by_cases hm : x ∈ M
  · rw [if_pos hm, if_pos hm]
    refine if_false' (ρ1 := [memD fs bs rg, .tup ((cells fs bs).map D.int), .lst .o (aD fs bs M), .lst .o (aD fs bs S), .int (off fs x bs : Nat)]) ?_ rfl
    simp only [x_qB, x_asB, x_op2, x_negD, x_inS, x_rdS, List.getElem?_cons_succ, List.getElem?_cons_zero, x_items_lst, hin, hm]
    rfl
  · rw [if_neg hm, if_neg hm]
    refine if_true' (ρ1 := [memD fs bs rg, .tup ((cells fs bs).map D.int), .lst .o (aD fs bs M), .lst .o (aD fs bs S), .int (off fs x bs : Nat)]) ?_ ?_
    · simp only [x_qB, x_asB, x_op2, x_negD, x_inS, x_rdS, List.getElem?_cons_succ, List.getElem?_cons_zero, x_items_lst, hin, hm]
      rfl
    have hM2 : ∀ y ∈ M ++ [x], y < fs.length := fun y hy => by
      rcases List.mem_append.mp hy with z | z
      · exact hM y z
      · simp at z; omega
    refine seq_run (ρ1 := [memD fs bs rg, .tup ((cells fs bs).map D.int), .lst .o (aD fs bs (M ++ [x])), .lst .o (aD fs bs S), .int (off fs x bs : Nat)]) ?_ ?_
    · have h1 : M.length < 16777216 := by omega
      simp [h1]
    have e1 : callM F_leads_to (consC (nmM 1) (consC (nmM 4) (consC (vQ (op2 ixD (rdS 0) (cst (.int 3)))) (lendC 2 nilC)))) [memD fs bs rg, .tup ((cells fs bs).map D.int), .lst .o (aD fs bs (M ++ [x])), .lst .o (aD fs bs S), .int (off fs x bs : Nat)] = some (.lst .o (aD fs bs (succs fs x)), [memD fs bs rg, .tup ((cells fs bs).map D.int), .lst .o (aD fs bs (M ++ [x])), .lst .o (aD fs bs S), .int (off fs x bs : Nat)]) :=
      call_run (os := [.v (.tup ((cells fs bs).map D.int)), .v (.int (off fs x bs : Nat)), .v (.tup []), .s 2]) (ρ1 := [memD fs bs rg, .tup ((cells fs bs).map D.int), .lst .o (aD fs bs (M ++ [x])), .lst .o (aD fs bs S), .int (off fs x bs : Nat)]) (ds := [.tup ((cells fs bs).map D.int), .int (off fs x bs : Nat), .tup [], .lst .o (aD fs bs (M ++ [x]))]) (by simp [memD]) rfl (leads_at L hx) rfl rfl
    have e2 : callM F_opened (consC (nmM 1) (consC (nmM 4) (lendC 2 nilC))) [memD fs bs rg, .tup ((cells fs bs).map D.int), .lst .o (aD fs bs (M ++ [x])), .lst .o (aD fs bs S), .int (off fs x bs : Nat)] = some (.lst .o [], [memD fs bs rg, .tup ((cells fs bs).map D.int), .lst .o (aD fs bs (M ++ [x])), .lst .o (aD fs bs S), .int (off fs x bs : Nat)]) :=
      call_run (os := [.v (.tup ((cells fs bs).map D.int)), .v (.int (off fs x bs : Nat)), .s 2]) (ρ1 := [memD fs bs rg, .tup ((cells fs bs).map D.int), .lst .o (aD fs bs (M ++ [x])), .lst .o (aD fs bs S), .int (off fs x bs : Nat)]) (ds := [.tup ((cells fs bs).map D.int), .int (off fs x bs : Nat), .lst .o (aD fs bs (M ++ [x]))]) rfl rfl (opened_at L hM2 (by simp; omega)) rfl rfl
    have hsl : (succs fs x).length ≤ 3 := Nat.le_trans (List.length_filterMap_le _ _) (L.f3 x)
    refine drop_run (d := .non) ?_
    have h5 : (succs fs x).length ≤ 16777216 := by omega
    have h6 : S.length + (succs fs x).length ≤ 16777216 := by omega
    have e3 : opN catD (callM F_leads_to (consC (nmM 1) (consC (nmM 4) (consC (vQ (op2 ixD (rdS 0) (cst (.int 3)))) (lendC 2 nilC))))) (callM F_opened (consC (nmM 1) (consC (nmM 4) (lendC 2 nilC)))) [memD fs bs rg, .tup ((cells fs bs).map D.int), .lst .o (aD fs bs (M ++ [x])), .lst .o (aD fs bs S), .int (off fs x bs : Nat)] = some (.lst .o (aD fs bs (succs fs x)), [memD fs bs rg, .tup ((cells fs bs).map D.int), .lst .o (aD fs bs (M ++ [x])), .lst .o (aD fs bs S), .int (off fs x bs : Nat)]) := by
      rw [x_opN, e1]
      simp only []
      rw [e2]
      simp only [x_cat, aD_len, List.length_nil, List.append_nil]
      rw [if_pos ⟨by decide, by decide, by omega⟩]
    rw [x_extM]
    simp only [x_rdS, List.getElem?_cons_succ, List.getElem?_cons_zero]
    rw [e3]
    simp only [x_rdS, List.getElem?_cons_succ, List.getElem?_cons_zero, aD_len]
    rw [if_pos ⟨by decide, h6⟩, ← aD_app]
    rfl
structure MI (fs : Fs) (rg : List (Option Nat)) (M S : List Nat) : Prop where
  nd : M.Nodup
  rM : ∀ x ∈ M, Reach fs rg x
  rS : ∀ x ∈ S, Reach fs rg x
  ro : ∀ x, some x ∈ rg → x ∈ M ∨ x ∈ S
  cl : ∀ x ∈ M, ∀ y ∈ succs fs x, y ∈ M ∨ y ∈ S
theorem marked_loop {fs : Fs} {rg : List (Option Nat)} {bs : List Blk} (L : Lay fs rg bs) : ∀ (k : Nat) (M S : List Nat) (u4 : D), S.length + 4 * (fs.length - M.length) < k → k ≤ 100000 → MI fs rg M S →
    ∃ M' v4, whileM W_marked_1 B_marked_1 k [memD fs bs rg, .tup ((cells fs bs).map D.int), .lst .o (aD fs bs M), .lst .o (aD fs bs S), u4] = some (.nx [memD fs bs rg, .tup ((cells fs bs).map D.int), .lst .o (aD fs bs M'), .lst .o [], v4]) ∧ M'.Nodup ∧ ∀ x, x ∈ M' ↔ Reach fs rg x
  | 0, _, _, _, h, _, _ => by omega
  | k + 1, M, S, u4, h, hk, I => by
    have hM : ∀ y ∈ M, y < fs.length := fun y hy => L.rc (I.rM y hy)
    have hMl := nodup_lt I.nd hM
    have h8 := L.n8
    rcases List.eq_nil_or_concat S with rfl | ⟨S', x, rfl⟩
    · refine ⟨M, u4, ?_, I.nd, fun x => ⟨I.rM x, fun hr => reach_of (P := fun v => v ∈ M) (fun x hx => (I.ro x hx).resolve_right (by simp)) (fun x hx y hy => (I.cl x hx y hy).resolve_right (by simp)) hr⟩⟩
      exact while_done (by simp [W_marked_1])
    · rw [List.concat_eq_append] at h I ⊢
      have hx : x < fs.length := L.rc (I.rS x (by simp))
      simp only [List.length_append, List.length_cons, List.length_nil] at h
      rw [while_step (ρ1 := [memD fs bs rg, .tup ((cells fs bs).map D.int), .lst .o (aD fs bs M), .lst .o (aD fs bs (S' ++ [x])), u4]) (by simp [W_marked_1]) (marked_turn L hM hx (by omega) (by omega))]
      by_cases hm : x ∈ M
      · rw [if_pos hm, if_pos hm]
        refine marked_loop L k M S' _ (by omega) (by omega) ⟨I.nd, I.rM, fun y hy => I.rS y (by simp [hy]), fun y hy => ?_, fun z hz y hy => ?_⟩
        · rcases I.ro y hy with w | w
          · exact .inl w
          · rcases List.mem_append.mp w with w | w
            · exact .inr w
            · simp at w; exact .inl (w ▸ hm)
        · rcases I.cl z hz y hy with w | w
          · exact .inl w
          · rcases List.mem_append.mp w with w | w
            · exact .inr w
            · simp at w; exact .inl (w ▸ hm)
      · rw [if_neg hm, if_neg hm]
        have hrx := I.rS x (by simp)
        have hnd : (M ++ [x]).Nodup := List.nodup_append.mpr ⟨I.nd, by simp, fun a ha b hb e => by simp at hb; subst hb; subst e; exact hm ha⟩
        have hl2 := nodup_lt hnd fun y hy => by
          rcases List.mem_append.mp hy with z | z
          · exact hM y z
          · simp at z; omega
        have hsl : (succs fs x).length ≤ 3 := Nat.le_trans (List.length_filterMap_le _ _) (L.f3 x)
        simp only [List.length_append, List.length_cons, List.length_nil] at hl2
        refine marked_loop L k (M ++ [x]) (S' ++ succs fs x) _ (by simp only [List.length_append, List.length_cons, List.length_nil]; omega) (by omega) ⟨hnd, fun y hy => ?_, fun y hy => ?_, fun y hy => ?_, fun z hz y hy => ?_⟩
        · rcases List.mem_append.mp hy with z | z
          · exact I.rM y z
          · simp at z; exact z ▸ hrx
        · rcases List.mem_append.mp hy with z | z
          · exact I.rS y (by simp [z])
          · exact .step hrx z
        · rcases I.ro y hy with w | w
          · exact .inl (by simp [w])
          · rcases List.mem_append.mp w with w | w
            · exact .inr (by simp [w])
            · exact .inl (by simp at w; simp [w])
        · rcases List.mem_append.mp hz with w | w
          · rcases I.cl z w y hy with v | v
            · exact .inl (by simp [v])
            · rcases List.mem_append.mp v with v | v
              · exact .inr (by simp [v])
              · exact .inl (by simp at v; simp [v])
          · simp at w
            subst w
            exact .inr (by simp [hy])
/-! ### the sorted marks are what is due -/
theorem ints_of : ∀ l : List Int, intsD (l.map D.int) = some l
  | [] => rfl
  | x :: l => by
    show (intsD (l.map D.int)).map (x :: ·) = _
    rw [ints_of l]
    rfl
theorem sort_due {fs : Fs} {rg : List (Option Nat)} {bs : List Blk} (L : Lay fs rg bs) {M F : List Nat} (hn : M.Nodup) (hM : ∀ x, x ∈ M ↔ Reach fs rg x) (hF : ∀ x, x ∈ F ↔ Reach fs rg x) : sortI ((M.map fun x => off fs x bs).map fun a : Nat => (a : Int)) = (dueL fs bs F).map fun a : Nat => (a : Int) := by
  have hMl : ∀ x ∈ M, x < fs.length := fun x hx => L.rc ((hM x).mp hx)
  have nd1 : (M.map fun x => off fs x bs).Nodup := by
    unfold List.Nodup
    rw [List.pairwise_map]
    refine (List.Pairwise.and_mem.mp hn).imp fun {x y} hxy e => ?_
    exact hxy.2.2 (off_inj (L.mem.mpr (hMl x hxy.1)) (L.mem.mpr (hMl y hxy.2.1)) e)
  have hd := due_mono (fs := fs) (bs := bs) (F := F) L.nd
  have nd2 : (dueL fs bs F).Nodup := hd.imp fun {a b} h => by omega
  have hp : (M.map fun x => off fs x bs).Perm (dueL fs bs F) := by
    rw [List.perm_ext_iff_of_nodup nd1 nd2]
    intro a
    unfold dueL
    simp only [List.mem_map, List.mem_filter, decide_eq_true_eq]
    constructor
    · rintro ⟨x, hx, rfl⟩
      exact ⟨x, ⟨L.mem.mpr (hMl x hx), (hF x).mpr ((hM x).mp hx)⟩, rfl⟩
    · rintro ⟨x, ⟨_, hx⟩, rfl⟩
      exact ⟨x, (hM x).mpr ((hF x).mp hx), rfl⟩
  have p1 : (sortI ((M.map fun x => off fs x bs).map fun a : Nat => (a : Int))).Perm ((dueL fs bs F).map fun a : Nat => (a : Int)) := (List.mergeSort_perm _ _).trans (hp.map _)
  refine List.Perm.eq_of_pairwise (le := fun a b : Int => a ≤ b) (fun a b _ _ h1 h2 => by omega) ?_ ?_ p1
  · have := List.pairwise_mergeSort (le := fun a b : Int => decide (a ≤ b)) (fun a b c h1 h2 => by simp at *; omega) (fun a b => by simp; omega) ((M.map fun x => off fs x bs).map fun a : Nat => (a : Int))
    exact this.imp fun {a b} h => by simpa using h
  · rw [List.pairwise_map]
    exact hd.imp fun {a b} h => by omega
theorem roots_comp {fs : Fs} {rg : List (Option Nat)} {bs : List Blk} {u0 u1 u2 : D} (hl : rg.length ≤ 1000) : compGo [4] (nameT 4) T_marked_1 (frzM (nmM 4)) (rg.map fun o => oD (o.map fun y => off fs y bs)) [u0, u1, u2, .any, .any] [] = some (aD fs bs (rg.filterMap id), [u0, u1, u2, .any, .any]) := by
  rw [compGo_fix (fun d => match d with | .int y => some (.int y) | _ => none) _ _ (by simp; omega) ?_]
  · rw [List.nil_append, List.filterMap_map]
    unfold aD nD
    rw [List.map_map, List.map_filterMap]
    congr 2
    congr 1
    funext o
    cases o <;> rfl
  · intro d hd
    obtain ⟨o, _, rfl⟩ := List.mem_map.mp hd
    cases o with
    | none => exact ⟨[u0, u1, u2, .any, .non], [u0, u1, u2, .any, .non], rfl, by simp [T_marked_1, oD], rfl⟩
    | some y => exact ⟨[u0, u1, u2, .any, .int (off fs y bs : Nat)], [u0, u1, u2, .any, .int (off fs y bs : Nat)], rfl, by simp [T_marked_1, oD], rfl, [u0, u1, u2, .any, .int (off fs y bs : Nat)], by simp [oD], rfl⟩
theorem marked_at {fs : Fs} {rg : List (Option Nat)} {bs : List Blk} (L : Lay fs rg bs) {F : List Nat} (hr : rg.length ≤ 3) (hF : ∀ x, x ∈ F ↔ Reach fs rg x) : F_marked [memD fs bs rg] = some (.tup (nD (dueL fs bs F)), [.any]) := by
  have h8 := L.n8
  have hS : (rg.filterMap id).length ≤ 3 := Nat.le_trans (List.length_filterMap_le _ _) hr
  have hro : ∀ x, x ∈ rg.filterMap id ↔ some x ∈ rg := fun x => by simp [List.mem_filterMap]
  obtain ⟨M', v4, e, hnd, hM⟩ := marked_loop L 100000 [] (rg.filterMap id) .any (by simp only [List.length_nil]; omega) (Nat.le_refl _) ⟨by simp, by simp, fun x hx => .root ((hro x).mp hx), fun x hx => .inr ((hro x).mpr hx), by simp⟩
  unfold F_marked m_marked
  refine fn_ret (ρ := [memD fs bs rg, .tup ((cells fs bs).map D.int), .lst .o (aD fs bs M'), .lst .o [], v4]) rfl ?_ rfl
  refine seq_run (ρ1 := [memD fs bs rg, .tup ((cells fs bs).map D.int), .any, .any, .any]) (by simp [memD]) ?_
  refine seq_run (ρ1 := [memD fs bs rg, .tup ((cells fs bs).map D.int), .lst .o [], .any, .any]) (by simp) ?_
  refine seq_run (ρ1 := [memD fs bs rg, .tup ((cells fs bs).map D.int), .lst .o [], .lst .o (aD fs bs (rg.filterMap id)), .any]) ?_ ?_
  · refine set_run (ρ1 := [memD fs bs rg, .tup ((cells fs bs).map D.int), .lst .o [], .any, .any]) (d := .lst .o (aD fs bs (rg.filterMap id))) ?_ rfl
    exact lc_run (N := 5) (vs := [4]) (ρ1 := [memD fs bs rg, .tup ((cells fs bs).map D.int), .lst .o [], .any, .any]) (ρ2 := [memD fs bs rg, .tup ((cells fs bs).map D.int), .lst .o [], .any, .any]) (ds := rg.map fun o => oD (o.map fun y => off fs y bs)) rfl (tup_run (by simp [memD])) rfl (roots_comp (by omega))
  refine seq_run e ?_
  have e9 : aD fs bs M' = ((M'.map fun x => off fs x bs).map fun a : Nat => (a : Int)).map D.int := by
    unfold aD nD
    rw [List.map_map, List.map_map, List.map_map]
    rfl
  have e8 : nD (dueL fs bs F) = ((dueL fs bs F).map fun a : Nat => (a : Int)).map D.int := by
    unfold nD
    rw [List.map_map]
    rfl
  refine ret_run ?_
  rw [x_b1T, x_b1NQ]
  simp only [x_rdS, List.getElem?_cons_succ, List.getElem?_cons_zero]
  rw [e9]
  simp only [sortD, ints_of, Option.map_some, x_items_lst]
  rw [sort_due L hnd hM hF, e8]
end K82

namespace K82
open PySem hiding Env
open L2 CW
/-! ### the reversal -/
abbrev fN : List Str := ["cells", "marks", "done"]
abbrev kM (fs : Fs) (bs : List Blk) (M : List Nat) : List Key := M.map fun x : Nat => .inl (off fs x bs : Int)
abbrev dM (M : List Nat) (dn : Nat → Nat) : List D := M.map fun x : Nat => .int (dn x : Nat)
def rvD (C : Addr) (a b c : D) : D := .ins C fN [a, b, c]
abbrev rv (C : Addr) (fs : Fs) (bs : List Blk) (c : List Int) (M : List Nat) (dn : Nat → Nat) : D := rvD C (.lst .o (c.map D.int)) (.lst .o (aD fs bs M)) (.dic .o (kM fs bs M) (dM M dn))
def upn (dn : Nat → Nat) (x v : Nat) : Nat → Nat := fun y => if y = x then v else dn y
section
variable {C : Addr} {a b c d : D}
theorem f_cells {q : Md} {l : List D} : fldD C "cells" (rvD C (.lst q l) b c) = some (.lst q l) := by
  show (if C = C then _ else none) = _
  rw [if_pos rfl]; rfl
theorem f_marks {q : Md} {l : List D} : fldD C "marks" (rvD C a (.lst q l) c) = some (.lst q l) := by
  show (if C = C then _ else none) = _
  rw [if_pos rfl]; rfl
theorem f_done {q : Md} {k : List Key} {l : List D} : fldD C "done" (rvD C a b (.dic q k l)) = some (.dic q k l) := by
  show (if C = C then _ else none) = _
  rw [if_pos rfl]; rfl
theorem s_cells : setFld "cells" d (rvD C a b c) = rvD C d b c := by rfl
theorem s_marks : setFld "marks" d (rvD C a b c) = rvD C a d c := by rfl
theorem s_done : setFld "done" d (rvD C a b c) = rvD C a b d := by rfl
theorem rd_rv {ρ : Env} {i : Nat} (h : ρ[i]? = some (rvD C a b c)) : rdS i ρ = some (rvD C a b c) := by
  rw [x_rdS, h]; rfl
end
theorem lk_inj {f : Nat → Int} {g : Nat → D} {x : Nat} : ∀ {l : List Nat}, x ∈ l → (∀ y ∈ l, f y = f x → y = x) → lk (.inl (f x)) (l.map fun y : Nat => (.inl (f y) : Key)) (l.map g) = some (g x)
  | [], h, _ => by simp at h
  | y :: l, h, hi => by
    simp only [List.map_cons, lk]
    by_cases hy : y = x
    · subst hy; simp
    · have h1 : (Sum.inl (f y) : Key) ≠ .inl (f x) := fun e => hy (hi y List.mem_cons_self (Sum.inl.inj e))
      rw [if_neg h1]
      exact lk_inj ((List.mem_cons.mp h).resolve_left (fun e => hy e.symm)) fun z hz => hi z (List.mem_cons_of_mem _ hz)
theorem zip_map {f : Nat → Key} {g : Nat → D} : ∀ l : List Nat, (l.map f).zip (l.map g) = l.map fun x => (f x, g x)
  | [] => rfl
  | x :: l => by simp [zip_map l]
section
variable {fs : Fs} {rg : List (Option Nat)} {bs : List Blk} {M : List Nat} {dn : Nat → Nat} {x : Nat}
theorem inj_of (L : Lay fs rg bs) (hM : ∀ y ∈ M, y < fs.length) (hx : x < fs.length) : ∀ y ∈ M, ((off fs y bs : Nat) : Int) = ((off fs x bs : Nat) : Int) → y = x := fun y hy e =>
  off_inj (fs := fs) (bs := bs) (L.mem.mpr (hM y hy)) (L.mem.mpr hx) (by omega)
theorem lk_done (L : Lay fs rg bs) (hM : ∀ y ∈ M, y < fs.length) (hx : x ∈ M) : lk (.inl ((off fs x bs : Nat) : Int)) (kM fs bs M) (dM M dn) = some (.int (dn x : Nat)) :=
  lk_inj (f := fun y => ((off fs y bs : Nat) : Int)) (g := fun y => .int (dn y : Nat)) hx (inj_of L hM (hM x hx))
theorem has_done (L : Lay fs rg bs) (hM : ∀ y ∈ M, y < fs.length) (hx : x < fs.length) : hasK (.inl ((off fs x bs : Nat) : Int)) (kM fs bs M) = decide (x ∈ M) := by
  rw [Bool.eq_iff_iff, decide_eq_true_eq]
  unfold hasK
  rw [List.any_map, List.any_eq_true]
  constructor
  · rintro ⟨y, hy, e⟩
    have e2 : (Sum.inl ((off fs y bs : Nat) : Int) : Key) = .inl ((off fs x bs : Nat) : Int) := by simpa using e
    exact (inj_of L hM hx y hy (Sum.inl.inj e2)) ▸ hy
  · intro h
    exact ⟨x, h, by simp⟩
theorem put_old (L : Lay fs rg bs) (hM : ∀ y ∈ M, y < fs.length) (hx : x ∈ M) (v : Nat) : putKD (kM fs bs M) (dM M dn) (.inl ((off fs x bs : Nat) : Int)) (.int (v : Nat)) = (kM fs bs M, dM M (upn dn x v)) := by
  unfold putKD
  rw [has_done L hM (hM x hx), decide_eq_true hx, if_pos rfl, zip_map, List.map_map]
  refine Prod.ext rfl (List.map_congr_left fun y hy => ?_)
  simp only [Function.comp, upn]
  by_cases hyx : y = x
  · subst hyx; simp
  · have h1 : (Sum.inl ((off fs y bs : Nat) : Int) : Key) ≠ .inl ((off fs x bs : Nat) : Int) := fun e => hyx (inj_of L hM (hM x hx) y hy (Sum.inl.inj e))
    rw [if_neg h1, if_neg hyx]
theorem put_new (L : Lay fs rg bs) (hM : ∀ y ∈ M, y < fs.length) (hx : x < fs.length) (hn : x ∉ M) (v : Nat) : putKD (kM fs bs M) (dM M dn) (.inl ((off fs x bs : Nat) : Int)) (.int (v : Nat)) = (kM fs bs (M ++ [x]), dM (M ++ [x]) (upn dn x v)) := by
  unfold putKD
  rw [has_done L hM hx, decide_eq_false hn, if_neg (by simp)]
  refine Prod.ext (by simp) ?_
  simp only [List.map_append, List.map_cons, List.map_nil, upn, if_pos]
  congr 1
  exact List.map_congr_left fun y hy => by rw [if_neg (fun e : y = x => hn (e ▸ hy))]
theorem fld_run {i : Nat} {C : Addr} {fn : Str} {m : Env → Option (D × Env)} {ρ ρ1 ρ2 : Env} {d : D} {ns : List Str} {ds : List D} (h : m ρ = some (d, ρ1)) (h1 : rdS i ρ1 = some (.ins C ns ds)) (h2 : ds.length < 1000) (h3 : ρ1.set i (.ins C (putN fn ns) (putL fn d ns ds)) = ρ2) : fldM i C fn m ρ = some (.nx ρ2) := by
  unfold fldM
  rw [h]
  simp only [h1]
  rw [if_pos ⟨trivial, h2⟩, h3]
theorem init_at {C : Addr} {cs : List D} : F_Reversal___init__ C [.ins C [] [], .tup cs] = some (.non, [rvD C (.lst .o cs) (.lst .o []) (.dic .o [] []), .any]) := by
  unfold F_Reversal___init__ m_Reversal___init__
  refine fn_nx (ρ := [rvD C (.lst .o cs) (.lst .o []) (.dic .o [] []), .tup cs]) rfl ?_ rfl
  refine seq_run (ρ1 := [.ins C ["cells"] [.lst .o cs], .tup cs]) (fld_run (d := .lst .o cs) (ρ1 := [.ins C [] [], .tup cs]) (ns := []) (ds := []) rfl rfl (by decide) rfl) ?_
  refine seq_run (ρ1 := [.ins C ["cells", "marks"] [.lst .o cs, .lst .o []], .tup cs]) (fld_run (d := .lst .o []) (ρ1 := [.ins C ["cells"] [.lst .o cs], .tup cs]) (ns := ["cells"]) (ds := [.lst .o cs]) rfl rfl (by simp) rfl) ?_
  exact fld_run (d := .dic .o [] []) (ρ1 := [.ins C ["cells", "marks"] [.lst .o cs, .lst .o []], .tup cs]) (ns := ["cells", "marks"]) (ds := [.lst .o cs, .lst .o []]) rfl rfl (by simp) rfl
theorem begin_at {C : Addr} (L : Lay fs rg bs) (c : List Int) (hM : ∀ y ∈ M, y < fs.length) (hx : x < fs.length) (hn : x ∉ M) (hl : M.length ≤ 1000) : F_Reversal_begin C [rv C fs bs c M dn, .int (off fs x bs : Nat)] = some (.non, [rv C fs bs c (M ++ [x]) (upn dn x 0), .any]) := by
  unfold F_Reversal_begin m_Reversal_begin
  refine fn_nx (ρ := [rv C fs bs c (M ++ [x]) (upn dn x 0), .int (off fs x bs : Nat)]) rfl ?_ rfl
  refine seq_run (ρ1 := [rvD C (.lst .o (c.map D.int)) (.lst .o (aD fs bs (M ++ [x]))) (.dic .o (kM fs bs M) (dM M dn)), .int (off fs x bs : Nat)]) (drop_run (d := .non) ?_) ?_
  · unfold appFM
    simp only [rdF, List.cons_append, List.nil_append, List.replicate_zero, Nat.sub_self]
    rw [rd_rv (a := .lst .o (c.map D.int)) (b := .lst .o (aD fs bs M)) (c := .dic .o (kM fs bs M) (dM M dn)) rfl]
    simp only [f_marks, s_marks, x_rdS, List.getElem?_cons_succ, List.getElem?_cons_zero, aD_len]
    rw [if_pos ⟨rfl, by omega⟩, aD_app]
    rfl
  · unfold subFM
    have h1 : (kM fs bs M).length < 16777216 := by simp; omega
    have h2 := put_new (dn := dn) L hM hx hn 0
    simp only [x_frzM, x_vQ, x_cst, x_isF_int, if_true, x_frz_int, rdF]
    rw [rd_rv (a := .lst .o (c.map D.int)) (b := .lst .o (aD fs bs (M ++ [x]))) (c := .dic .o (kM fs bs M) (dM M dn)) rfl]
    simp only [f_done, s_done, x_rdS, List.getElem?_cons_succ, List.getElem?_cons_zero, x_setAt_dic, x_key_int, x_isF_int, true_and, h1, if_true]
    have h3 : (D.int 0) = .int ((0 : Nat) : Int) := rfl
    rw [h3, h2]
    rfl
end
end K82

namespace K82
open PySem hiding Env
open L2 CW
theorem upn_same {dn : Nat → Nat} {x : Nat} : upn dn x (dn x) = dn := by
  funext y
  unfold upn
  split
  · rename_i h; rw [h]
  · rfl
theorem upn_upn {dn : Nat → Nat} {x a b : Nat} : upn (upn dn x a) x b = upn dn x b := by
  funext y
  unfold upn
  split <;> rfl
theorem upn_at {dn : Nat → Nat} {x a : Nat} : upn dn x a x = a := by unfold upn; rw [if_pos rfl]
/-- c has the cells of u as they were -/
structure Rd (fs : Fs) (bs : List Blk) (c : List Int) (u : Nat) : Prop where
  c0 : c[off fs u bs]? = some 1
  c2 : c[off fs u bs + 2]? = some ((fds fs u).length : Nat)
  cf : ∀ j (h : j < (fds fs u).length), c[off fs u bs + 3 + j]? = some (aO fs bs (fds fs u)[j])
section
variable {fs : Fs} {rg : List (Option Nat)} {bs : List Blk} {M : List Nat} {C : Addr} {c : List Int} {u : Nat}
theorem rdF_cells {dn : Nat → Nat} {ρ : Env} {i : Nat} (h : ρ[i]? = some (rv C fs bs c M dn)) : rdF i C "cells" ρ = some (.lst .o (c.map D.int)) := by
  unfold rdF
  rw [rd_rv h]
  exact f_cells
theorem rdF_marks {dn : Nat → Nat} {ρ : Env} {i : Nat} (h : ρ[i]? = some (rv C fs bs c M dn)) : rdF i C "marks" ρ = some (.lst .o (aD fs bs M)) := by
  unfold rdF
  rw [rd_rv h]
  exact f_marks
theorem rdF_done {dn : Nat → Nat} {ρ : Env} {i : Nat} (h : ρ[i]? = some (rv C fs bs c M dn)) : rdF i C "done" ρ = some (.dic .o (kM fs bs M) (dM M dn)) := by
  unfold rdF
  rw [rd_rv h]
  exact f_done
/-- self.done[a] += 1 -/
theorem aug_run (L : Lay fs rg bs) (hM : ∀ y ∈ M, y < fs.length) (hu : u ∈ M) (hl : M.length ≤ 1000) {dn : Nat → Nat} {ρ : Env} {i : Nat} {g : Env → Option D} (h : ρ[i]? = some (rv C fs bs c M dn)) (hg : g ρ = some (.int (off fs u bs : Nat))) :
    augFM i C "done" g (cst (.int 1)) ρ = some (.nx (ρ.set i (rv C fs bs c M (upn dn u (dn u + 1))))) := by
  unfold augFM
  rw [rdF_done h, rd_rv h, hg]
  have h1 : (kM fs bs M).length < 16777216 := by simp; omega
  have h2 := put_old (dn := dn) L hM hu (dn u + 1)
  have h3 := lk_done (dn := dn) L hM hu
  simp only [x_cst, x_ixK, x_key_int, h3, x_setAt_dic, x_isF_int, true_and, h1, if_true]
  have h4 : ((dn u : Nat) : Int) + 1 = ((dn u + 1 : Nat) : Int) := by omega
  rw [h4, h2]
  simp only [s_done]
theorem ix_done (L : Lay fs rg bs) (hM : ∀ y ∈ M, y < fs.length) (hu : u ∈ M) {dn : Nat → Nat} {ρ : Env} {i : Nat} {g : Env → Option D} (h : ρ[i]? = some (rv C fs bs c M dn)) (hg : g ρ = some (.int (off fs u bs : Nat))) : op2 ixK (rdF i C "done") g ρ = some (.int (dn u : Nat)) := by
  rw [x_op2, rdF_done h, hg]
  simp only [x_ixK, x_key_int, lk_done (dn := dn) L hM hu]
theorem ix_cells {dn : Nat → Nat} {ρ : Env} {i : Nat} {g : Env → Option D} {k : Nat} {v : Int} (h : ρ[i]? = some (rv C fs bs c M dn)) (hg : g ρ = some (.int (k : Nat))) (hk : c[k]? = some v) : op2 ixD (rdF i C "cells") g ρ = some (.int v) := by
  rw [x_op2, rdF_cells h, hg]
  simp only [x_ix_lst, atI_cast hk]
theorem next_loop (L : Lay fs rg bs) (hM : ∀ y ∈ M, y < fs.length) (hu : u ∈ M) (hl : M.length ≤ 1000) (R : Rd fs bs c u) : ∀ (k : Nat) (dn : Nat → Nat) (u2 : D), (fds fs u).length - dn u < k → dn u ≤ (fds fs u).length →
    ∃ j, dn u ≤ j ∧ j ≤ (fds fs u).length ∧ (∀ i, dn u ≤ i → i < j → ∀ v, (fds fs u)[i]? = some (some v) → v ∈ M) ∧
      ((∃ v, (fds fs u)[j]? = some (some v) ∧ v ∉ M ∧ whileM (W_Reversal_next_field_1 C) (B_Reversal_next_field_1 C) k [rv C fs bs c M dn, .int (off fs u bs : Nat), u2] = some (.rt (.int (off fs u bs + 3 + j : Nat)) [rv C fs bs c M (upn dn u j), .int (off fs u bs : Nat), .any])) ∨
       (j = (fds fs u).length ∧ ∃ v2, whileM (W_Reversal_next_field_1 C) (B_Reversal_next_field_1 C) k [rv C fs bs c M dn, .int (off fs u bs : Nat), u2] = some (.nx [rv C fs bs c M (upn dn u j), .int (off fs u bs : Nat), v2])))
  | 0, dn, _, h, _ => by omega
  | k + 1, dn, u2, h, hd => by
    have hw : W_Reversal_next_field_1 C [rv C fs bs c M dn, .int (off fs u bs : Nat), u2] = some (decide (dn u < (fds fs u).length), [rv C fs bs c M dn, .int (off fs u bs : Nat), u2]) := by
      unfold W_Reversal_next_field_1
      have e1 := ix_done (dn := dn) (ρ := [rv C fs bs c M dn, .int (off fs u bs : Nat), u2]) (i := 0) (g := rdS 1) L hM hu rfl rfl
      have e2 := ix_cells (dn := dn) (ρ := [rv C fs bs c M dn, .int (off fs u bs : Nat), u2]) (i := 0) (g := op2 addI (rdS 1) (cst (.int 2))) (k := off fs u bs + 2) rfl (by simp) R.c2
      rw [x_qB, x_asB, x_op2, e1, e2]
      simp
    by_cases hlt : dn u < (fds fs u).length
    · rw [decide_eq_true hlt] at hw
      have hcf := R.cf (dn u) hlt
      have e3 : setM 2 (vQ (op2 addI (op2 addI (rdS 1) (cst (.int 3))) (op2 ixK (rdF 0 C "done") (rdS 1)))) [rv C fs bs c M dn, .int (off fs u bs : Nat), u2] = some (.nx [rv C fs bs c M dn, .int (off fs u bs : Nat), .int (off fs u bs + 3 + dn u : Nat)]) := by
        have e1 := ix_done (dn := dn) (ρ := [rv C fs bs c M dn, .int (off fs u bs : Nat), u2]) (i := 0) (g := rdS 1) L hM hu rfl rfl
        refine set_run (ρ1 := [rv C fs bs c M dn, .int (off fs u bs : Nat), u2]) (d := .int (off fs u bs + 3 + dn u : Nat)) ?_ rfl
        rw [x_vQ, x_op2, e1]
        simp
      have e4 := ix_cells (dn := dn) (ρ := [rv C fs bs c M dn, .int (off fs u bs : Nat), .int (off fs u bs + 3 + dn u : Nat)]) (i := 0) (g := rdS 2) (k := off fs u bs + 3 + dn u) rfl rfl hcf
      have e5 := rdF_marks (C := C) (fs := fs) (bs := bs) (c := c) (M := M) (dn := dn) (ρ := [rv C fs bs c M dn, .int (off fs u bs : Nat), .int (off fs u bs + 3 + dn u : Nat)]) (i := 0) rfl
      -- the next turn
      have go : (∀ v, (fds fs u)[dn u]? = some (some v) → v ∈ M) → B_Reversal_next_field_1 C [rv C fs bs c M dn, .int (off fs u bs : Nat), u2] = some (.nx [rv C fs bs c M (upn dn u (dn u + 1)), .int (off fs u bs : Nat), .int (off fs u bs + 3 + dn u : Nat)]) → ∃ j, dn u ≤ j ∧ j ≤ (fds fs u).length ∧ (∀ i, dn u ≤ i → i < j → ∀ v, (fds fs u)[i]? = some (some v) → v ∈ M) ∧
          ((∃ v, (fds fs u)[j]? = some (some v) ∧ v ∉ M ∧ whileM (W_Reversal_next_field_1 C) (B_Reversal_next_field_1 C) (k + 1) [rv C fs bs c M dn, .int (off fs u bs : Nat), u2] = some (.rt (.int (off fs u bs + 3 + j : Nat)) [rv C fs bs c M (upn dn u j), .int (off fs u bs : Nat), .any])) ∨
           (j = (fds fs u).length ∧ ∃ v2, whileM (W_Reversal_next_field_1 C) (B_Reversal_next_field_1 C) (k + 1) [rv C fs bs c M dn, .int (off fs u bs : Nat), u2] = some (.nx [rv C fs bs c M (upn dn u j), .int (off fs u bs : Nat), v2]))) := fun hok hb => by
        obtain ⟨j, h1, h2, h3, h4⟩ := next_loop L hM hu hl R k (upn dn u (dn u + 1)) (.int (off fs u bs + 3 + dn u : Nat)) (by rw [upn_at]; omega) (by rw [upn_at]; omega)
        rw [upn_at] at h1 h3
        rw [while_step hw hb]
        rw [upn_upn] at h4
        refine ⟨j, by omega, h2, fun i hi hij v hv => ?_, h4⟩
        by_cases hid : i = dn u
        · subst hid; exact hok v hv
        · exact h3 i (by omega) hij v hv
      have e7 := aug_run (u := u) (g := rdS 1) (i := 0) (dn := dn) (c := c) (C := C) (ρ := [rv C fs bs c M dn, .int (off fs u bs : Nat), .int (off fs u bs + 3 + dn u : Nat)]) L hM hu hl rfl rfl
      cases hfu : (fds fs u)[dn u] with
      | none =>
        rw [hfu] at e4
        refine go (fun v hv => by rw [List.getElem?_eq_getElem hlt, hfu] at hv; cases hv) ?_
        unfold B_Reversal_next_field_1
        refine seq_run e3 (seq_run (if_false' (ρ1 := [rv C fs bs c M dn, .int (off fs u bs : Nat), .int (off fs u bs + 3 + dn u : Nat)]) ?_ rfl) e7)
        rw [x_qB, x_andB, x_asB, x_op2, e4]
        simp [aO]
      | some v =>
        rw [hfu] at e4
        have hv : v < fs.length := L.h.f u (some v) (hfu ▸ List.getElem_mem hlt) v rfl
        have hin := in_aD L hv hM
        have hne : ¬ ((off fs v bs : Nat) : Int) = -1 := by omega
        by_cases hvM : v ∈ M
        · refine go (fun w hw2 => by rw [List.getElem?_eq_getElem hlt, hfu] at hw2; cases hw2; exact hvM) ?_
          unfold B_Reversal_next_field_1
          refine seq_run e3 (seq_run (if_false' (ρ1 := [rv C fs bs c M dn, .int (off fs u bs : Nat), .int (off fs u bs + 3 + dn u : Nat)]) ?_ rfl) e7)
          rw [x_qB, x_andB, x_asB, x_op2, e4, x_asB, x_op2, e4, e5]
          simp only [aO, x_cst, x_neD_int, hne, x_negD, x_inS, x_items_lst, hin, hvM]
          rfl
        · refine ⟨dn u, Nat.le_refl _, hd, fun i h1 h2 => by omega, .inl ⟨v, by rw [List.getElem?_eq_getElem hlt, hfu], hvM, ?_⟩⟩
          refine while_ret hw ?_
          unfold B_Reversal_next_field_1
          refine seq_run e3 (seq_stop (if_true' (ρ1 := [rv C fs bs c M dn, .int (off fs u bs : Nat), .int (off fs u bs + 3 + dn u : Nat)]) ?_ ?_))
          · rw [x_qB, x_andB, x_asB, x_op2, e4, x_asB, x_op2, e4, e5]
            simp only [aO, x_cst, x_neD_int, hne, x_negD, x_inS, x_items_lst, hin, hvM]
            rfl
          · rw [upn_same]
            rfl
    · rw [decide_eq_false hlt] at hw
      have hj : dn u = (fds fs u).length := by omega
      refine ⟨dn u, Nat.le_refl _, hd, fun i h1 h2 => by omega, .inr ⟨hj, u2, ?_⟩⟩
      rw [upn_same]
      exact while_done hw
theorem next_at (L : Lay fs rg bs) (hM : ∀ y ∈ M, y < fs.length) (hu : u ∈ M) (hl : M.length ≤ 1000) (R : Rd fs bs c u) {dn : Nat → Nat} (hd : dn u ≤ (fds fs u).length) :
    ∃ j, dn u ≤ j ∧ j ≤ (fds fs u).length ∧ (∀ i, dn u ≤ i → i < j → ∀ v, (fds fs u)[i]? = some (some v) → v ∈ M) ∧
      ((∃ v, (fds fs u)[j]? = some (some v) ∧ v ∉ M ∧ F_Reversal_next_field C [rv C fs bs c M dn, .int (off fs u bs : Nat)] = some (.int (off fs u bs + 3 + j : Nat), [rv C fs bs c M (upn dn u j), .any])) ∨
       (j = (fds fs u).length ∧ F_Reversal_next_field C [rv C fs bs c M dn, .int (off fs u bs : Nat)] = some (.non, [rv C fs bs c M (upn dn u j), .any]))) := by
  have h3 := L.f3 u
  obtain ⟨j, h1, h2, h3, h4⟩ := next_loop (C := C) L hM hu hl R 1000 dn .any (by omega) hd
  have e0 : ifM (qB (asB (op2 neD (op2 ixD (rdF 0 C "cells") (rdS 1)) (cst (.int 1))))) (retM (vQ (cst .non))) skipM [rv C fs bs c M dn, .int (off fs u bs : Nat), .any] = some (.nx [rv C fs bs c M dn, .int (off fs u bs : Nat), .any]) := by
    have e2 := ix_cells (dn := dn) (C := C) (fs := fs) (bs := bs) (M := M) (ρ := [rv C fs bs c M dn, .int (off fs u bs : Nat), .any]) (i := 0) (g := rdS 1) (k := off fs u bs) rfl rfl R.c0
    refine if_false' (ρ1 := [rv C fs bs c M dn, .int (off fs u bs : Nat), .any]) ?_ rfl
    rw [x_qB, x_asB, x_op2, e2]
    rfl
  refine ⟨j, h1, h2, h3, ?_⟩
  rcases h4 with ⟨v, h5, h6, h7⟩ | ⟨h5, v2, h7⟩
  · refine .inl ⟨v, h5, h6, ?_⟩
    unfold F_Reversal_next_field m_Reversal_next_field
    exact fn_ret (ρ := [rv C fs bs c M (upn dn u j), .int (off fs u bs : Nat), .any]) rfl (seq_run e0 (seq_stop h7)) rfl
  · refine .inr ⟨h5, ?_⟩
    unfold F_Reversal_next_field m_Reversal_next_field
    exact fn_ret (ρ := [rv C fs bs c M (upn dn u j), .int (off fs u bs : Nat), v2]) rfl (seq_run e0 (seq_run h7 rfl)) rfl
end
end K82

namespace K82
open PySem hiding Env
open L2 CW
/-- what the way's last field keeps -/
def pv' (fs : Fs) (bs : List Blk) : List Nat → Int
  | [] => -1
  | p :: _ => (off fs p bs : Nat)
/-- the cells with the way turned about -/
def tu (fs : Fs) (bs : List Blk) (dn : Nat → Nat) : List Nat → List Int
  | [] => cells fs bs
  | p :: S => (tu fs bs dn S).set (off fs p bs + 3 + dn p) (pv' fs bs S)
def ch (fs : Fs) (dn : Nat → Nat) : Nat → List Nat → Prop
  | _, [] => True
  | u, p :: S => (fds fs p)[dn p]? = some (some u) ∧ ch fs dn p S
theorem tu_len {fs : Fs} {bs : List Blk} {dn : Nat → Nat} : ∀ S : List Nat, (tu fs bs dn S).length = (cells fs bs).length
  | [] => rfl
  | p :: S => by simp [tu, tu_len S]
theorem tu_congr {fs : Fs} {bs : List Blk} {dn dn' : Nat → Nat} : ∀ {S : List Nat}, (∀ p ∈ S, dn p = dn' p) → tu fs bs dn S = tu fs bs dn' S
  | [], _ => rfl
  | p :: S, h => by
    simp only [tu]
    rw [tu_congr fun q hq => h q (List.mem_cons_of_mem _ hq), h p List.mem_cons_self]
theorem ch_congr {fs : Fs} {dn dn' : Nat → Nat} : ∀ {S : List Nat} {u : Nat}, (∀ p ∈ S, dn p = dn' p) → ch fs dn u S → ch fs dn' u S
  | [], _, _, _ => trivial
  | p :: S, u, h, hc => ⟨by rw [← h p List.mem_cons_self]; exact hc.1, ch_congr (fun q hq => h q (List.mem_cons_of_mem _ hq)) hc.2⟩
theorem ch_lt {fs : Fs} {dn : Nat → Nat} : ∀ {S : List Nat} {u : Nat}, ch fs dn u S → ∀ p ∈ S, dn p < (fds fs p).length
  | [], _, _, _, h => by simp at h
  | p :: S, u, hc, q, hq => by
    rcases List.mem_cons.mp hq with rfl | z
    · exact (List.getElem?_eq_some_iff.mp hc.1).1
    · exact ch_lt hc.2 q z
theorem tu_read {fs : Fs} {rg : List (Option Nat)} {bs : List Blk} {dn : Nat → Nat} (L : Lay fs rg bs) {x k : Nat} (hx : x < fs.length) (hk : k < 3 + (fds fs x).length) : ∀ {S : List Nat}, (∀ p ∈ S, p < fs.length) → (∀ p ∈ S, dn p < (fds fs p).length) → x ∉ S → (tu fs bs dn S)[off fs x bs + k]? = (cells fs bs)[off fs x bs + k]?
  | [], _, _, _ => rfl
  | p :: S, h1, h2, h3 => by
    have hp := h1 p List.mem_cons_self
    have hd := h2 p List.mem_cons_self
    have hne : x ≠ p := fun e => h3 (e ▸ List.mem_cons_self)
    have hap := off_apart (fs := fs) (L.mem.mpr hx) (L.mem.mpr hp) hne
    simp only [tu]
    rw [List.getElem?_set_ne (by omega)]
    exact tu_read L hx hk (fun q hq => h1 q (List.mem_cons_of_mem _ hq)) (fun q hq => h2 q (List.mem_cons_of_mem _ hq)) fun z => h3 (List.mem_cons_of_mem _ z)
theorem tu_rd {fs : Fs} {rg : List (Option Nat)} {bs : List Blk} {dn : Nat → Nat} (L : Lay fs rg bs) {x : Nat} (hx : x < fs.length) {S : List Nat} (h1 : ∀ p ∈ S, p < fs.length) (h2 : ∀ p ∈ S, dn p < (fds fs p).length) (h3 : x ∉ S) : Rd fs bs (tu fs bs dn S) x := by
  refine ⟨?_, ?_, fun j hj => ?_⟩
  · have := tu_read (k := 0) L hx (by omega) h1 h2 h3
    rw [Nat.add_zero] at this
    rw [this]; exact L.at0 hx
  · rw [tu_read (k := 2) L hx (by omega) h1 h2 h3]; exact L.at2 hx
  · rw [Nat.add_assoc, tu_read (k := 3 + j) L hx (by omega) h1 h2 h3, ← Nat.add_assoc]; exact L.fd hx hj
structure SI (fs : Fs) (rg : List (Option Nat)) (M0 M S : List Nat) (u : Nat) (dn : Nat → Nat) : Prop where
  nd : M.Nodup
  rM : ∀ x ∈ M, Reach fs rg x
  sub : ∀ x ∈ M0, x ∈ M
  us : (u :: S).Nodup
  inM : ∀ x ∈ u :: S, x ∈ M
  le : ∀ x ∈ M, dn x ≤ (fds fs x).length
  ch : ch fs dn u S
  fin : ∀ x ∈ M, x ∉ u :: S → dn x = (fds fs x).length
  cl : ∀ x ∈ M, ∀ i, i < dn x → ∀ v, (fds fs x)[i]? = some (some v) → v ∈ M
section
variable {fs : Fs} {rg : List (Option Nat)} {bs : List Blk} {M M0 S : List Nat} {C : Addr} {c : List Int} {u : Nat} {dn : Nat → Nat}
theorem sub_run {ρ ρ1 : Env} {i k : Nat} {v : Int} {g : Env → Option D} {m : Env → Option (D × Env)} (hm : frzM m ρ = some (.int v, ρ1)) (h : ρ1[i]? = some (rv C fs bs c M dn)) (hg : g ρ1 = some (.int (k : Nat))) (hk : k < c.length) :
    subFM i C "cells" g m ρ = some (.nx (ρ1.set i (rv C fs bs (c.set k v) M dn))) := by
  unfold subFM
  rw [hm]
  simp only []
  rw [rdF_cells h, rd_rv h, hg]
  have h1 : (k : Int) < (c.length : Int) := by omega
  have h2 : setAtD (.lst .o (c.map D.int)) (.int (k : Nat)) (.int v) = some (.lst .o ((c.set k v).map D.int)) := by
    simp [setAtL, ixN, h1, List.map_set]
  simp only [h2, s_cells]
abbrev mE' (C : Addr) (fs : Fs) (bs : List Blk) (c : List Int) (M : List Nat) (dn : Nat → Nat) (r : D) (pr : Int) (u : Nat) (x4 x5 x6 : D) : Env := [rv C fs bs c M dn, r, .int pr, .int (off fs u bs : Nat), x4, x5, x6]
theorem next_run {F : D} {r x4 x5 x6 : D} {pr : Int} {dn' : Nat → Nat} (e : F_Reversal_next_field C [rv C fs bs c M dn, .int (off fs u bs : Nat)] = some (F, [rv C fs bs c M dn', .any])) :
    setM 4 (callM (F_Reversal_next_field C) (lendI 0 C "next_field" (consC (nmM 3) nilC))) (mE' C fs bs c M dn r pr u x4 x5 x6) = some (.nx [rv C fs bs c M dn', r, .int pr, .int (off fs u bs : Nat), F, x5, x6]) := by
  refine set_run (ρ1 := mE' C fs bs c M dn' r pr u x4 x5 x6) (d := F) ?_ rfl
  refine call_run (os := [.s 0, .v (.int (off fs u bs : Nat))]) (ρ1 := mE' C fs bs c M dn r pr u x4 x5 x6) (ds := [rv C fs bs c M dn, .int (off fs u bs : Nat)]) ?_ rfl e rfl rfl
  unfold lendI
  rw [rd_rv rfl]
  unfold rvD
  simp only []
  rw [if_pos ⟨trivial, by decide⟩]
  rfl
theorem begin_run {ρ : Env} {i j v : Nat} {dn' : Nat → Nat} {M' : List Nat} (h0 : ρ[0]? = some (rv C fs bs c M dn)) (hj : nmM j ρ = some (.int (off fs v bs : Nat), ρ)) (e : F_Reversal_begin C [rv C fs bs c M dn, .int (off fs v bs : Nat)] = some (.non, [rv C fs bs c M' dn', .any])) :
    dropM (callM (F_Reversal_begin C) (lendI 0 C "begin" (consC (nmM j) nilC))) ρ = some (.nx ((ρ.set 0 .any).set 0 (rv C fs bs c M' dn'))) := by
  refine drop_run (d := .non) ?_
  refine call_run (os := [.s 0, .v (.int (off fs v bs : Nat))]) (ρ1 := ρ) (ρ2 := ρ.set 0 .any) (ds := [rv C fs bs c M dn, .int (off fs v bs : Nat)]) ?_ ?_ e rfl rfl
  · unfold lendI
    rw [rd_rv h0]
    unfold rvD
    simp only []
    rw [if_pos ⟨trivial, by decide⟩, x_consC, hj]
    rfl
  · rw [x_takes, rd_rv h0]
    rfl
end
end K82

namespace K82
open PySem hiding Env
open L2 CW
section
variable {fs : Fs} {rg : List (Option Nat)} {bs : List Blk} {M M0 S : List Nat} {C : Addr} {c : List Int} {u : Nat} {dn : Nat → Nat}
/-- on, to the field's object -/
theorem push_turn {r x4 x5 x6 : D} {pr : Int} {dn1 dn2 : Nat → Nat} {j v : Nat} {M2 : List Nat} (e : F_Reversal_next_field C [rv C fs bs c M dn, .int (off fs u bs : Nat)] = some (.int (off fs u bs + 3 + j : Nat), [rv C fs bs c M dn1, .any])) (hc : c[off fs u bs + 3 + j]? = some ((off fs v bs : Nat) : Int))
    (e2 : F_Reversal_begin C [rv C fs bs (c.set (off fs u bs + 3 + j) pr) M dn1, .int (off fs v bs : Nat)] = some (.non, [rv C fs bs (c.set (off fs u bs + 3 + j) pr) M2 dn2, .any])) :
    B_Reversal_mark_1 C (mE' C fs bs c M dn r pr u x4 x5 x6) = some (.nx (mE' C fs bs (c.set (off fs u bs + 3 + j) pr) M2 dn2 r (off fs u bs : Nat) v (.int (off fs u bs + 3 + j : Nat)) (.int (off fs v bs : Nat)) x6)) := by
  unfold B_Reversal_mark_1
  refine seq_run (next_run e) ?_
  refine if_true' (ρ1 := [rv C fs bs c M dn1, r, .int pr, .int (off fs u bs : Nat), .int (off fs u bs + 3 + j : Nat), x5, x6]) rfl ?_
  refine seq_run (ρ1 := [rv C fs bs c M dn1, r, .int pr, .int (off fs u bs : Nat), .int (off fs u bs + 3 + j : Nat), .int (off fs v bs : Nat), x6]) ?_ ?_
  · refine set_run (ρ1 := [rv C fs bs c M dn1, r, .int pr, .int (off fs u bs : Nat), .int (off fs u bs + 3 + j : Nat), x5, x6]) (d := .int (off fs v bs : Nat)) ?_ rfl
    rw [x_vQ, ix_cells (dn := dn1) (k := off fs u bs + 3 + j) rfl rfl hc]
    rfl
  refine seq_run (sub_run (dn := dn1) (c := c) (M := M) (k := off fs u bs + 3 + j) (v := pr) (ρ1 := [rv C fs bs c M dn1, r, .int pr, .int (off fs u bs : Nat), .int (off fs u bs + 3 + j : Nat), .int (off fs v bs : Nat), x6]) rfl rfl rfl (List.getElem?_eq_some_iff.mp hc).1) ?_
  refine seq_run (ρ1 := [rv C fs bs (c.set (off fs u bs + 3 + j) pr) M dn1, r, .int (off fs u bs : Nat), .int (off fs u bs : Nat), .int (off fs u bs + 3 + j : Nat), .int (off fs v bs : Nat), x6]) rfl ?_
  refine seq_run (ρ1 := [rv C fs bs (c.set (off fs u bs + 3 + j) pr) M dn1, r, .int (off fs u bs : Nat), .int (off fs v bs : Nat), .int (off fs u bs + 3 + j : Nat), .int (off fs v bs : Nat), x6]) rfl ?_
  exact begin_run (i := 0) rfl rfl e2
/-- at the root, with nothing left -/
theorem done_turn {r x4 x5 x6 : D} {dn1 : Nat → Nat} (e : F_Reversal_next_field C [rv C fs bs c M dn, .int (off fs u bs : Nat)] = some (.non, [rv C fs bs c M dn1, .any])) :
    B_Reversal_mark_1 C (mE' C fs bs c M dn r (-1) u x4 x5 x6) = some (.rt .non (mE' C fs bs c M dn1 r (-1) u .non x5 x6)) := by
  unfold B_Reversal_mark_1
  refine seq_run (next_run e) ?_
  refine if_false' (ρ1 := mE' C fs bs c M dn1 r (-1) u .non x5 x6) rfl ?_
  exact if_true' (ρ1 := mE' C fs bs c M dn1 r (-1) u .non x5 x6) rfl rfl
/-- back, to where the way came from -/
theorem pop_turn (L : Lay fs rg bs) {r x4 x5 x6 : D} {dn1 : Nat → Nat} {p : Nat} {old : Int} (hM : ∀ y ∈ M, y < fs.length) (hp : p ∈ M) (hl : M.length ≤ 1000) (e : F_Reversal_next_field C [rv C fs bs c M dn, .int (off fs u bs : Nat)] = some (.non, [rv C fs bs c M dn1, .any])) (hc : c[off fs p bs + 3 + dn1 p]? = some old) :
    B_Reversal_mark_1 C (mE' C fs bs c M dn r (off fs p bs : Nat) u x4 x5 x6) = some (.nx (mE' C fs bs (c.set (off fs p bs + 3 + dn1 p) (off fs u bs : Nat)) M (upn dn1 p (dn1 p + 1)) r old p (.int (off fs p bs + 3 + dn1 p : Nat)) x5 (.int old))) := by
  have hne : ¬ ((off fs p bs : Nat) : Int) = -1 := by omega
  unfold B_Reversal_mark_1
  refine seq_run (next_run e) ?_
  refine if_false' (ρ1 := mE' C fs bs c M dn1 r (off fs p bs : Nat) u .non x5 x6) rfl ?_
  refine if_false' (ρ1 := mE' C fs bs c M dn1 r (off fs p bs : Nat) u .non x5 x6) ?_ ?_
  · have : neD (.int (off fs p bs : Nat)) (.int (-1)) = some (.bl true) := by simp [hne]
    simp [mE', hne]
  refine seq_run (ρ1 := mE' C fs bs c M dn1 r (off fs p bs : Nat) u (.int (off fs p bs + 3 + dn1 p : Nat)) x5 x6) ?_ ?_
  · refine set_run (ρ1 := mE' C fs bs c M dn1 r (off fs p bs : Nat) u .non x5 x6) (d := .int (off fs p bs + 3 + dn1 p : Nat)) ?_ rfl
    have e1 := ix_done (dn := dn1) (ρ := mE' C fs bs c M dn1 r (off fs p bs : Nat) u .non x5 x6) (C := C) (c := c) (i := 0) (g := rdS 2) L hM hp rfl rfl
    rw [x_vQ, x_op2, e1]
    simp [mE']
  refine seq_run (ρ1 := mE' C fs bs c M dn1 r (off fs p bs : Nat) u (.int (off fs p bs + 3 + dn1 p : Nat)) x5 (.int old)) ?_ ?_
  · refine set_run (ρ1 := mE' C fs bs c M dn1 r (off fs p bs : Nat) u (.int (off fs p bs + 3 + dn1 p : Nat)) x5 x6) (d := .int old) ?_ rfl
    rw [x_vQ, ix_cells (dn := dn1) (k := off fs p bs + 3 + dn1 p) rfl rfl hc]
    rfl
  refine seq_run (sub_run (dn := dn1) (c := c) (M := M) (k := off fs p bs + 3 + dn1 p) (v := (off fs u bs : Nat)) (ρ1 := mE' C fs bs c M dn1 r (off fs p bs : Nat) u (.int (off fs p bs + 3 + dn1 p : Nat)) x5 (.int old)) rfl rfl rfl (List.getElem?_eq_some_iff.mp hc).1) ?_
  refine seq_run (aug_run (u := p) (g := rdS 2) (i := 0) (dn := dn1) (c := c.set (off fs p bs + 3 + dn1 p) (off fs u bs : Nat)) (C := C) L hM hp hl rfl rfl) ?_
  refine seq_run (ρ1 := mE' C fs bs (c.set (off fs p bs + 3 + dn1 p) (off fs u bs : Nat)) M (upn dn1 p (dn1 p + 1)) r (off fs p bs : Nat) p (.int (off fs p bs + 3 + dn1 p : Nat)) x5 (.int old)) rfl rfl
theorem mark_loop (L : Lay fs rg bs) : ∀ (k : Nat) (M S : List Nat) (u : Nat) (dn : Nat → Nat) (r x4 x5 x6 : D), 2 * (fs.length - M.length) + S.length < k → SI fs rg M0 M S u dn →
    ∃ M' dn' ρ', whileM W_Reversal_mark_1 (B_Reversal_mark_1 C) k (mE' C fs bs (tu fs bs dn S) M dn r (pv' fs bs S) u x4 x5 x6) = some (.rt .non (rv C fs bs (cells fs bs) M' dn' :: ρ')) ∧ ρ'.length = 6 ∧ M'.Nodup ∧ (∀ x ∈ M', Reach fs rg x) ∧ (∀ x ∈ M, x ∈ M') ∧ (∀ x ∈ M', dn' x = (fds fs x).length) ∧ (∀ x ∈ M', ∀ y ∈ succs fs x, y ∈ M')
  | 0, _, _, _, _, _, _, _, _, h, _ => by omega
  | k + 1, M, S, u, dn, r, x4, x5, x6, h, I => by
    have hM : ∀ y ∈ M, y < fs.length := fun y hy => L.rc (I.rM y hy)
    have hMl := nodup_lt I.nd hM
    have h8 := L.n8
    have huM : u ∈ M := I.inM u List.mem_cons_self
    have hu := hM u huM
    have hSM : ∀ p ∈ S, p ∈ M := fun p hp => I.inM p (List.mem_cons_of_mem _ hp)
    have hS : ∀ p ∈ S, p < fs.length := fun p hp => hM p (hSM p hp)
    obtain ⟨huS, hSn⟩ := List.nodup_cons.mp I.us
    have hlt := ch_lt I.ch
    have R := tu_rd L hu hS hlt huS
    obtain ⟨j, hj1, hj2, hj3, hj4⟩ := next_at (C := C) L hM huM (by omega) R (I.le u huM)
    have agree : ∀ v, ∀ p ∈ S, dn p = upn dn u v p := fun v p hp => by
      unfold upn
      rw [if_neg (fun e : p = u => huS (e ▸ hp))]
    have cl1 : ∀ x ∈ M, ∀ i, i < upn dn u j x → ∀ v, (fds fs x)[i]? = some (some v) → v ∈ M := fun x hx i hi v hv => by
      unfold upn at hi
      split at hi
      · rename_i hxu
        subst hxu
        by_cases hid : i < dn x
        · exact I.cl x hx i hid v hv
        · exact hj3 i (by omega) hi v hv
      · exact I.cl x hx i hi v hv
    rcases hj4 with ⟨v, hv, hvM, e⟩ | ⟨hjl, e⟩
    · -- on
      have hjlt : j < (fds fs u).length := (List.getElem?_eq_some_iff.mp hv).1
      have hvj : (fds fs u)[j] = some v := by rw [List.getElem?_eq_getElem hjlt] at hv; exact Option.some.inj hv
      have hvl : v < fs.length := L.h.f u (some v) (hvj ▸ List.getElem_mem hjlt) v rfl
      have hc := R.cf j hjlt
      rw [hvj] at hc
      have hset : (tu fs bs dn S).set (off fs u bs + 3 + j) (pv' fs bs S) = tu fs bs (upn (upn dn u j) v 0) (u :: S) := by
        have h1 : ∀ p ∈ u :: S, upn dn u j p = upn (upn dn u j) v 0 p := fun p hp => by
          show _ = if p = v then 0 else upn dn u j p
          rw [if_neg (fun e : p = v => hvM (e ▸ I.inM p hp))]
        rw [← tu_congr h1]
        simp only [tu, upn_at]
        rw [tu_congr (agree j)]
      have eb := begin_at (C := C) (dn := upn dn u j) L ((tu fs bs dn S).set (off fs u bs + 3 + j) (pv' fs bs S)) hM hvl hvM (by omega)
      rw [while_step (ρ1 := mE' C fs bs (tu fs bs dn S) M dn r (pv' fs bs S) u x4 x5 x6) rfl (push_turn e hc eb), hset]
      have hnd : (M ++ [v]).Nodup := List.nodup_append.mpr ⟨I.nd, by simp, fun a ha b hb e => by simp at hb; subst hb; subst e; exact hvM ha⟩
      have hrv : Reach fs rg v := .step (I.rM u huM) (by
        unfold succs
        exact List.mem_filterMap.mpr ⟨some v, hvj ▸ List.getElem_mem hjlt, rfl⟩)
      have hM2 : ∀ y ∈ M ++ [v], y < fs.length := fun y hy => by
        rcases List.mem_append.mp hy with z | z
        · exact hM y z
        · simp at z; omega
      have hl2 := nodup_lt hnd hM2
      simp only [List.length_append, List.length_cons, List.length_nil] at hl2
      have hvo : ∀ x ∈ M, upn (upn dn u j) v 0 x = upn dn u j x := fun x hx => by
        show (if x = v then 0 else upn dn u j x) = _
        rw [if_neg (fun e : x = v => hvM (e ▸ hx))]
      obtain ⟨M', dn', ρ', e', h1, h2, h3, h4, h5⟩ := mark_loop L k (M ++ [v]) (u :: S) v (upn (upn dn u j) v 0) r (.int (off fs u bs + 3 + j : Nat)) (.int (off fs v bs : Nat)) x6 (by simp only [List.length_append, List.length_cons, List.length_nil]; omega) {
        nd := hnd
        rM := fun y hy => by
          rcases List.mem_append.mp hy with z | z
          · exact I.rM y z
          · simp at z; exact z ▸ hrv
        sub := fun x hx => List.mem_append_left _ (I.sub x hx)
        us := List.nodup_cons.mpr ⟨fun hm => hvM (I.inM v hm), I.us⟩
        inM := fun x hx => by
          rcases List.mem_cons.mp hx with rfl | z
          · simp
          · exact List.mem_append_left _ (I.inM x z)
        le := fun x hx => by
          rcases List.mem_append.mp hx with z | z
          · rw [hvo x z]
            unfold upn
            split
            · rename_i hxu; rw [hxu]; omega
            · exact I.le x z
          · simp at z; subst z; rw [upn_at]; omega
        ch := ⟨by rw [hvo u huM, upn_at]; exact hv, ch_congr (fun p hp => by rw [hvo p (hSM p hp)]; exact agree j p hp) I.ch⟩
        fin := fun x hx hn => by
          rcases List.mem_append.mp hx with z | z
          · rw [hvo x z]
            have : x ∉ u :: S := fun w => hn (List.mem_cons_of_mem _ w)
            unfold upn
            rw [if_neg (fun e : x = u => this (e ▸ List.mem_cons_self))]
            exact I.fin x z this
          · simp at z; exact absurd (z ▸ List.mem_cons_self) hn
        cl := fun x hx i hi w hw => by
          rcases List.mem_append.mp hx with z | z
          · rw [hvo x z] at hi
            exact List.mem_append_left _ (cl1 x z i hi w hw)
          · simp at z; subst z; rw [upn_at] at hi; omega }
      exact ⟨M', dn', ρ', e', h1, h2, h3, fun x hx => h4 x (List.mem_append_left _ hx), h5⟩
    · cases S with
      | nil =>
        refine ⟨M, upn dn u j, [r, .int (-1), .int (off fs u bs : Nat), .non, x5, x6], ?_, rfl, I.nd, I.rM, fun x hx => hx, ?_, ?_⟩
        · exact while_ret (ρ1 := mE' C fs bs (tu fs bs dn []) M dn r (pv' fs bs []) u x4 x5 x6) rfl (done_turn e)
        · intro x hx
          unfold upn
          split
          · rename_i hxu; rw [hxu]; exact hjl
          · rename_i hxu; exact I.fin x hx (by simpa using hxu)
        · intro x hx y hy
          unfold succs at hy
          obtain ⟨o, ho, rfl⟩ := List.mem_filterMap.mp hy
          obtain ⟨i, hi, e2⟩ := List.mem_iff_getElem.mp ho
          refine cl1 x hx i ?_ y (by rw [List.getElem?_eq_getElem hi, e2])
          unfold upn
          split
          · rename_i hxu; subst hxu; omega
          · rename_i hxu; rw [I.fin x hx (by simpa using hxu)]; exact hi
      | cons p S =>
        obtain ⟨hpS, hSn2⟩ := List.nodup_cons.mp hSn
        have hpM := hSM p List.mem_cons_self
        have hpl := hM p hpM
        have hpu : p ≠ u := fun e => huS (e ▸ List.mem_cons_self)
        have hdp : upn dn u j p = dn p := (agree j p List.mem_cons_self).symm
        have hlp := hlt p List.mem_cons_self
        have hlen : off fs p bs + 3 + dn p < (tu fs bs dn S).length := by
          rw [tu_len]
          have := (L.seg hpl).1
          omega
        have hc : (tu fs bs dn (p :: S))[off fs p bs + 3 + upn dn u j p]? = some (pv' fs bs S) := by
          rw [hdp]
          simp only [tu]
          rw [List.getElem?_set_self hlen]
        have horig : (tu fs bs dn S)[off fs p bs + 3 + dn p]? = some ((off fs u bs : Nat) : Int) := by
          rw [Nat.add_assoc, tu_read L hpl (by omega) (fun q hq => hS q (List.mem_cons_of_mem _ hq)) (fun q hq => hlt q (List.mem_cons_of_mem _ hq)) hpS, ← Nat.add_assoc, L.fd hpl hlp]
          have := I.ch.1
          rw [List.getElem?_eq_getElem hlp] at this
          rw [Option.some.inj this]
          rfl
        have hback : (tu fs bs dn (p :: S)).set (off fs p bs + 3 + upn dn u j p) (off fs u bs : Nat) = tu fs bs (upn (upn dn u j) p (upn dn u j p + 1)) S := by
          rw [hdp]
          simp only [tu]
          rw [List.set_set]
          have : (tu fs bs dn S).set (off fs p bs + 3 + dn p) (off fs u bs : Nat) = tu fs bs dn S := by
            have h1 : (tu fs bs dn S)[off fs p bs + 3 + dn p] = ((off fs u bs : Nat) : Int) := by
              rw [List.getElem?_eq_getElem hlen] at horig
              exact Option.some.inj horig
            rw [← h1]
            exact List.set_getElem_self hlen
          rw [this]
          refine tu_congr fun q hq => ?_
          unfold upn
          rw [if_neg (fun e : q = p => hpS (e ▸ hq)), if_neg (fun e : q = u => huS (e ▸ List.mem_cons_of_mem _ hq))]
        rw [while_step (ρ1 := mE' C fs bs (tu fs bs dn (p :: S)) M dn r (pv' fs bs (p :: S)) u x4 x5 x6) rfl (pop_turn L hM hpM (by omega) e hc), hback]
        have hv := I.ch.1
        refine mark_loop L k M S p (upn (upn dn u j) p (upn dn u j p + 1)) r _ _ _ (by simp only [List.length_cons] at h; omega) {
          nd := I.nd, rM := I.rM, sub := I.sub
          us := hSn
          inM := fun x hx => hSM x hx
          le := fun x hx => by
            show (if x = p then upn dn u j p + 1 else upn dn u j x) ≤ _
            split
            · rename_i hxp; subst hxp; rw [hdp]; omega
            · unfold upn
              split
              · rename_i hxu; rw [hxu]; omega
              · exact I.le x hx
          ch := ch_congr (fun q hq => by
            show dn q = if q = p then upn dn u j p + 1 else upn dn u j q
            rw [if_neg (fun e : q = p => hpS (e ▸ hq))]
            exact agree j q (List.mem_cons_of_mem _ hq)) I.ch.2
          fin := fun x hx hn => by
            show (if x = p then upn dn u j p + 1 else upn dn u j x) = _
            rw [if_neg (fun e : x = p => hn (e ▸ List.mem_cons_self))]
            unfold upn
            split
            · rename_i hxu; rw [hxu]; exact hjl
            · rename_i hxu
              refine I.fin x hx fun w => ?_
              rcases List.mem_cons.mp w with z | z
              · exact hxu z
              · exact hn z
          cl := fun x hx i hi w hw => by
            have hi : i < if x = p then upn dn u j p + 1 else upn dn u j x := hi
            split at hi
            · rename_i hxp
              subst hxp
              by_cases hid : i < upn dn u j x
              · exact cl1 x hx i hid w hw
              · have : i = dn x := by omega
                subst this
                rw [hv] at hw
                cases hw
                exact huM
            · exact cl1 x hx i hi w hw }
end
end K82

namespace K82
open PySem hiding Env
open L2 CW
/-- marks that are whole -/
structure Wh (fs : Fs) (rg : List (Option Nat)) (M : List Nat) (dn : Nat → Nat) : Prop where
  nd : M.Nodup
  r : ∀ x ∈ M, Reach fs rg x
  fin : ∀ x ∈ M, dn x = (fds fs x).length
  cl : ∀ x ∈ M, ∀ y ∈ succs fs x, y ∈ M
section
variable {fs : Fs} {rg : List (Option Nat)} {bs : List Blk} {M : List Nat} {C : Addr} {u : Nat} {dn : Nat → Nat}
theorem mark_at (L : Lay fs rg bs) (W : Wh fs rg M dn) (hu : Reach fs rg u) (hn : u ∉ M) : ∃ M' dn', F_Reversal_mark C [rv C fs bs (cells fs bs) M dn, .int (off fs u bs : Nat)] = some (.non, [rv C fs bs (cells fs bs) M' dn', .any]) ∧ Wh fs rg M' dn' ∧ u ∈ M' ∧ ∀ x ∈ M, x ∈ M' := by
  have hM : ∀ y ∈ M, y < fs.length := fun y hy => L.rc (W.r y hy)
  have hul := L.rc hu
  have hMl := nodup_lt W.nd hM
  have h8 := L.n8
  have hnd : (M ++ [u]).Nodup := List.nodup_append.mpr ⟨W.nd, by simp, fun a ha b hb e => by simp at hb; subst hb; subst e; exact hn ha⟩
  have hdo : ∀ x ∈ M, upn dn u 0 x = dn x := fun x hx => by
    unfold upn
    rw [if_neg (fun e : x = u => hn (e ▸ hx))]
  have I : SI fs rg M (M ++ [u]) [] u (upn dn u 0) := {
    nd := hnd
    rM := fun y hy => by
      rcases List.mem_append.mp hy with z | z
      · exact W.r y z
      · simp at z; exact z ▸ hu
    sub := fun x hx => List.mem_append_left _ hx
    us := by simp
    inM := fun x hx => by simp at hx; simp [hx]
    le := fun x hx => by
      rcases List.mem_append.mp hx with z | z
      · rw [hdo x z, W.fin x z]; exact Nat.le_refl _
      · simp at z; subst z; rw [upn_at]; omega
    ch := trivial
    fin := fun x hx hne => by
      rcases List.mem_append.mp hx with z | z
      · rw [hdo x z, W.fin x z]
      · exact absurd (by simpa using z) (by simpa using hne)
    cl := fun x hx i hi v hv => by
      rcases List.mem_append.mp hx with z | z
      · refine List.mem_append_left _ (W.cl x z v ?_)
        unfold succs
        exact List.mem_filterMap.mpr ⟨some v, List.mem_of_getElem? hv, rfl⟩
      · simp at z; subst z; rw [upn_at] at hi; omega }
  obtain ⟨M', dn', ρ', e, h1, h2, h3, h4, h5, h6⟩ := mark_loop (C := C) L 100000 (M ++ [u]) [] u (upn dn u 0) (.int (off fs u bs : Nat)) .any .any .any (by simp only [List.length_append, List.length_cons, List.length_nil]; omega) I
  refine ⟨M', dn', ?_, ⟨h2, h3, h5, h6⟩, h4 u (by simp), fun x hx => h4 x (by simp [hx])⟩
  unfold F_Reversal_mark m_Reversal_mark
  refine fn_ret (ρ := rv C fs bs (cells fs bs) M' dn' :: ρ') rfl ?_ (by simp [h1])
  refine seq_run (ρ1 := [rv C fs bs (cells fs bs) M dn, .int (off fs u bs : Nat), .int (-1), .any, .any, .any, .any]) rfl ?_
  refine seq_run (ρ1 := [rv C fs bs (cells fs bs) M dn, .int (off fs u bs : Nat), .int (-1), .int (off fs u bs : Nat), .any, .any, .any]) rfl ?_
  refine seq_run (begin_run (i := 0) (v := u) rfl rfl (begin_at (C := C) (dn := dn) L (cells fs bs) hM hul hn (by omega))) ?_
  exact e
theorem led_at (L : Lay fs rg bs) (W : Wh fs rg M dn) {kp : D} : F_Reversal_led C [rv C fs bs (cells fs bs) M dn, kp] = some (.non, [rv C fs bs (cells fs bs) M dn, .any]) := by
  have hM : ∀ y ∈ M, y < fs.length := fun y hy => L.rc (W.r y hy)
  have hall : ((aD fs bs M).all fun d => ifFB (asB (op2 neD (op2 ixD (rdF 0 C "cells") (rdS 2)) (cst (.int 1)))) ([rv C fs bs (cells fs bs) M dn, kp, .any, .any].set 2 d)) = true := by
    rw [List.all_eq_true]
    intro d hd
    obtain ⟨a, ha, rfl⟩ := List.mem_map.mp hd
    obtain ⟨x, hx, rfl⟩ := List.mem_map.mp ha
    have e := ix_cells (dn := dn) (C := C) (fs := fs) (bs := bs) (M := M) (c := cells fs bs) (ρ := [rv C fs bs (cells fs bs) M dn, kp, .int (off fs x bs : Nat), .any]) (i := 0) (g := rdS 2) (k := off fs x bs) rfl rfl (L.at0 (hM x hx))
    show ifFB _ [rv C fs bs (cells fs bs) M dn, kp, .int (off fs x bs : Nat), .any] = true
    unfold ifFB
    rw [x_asB, x_op2, e]
    rfl
  unfold F_Reversal_led m_Reversal_led
  have e1 : forQM 2 (rdF 0 C "marks") (ifFB (asB (op2 neD (op2 ixD (rdF 0 C "cells") (rdS 2)) (cst (.int 1))))) [rv C fs bs (cells fs bs) M dn, kp, .any, .any] = some (.nx [rv C fs bs (cells fs bs) M dn, kp, (match (aD fs bs M).getLast? with | some d => d | none => .any), .any]) := by
    unfold forQM
    rw [rdF_marks (fs := fs) (bs := bs) (c := cells fs bs) (M := M) (dn := dn) rfl]
    simp only []
    rw [if_pos ⟨by simp, hall⟩]
    cases (aD fs bs M).getLast? <;> rfl
  exact fn_ret (ρ := [rv C fs bs (cells fs bs) M dn, kp, (match (aD fs bs M).getLast? with | some d => d | none => .any), .any]) rfl (seq_run e1 rfl) rfl
theorem meth_run {ρ : Env} {C : Addr} {a b c : D} {fn : Str} {m : Env → Option (D × Env)} {x : D} (h : ρ[1]? = some (rvD C a b c)) (hf : fN.any (fun n => n == fn) = false) (hm : m ρ = some (x, ρ)) : lendI 1 C fn (consC m nilC) ρ = some ([.s 1, .v x], ρ) := by
  unfold lendI
  rw [rd_rv h]
  unfold rvD
  simp only []
  rw [if_pos ⟨trivial, hf⟩, x_consC, hm]
  rfl
theorem turn_root (L : Lay fs rg bs) (W : Wh fs rg M dn) {o : Option Nat} (ho : o ∈ rg) {m a d : D} :
    ∃ M' dn' v, turnM (nameT 2) (B_marked_by_turning_1 C) (oD (o.map fun y => off fs y bs)) [m, rv C fs bs (cells fs bs) M dn, a, d] = some (.nx [m, rv C fs bs (cells fs bs) M' dn', v, d]) ∧ Wh fs rg M' dn' ∧ (∀ x ∈ M, x ∈ M') ∧ ∀ y, o = some y → y ∈ M' := by
  cases o with
  | none => exact ⟨M, dn, .non, turn_run (ρ1 := [m, rv C fs bs (cells fs bs) M dn, .non, d]) rfl rfl, W, fun x hx => hx, fun y e => by cases e⟩
  | some y =>
    have hy : Reach fs rg y := .root ho
    have hM : ∀ y ∈ M, y < fs.length := fun y hy => L.rc (W.r y hy)
    have hin := in_aD L (L.rc hy) hM
    have e5 := rdF_marks (C := C) (fs := fs) (bs := bs) (c := cells fs bs) (M := M) (dn := dn) (ρ := [m, rv C fs bs (cells fs bs) M dn, .int (off fs y bs : Nat), d]) (i := 1) rfl
    by_cases hm : y ∈ M
    · refine ⟨M, dn, .int (off fs y bs : Nat), turn_run (ρ1 := [m, rv C fs bs (cells fs bs) M dn, .int (off fs y bs : Nat), d]) rfl ?_, W, fun x hx => hx, fun z e => by cases e; exact hm⟩
      unfold B_marked_by_turning_1
      refine if_false' (ρ1 := [m, rv C fs bs (cells fs bs) M dn, .int (off fs y bs : Nat), d]) ?_ rfl
      rw [x_qB, x_andB, x_asB, x_op2, x_asB, x_op2, e5]
      simp only [x_rdS, List.getElem?_cons_succ, List.getElem?_cons_zero, x_cst, x_notNo_int, x_negD, x_inS, x_items_lst, hin, hm]
      rfl
    · obtain ⟨M', dn', e, W', h1, h2⟩ := mark_at (C := C) L W hy hm
      refine ⟨M', dn', .int (off fs y bs : Nat), turn_run (ρ1 := [m, rv C fs bs (cells fs bs) M dn, .int (off fs y bs : Nat), d]) rfl ?_, W', h2, fun z e => by cases e; exact h1⟩
      unfold B_marked_by_turning_1
      refine if_true' (ρ1 := [m, rv C fs bs (cells fs bs) M dn, .int (off fs y bs : Nat), d]) ?_ ?_
      · rw [x_qB, x_andB, x_asB, x_op2, x_asB, x_op2, e5]
        simp only [x_rdS, List.getElem?_cons_succ, List.getElem?_cons_zero, x_cst, x_notNo_int, x_negD, x_inS, x_items_lst, hin, hm]
        rfl
      · refine drop_run (d := .non) ?_
        exact call_run (os := [.s 1, .v (.int (off fs y bs : Nat))]) (ρ1 := [m, rv C fs bs (cells fs bs) M dn, .int (off fs y bs : Nat), d]) (ds := [rv C fs bs (cells fs bs) M dn, .int (off fs y bs : Nat)]) (meth_run rfl (by decide) rfl) rfl e rfl rfl
theorem turning_at (L : Lay fs rg bs) {F : List Nat} (hF : ∀ x, x ∈ F ↔ Reach fs rg x) : F_marked_by_turning C [memD fs bs rg] = some (.tup [.tup (nD (dueL fs bs F)), .tup ((cells fs bs).map D.int)], [.any]) := by
  have h0 : rvD C (.lst .o ((cells fs bs).map D.int)) (.lst .o []) (.dic .o [] []) = rv C fs bs (cells fs bs) [] (fun _ => 0) := rfl
  obtain ⟨ρ', e, M, dn, a, rfl, W, hro⟩ := forM_inv (t := nameT 2) (s := B_marked_by_turning_1 C) (fun k ρ => ∃ M dn a, ρ = [memD fs bs rg, rv C fs bs (cells fs bs) M dn, a, .any] ∧ Wh fs rg M dn ∧ ∀ i, i < k → ∀ y, rg[i]? = some (some y) → y ∈ M) (rg.map fun o => oD (o.map fun y => off fs y bs)) 0 [memD fs bs rg, rv C fs bs (cells fs bs) [] (fun _ => 0), .any, .any]
    ⟨[], _, _, rfl, ⟨by simp, by simp, by simp, by simp⟩, fun i hi => by omega⟩ (by
      rintro j d ρ hd ⟨M, dn, a, rfl, W, hi⟩
      rw [Nat.zero_add] at hi ⊢
      rw [List.getElem?_map] at hd
      cases hj : rg[j]? with
      | none => rw [hj] at hd; cases hd
      | some o =>
        rw [hj] at hd
        cases hd
        obtain ⟨M', dn', v, e, W', h1, h2⟩ := turn_root (C := C) (m := memD fs bs rg) (a := a) (d := .any) L W (List.mem_of_getElem? hj)
        refine ⟨_, e, M', dn', v, rfl, W', fun i hij y hy => ?_⟩
        by_cases hij2 : i = j
        · subst hij2
          rw [hj] at hy
          exact h2 y (Option.some.inj hy)
        · exact h1 y (hi i (by omega) y hy))
  rw [List.length_map, Nat.zero_add] at hro
  have hM : ∀ x, x ∈ M ↔ Reach fs rg x := fun x => ⟨W.r x, fun hr => reach_of (P := fun v => v ∈ M) (fun y hy => by
    obtain ⟨i, hi, e⟩ := List.mem_iff_getElem.mp hy
    exact hro i hi y (by rw [List.getElem?_eq_getElem hi, e])) W.cl hr⟩
  have eled : setM 3 (callM (F_Reversal_led C) (lendI 1 C "led" (consC (vQ (op2 ixD (rdS 0) (cst (.int 3)))) nilC))) [memD fs bs rg, rv C fs bs (cells fs bs) M dn, a, .any] = some (.nx [memD fs bs rg, rv C fs bs (cells fs bs) M dn, a, .non]) := by
    refine set_run (ρ1 := [memD fs bs rg, rv C fs bs (cells fs bs) M dn, a, .any]) (d := .non) ?_ rfl
    exact call_run (os := [.s 1, .v (.tup [])]) (ρ1 := [memD fs bs rg, rv C fs bs (cells fs bs) M dn, a, .any]) (ds := [rv C fs bs (cells fs bs) M dn, .tup []]) (meth_run rfl (by decide) (by simp [memD])) rfl (led_at L W) rfl rfl
  unfold F_marked_by_turning m_marked_by_turning
  refine fn_ret (ρ := [memD fs bs rg, rv C fs bs (cells fs bs) M dn, a, .non]) rfl ?_ rfl
  refine seq_run (ρ1 := [memD fs bs rg, rv C fs bs (cells fs bs) [] (fun _ => 0), .any, .any]) ?_ ?_
  · refine set_run (ρ1 := [memD fs bs rg, .any, .any, .any]) (d := rv C fs bs (cells fs bs) [] (fun _ => 0)) ?_ rfl
    unfold makeM
    have e1 : consM (vQ (op2 ixD (rdS 0) (cst (.int 4)))) nilM ([memD fs bs rg] ++ List.replicate (4 - 1) .any) = some ([.tup ((cells fs bs).map D.int)], [memD fs bs rg, .any, .any, .any]) := by simp [memD]
    rw [e1]
    simp only []
    rw [init_at]
    rfl
  refine seq_run (for_run (ds := rg.map fun o => oD (o.map fun y => off fs y bs)) (ρ1 := [memD fs bs rg, rv C fs bs (cells fs bs) [] (fun _ => 0), .any, .any]) (tup_run (by simp [memD])) e) ?_
  refine seq_run eled ?_
  refine seq_run (ρ1 := [memD fs bs rg, rv C fs bs (cells fs bs) M dn, a, .non]) (while_done (n := 0) rfl) ?_
  have e9 : aD fs bs M = ((M.map fun x => off fs x bs).map fun a : Nat => (a : Int)).map D.int := by
    unfold aD nD
    rw [List.map_map, List.map_map, List.map_map]
    rfl
  have e8 : nD (dueL fs bs F) = ((dueL fs bs F).map fun a : Nat => (a : Int)).map D.int := by
    unfold nD
    rw [List.map_map]
    rfl
  have m1 := rdF_marks (C := C) (fs := fs) (bs := bs) (c := cells fs bs) (M := M) (dn := dn) (ρ := [memD fs bs rg, rv C fs bs (cells fs bs) M dn, a, .non]) (i := 1) rfl
  have m2 := rdF_cells (C := C) (fs := fs) (bs := bs) (c := cells fs bs) (M := M) (dn := dn) (ρ := [memD fs bs rg, rv C fs bs (cells fs bs) M dn, a, .non]) (i := 1) rfl
  refine ret_run ?_
  have t1 : frzM (b1T itemsD (b1NQ sortD (rdF 1 C "marks"))) [memD fs bs rg, rv C fs bs (cells fs bs) M dn, a, .non] = some (.tup (nD (dueL fs bs F)), [memD fs bs rg, rv C fs bs (cells fs bs) M dn, a, .non]) := by
    rw [x_frzM, x_b1T, x_b1NQ, m1, e9]
    simp only [sortD, ints_of, Option.map_some, x_items_lst]
    rw [sort_due L W.nd hM hF, e8]
    rfl
  have t2 : frzM (b1TQ itemsD (rdF 1 C "cells")) [memD fs bs rg, rv C fs bs (cells fs bs) M dn, a, .non] = some (.tup ((cells fs bs).map D.int), [memD fs bs rg, rv C fs bs (cells fs bs) M dn, a, .non]) := by
    rw [x_frzM, x_b1TQ, m2]
    rfl
  rw [x_tupM, x_consM, t1]
  simp only []
  rw [x_consM, t2]
  rfl
end
/-! ### the same -/
@[simp] theorem i_tt {ds : List D} : isiD "tuple" (.tup ds) = some (.bl true) := rfl
@[simp] theorem i_ti {v : Int} : isiD "tuple" (.int v) = some (.bl false) := rfl
@[simp] theorem i_bi {v : Int} : isiD "bool" (.int v) = some (.bl false) := rfl
@[simp] theorem i_ii {v : Int} : isiD "int" (.int v) = some (.bl true) := rfl
theorem same_int {n : Nat} {v : Int} : F_law_same (n + 1) [.int v, .int v] = some (.bl true, [.any, .any]) := by
  unfold F_law_same m_law_same
  simp
theorem same_tup {n : Nat} {ds : List D} (hl : ds.length ≤ 16777216) (hk : ∀ d ∈ ds, isF d = true ∧ d ≠ .any ∧ F_law_same n [d, d] = some (.bl true, [.any, .any])) : F_law_same (n + 1) [.tup ds, .tup ds] = some (.bl true, [.any, .any]) := by
  obtain ⟨ρ', e, k, rfl⟩ := forM_rng (t := nameT 2) (s := B_law_same_1 (F_law_same n)) (fun j ρ => ∃ k, ρ = [.tup ds, .tup ds, k]) (lo := 0) (n := ds.length) (ρ := [.tup ds, .tup ds, .any]) ⟨_, rfl⟩ (by
    rintro j ρ hj ⟨k, rfl⟩
    obtain ⟨h1, h2, h3⟩ := hk ds[j] (List.getElem_mem hj)
    refine ⟨[.tup ds, .tup ds, .int j], turn_run (ρ1 := [.tup ds, .tup ds, .int j]) (by simp) ?_, _, rfl⟩
    have i1 : atI ds (j : Int) = some ds[j] := atI_of (by simp [hj])
    unfold B_law_same_1
    refine if_false' (ρ1 := [.tup ds, .tup ds, .int j]) ?_ rfl
    have e1 : vQ (op2 ixD (rdS 0) (rdS 2)) [.tup ds, .tup ds, .int j] = some (ds[j], [.tup ds, .tup ds, .int j]) := by
      simp only [x_vQ, x_op2, x_rdS, List.getElem?_cons_succ, List.getElem?_cons_zero, x_ix_tup, i1]
      generalize ds[j] = d at *
      cases d <;> first | exact absurd rfl h2 | simp [h1] | (cases ‹Md› <;> simp_all)
    have e2 : vQ (op2 ixD (rdS 1) (rdS 2)) [.tup ds, .tup ds, .int j] = some (ds[j], [.tup ds, .tup ds, .int j]) := e1
    have e3 : callM (F_law_same n) (consC (vQ (op2 ixD (rdS 0) (rdS 2))) (consC (vQ (op2 ixD (rdS 1) (rdS 2))) nilC)) [.tup ds, .tup ds, .int j] = some (.bl true, [.tup ds, .tup ds, .int j]) := by
      refine call_run (os := [.v ds[j], .v ds[j]]) (ρ1 := [.tup ds, .tup ds, .int j]) (ds := [ds[j], ds[j]]) ?_ rfl h3 rfl rfl
      rw [x_consC, e1]
      simp only []
      rw [x_consC, e2]
      rfl
    rw [x_notM, x_truthM, e3]
    rfl)
  unfold F_law_same m_law_same
  refine fn_ret (ρ := [.tup ds, .tup ds, k]) rfl (seq_stop (if_true' (ρ1 := [.tup ds, .tup ds, .any]) (by simp) ?_)) rfl
  refine seq_run (ρ1 := [.tup ds, .tup ds, .any]) (if_false' (ρ1 := [.tup ds, .tup ds, .any]) (by simp) rfl) ?_
  exact seq_run (for_run (rng1_run (n := ds.length) (by simp) hl) e) (by simp)
theorem same_ints {n : Nat} {l : List Int} (hl : l.length ≤ 16777216) : F_law_same (n + 2) [.tup (l.map D.int), .tup (l.map D.int)] = some (.bl true, [.any, .any]) := same_tup (by simpa using hl) fun d hd => by
  obtain ⟨v, _, rfl⟩ := List.mem_map.mp hd
  exact ⟨rfl, by simp, same_int⟩
end K82

namespace K82
open PySem hiding Env
open L2 CW
abbrev okS (d : D) : Prop := d = .any ∨ isF d = true
theorem okV_1 {ρ : Env} {v : Nat} {d : D} (h : ρ[v]? = some d) (hd : okS d) : okV ρ [v] = true := by
  rw [x_okV1, h]
  rcases hd with rfl | hd
  · rfl
  · cases d <;> first | rfl | simpa using hd
def fOK (n : Nat) (f : List (Option Nat)) : Prop := f.length ≤ 3 ∧ ∀ o ∈ f, ∀ y, o = some y → y < n
theorem elem_at {l : List Int} {a n x : Nat} {u0 u2 u4 u6 u7 u8 u9 u10 u11 u12 u13 u14 : D} (hn : 0 < n) : ∃ a' o, frzM E_law_1 [u0, bx l a, u2, .int (n : Nat), u4, .int (x : Nat), u6, u7, u8, u9, u10, u11, u12, u13, u14] = some (oD o, [u0, bx l a', u2, .int (n : Nat), u4, .int (x : Nat), u6, u7, u8, u9, u10, u11, u12, u13, u14]) ∧ ∀ y, o = some y → y < n := by
  have hnz : (0 : Int) < n := by omega
  obtain ⟨h1, h2⟩ := dr_lt (l := l) (a := a) (n := (n : Int)) hnz
  obtain ⟨h3, h4⟩ := dr_lt (l := l) (a := a + 1) (n := 4) (by omega)
  have e0 : ∃ w : Nat, ((x : Int) + 1) % n = (w : Nat) ∧ w < n := by
    have q1 := Int.emod_nonneg ((x : Int) + 1) (by omega : (n : Int) ≠ 0)
    have q2 := Int.emod_lt_of_pos ((x : Int) + 1) hnz
    exact ⟨(((x : Int) + 1) % n).toNat, by omega, by omega⟩
  obtain ⟨w, ew, hw⟩ := e0
  have e1 : ∃ w : Nat, dr l a n = (w : Nat) ∧ w < n := ⟨(dr l a n).toNat, by omega, by omega⟩
  obtain ⟨z, ez, hz⟩ := e1
  have hl : lstM (consM (vQ (cst .non)) (consM (vQ (op2 modI (un1 intD (op2 addI (rdS 5) (cst (.int 1)))) (rdS 3))) (consM (frzM (callM F_law_draw (lendC 1 (consC (nmM 3) nilC)))) (consM (vQ (cst (.int 0))) nilM)))) [u0, bx l a, u2, .int (n : Nat), u4, .int (x : Nat), u6, u7, u8, u9, u10, u11, u12, u13, u14] = some (.lst .o [.non, .int (w : Nat), .int (z : Nat), .int 0], [u0, bx l (a + 1), u2, .int (n : Nat), u4, .int (x : Nat), u6, u7, u8, u9, u10, u11, u12, u13, u14]) := by
    simp [draw_at, hnz, hn, ew, ez]
  have hd : callM F_law_draw (lendC 1 (consC (vQ (cst (.int 4))) nilC)) [u0, bx l (a + 1), u2, .int (n : Nat), u4, .int (x : Nat), u6, u7, u8, u9, u10, u11, u12, u13, u14] = some (.int (dr l (a + 1) 4), [u0, bx l (a + 1 + 1), u2, .int (n : Nat), u4, .int (x : Nat), u6, u7, u8, u9, u10, u11, u12, u13, u14]) := by
    simp [draw_at]
  have key : ∃ o, ixD (.lst .o [.non, .int (w : Nat), .int (z : Nat), .int 0]) (.int (dr l (a + 1) 4)) = some (oD o) ∧ ∀ y, o = some y → y < n := by
    have : dr l (a + 1) 4 = 0 ∨ dr l (a + 1) 4 = 1 ∨ dr l (a + 1) 4 = 2 ∨ dr l (a + 1) 4 = 3 := by omega
    rcases this with e | e | e | e <;> rw [e]
    · exact ⟨none, by simp [oD], fun y h => by cases h⟩
    · exact ⟨some w, by simp [oD], fun y h => by cases h; exact hw⟩
    · exact ⟨some z, by simp [oD], fun y h => by cases h; exact hz⟩
    · exact ⟨some 0, by simp [oD], fun y h => by cases h; exact hn⟩
  obtain ⟨o, eo, ho⟩ := key
  refine ⟨a + 1 + 1, o, ?_, ho⟩
  have hF : isF (oD o) = true := by cases o <;> rfl
  have hfz : frz (oD o) = some (oD o) := by cases o <;> rfl
  unfold E_law_1
  rw [x_frzM, x_op2M, hl]
  simp only []
  rw [hd]
  simp only [eo, hF, if_true, hfz]
theorem fields_at {l : List Int} {a n x : Nat} {u0 u2 u4 u6 u7 u8 u9 u10 u11 u12 u13 u14 : D} (hn : 0 < n) (h10 : okS u10) : ∃ a' f, setM 6 (lcM 15 [10] (rng1VW (callM F_law_draw (lendC 1 (consC (vQ (cst (.int 4))) nilC)))) (nameT 10) yesM E_law_1) [u0, bx l a, u2, .int (n : Nat), u4, .int (x : Nat), u6, u7, u8, u9, u10, u11, u12, u13, u14] = some (.nx [u0, bx l a', u2, .int (n : Nat), u4, .int (x : Nat), .lst .o (f.map oD), u7, u8, u9, u10, u11, u12, u13, u14]) ∧ fOK n f := by
  obtain ⟨h3, h4⟩ := dr_lt (l := l) (a := a) (n := 4) (by omega)
  have hk : ((dr l a 4).toNat : Int) = dr l a 4 := by omega
  obtain ⟨acc, ρ', e, a', f, rfl, rfl, h5, h6⟩ := compGo_inv (vs := [10]) (tt := nameT 10) (m := frzM E_law_1) (fun k ρ acc => ∃ a' f, ρ = [u0, bx l a', u2, .int (n : Nat), u4, .int (x : Nat), u6, u7, u8, u9, .any, u11, u12, u13, u14] ∧ acc = f.map oD ∧ f.length = k ∧ ∀ o ∈ f, ∀ y, o = some y → y < n) (rngD 0 (dr l a 4).toNat) 0 [u0, bx l (a + 1), u2, .int (n : Nat), u4, .int (x : Nat), u6, u7, u8, u9, .any, u11, u12, u13, u14] []
    ⟨a + 1, [], rfl, rfl, rfl, by simp⟩ (by rw [rng_len]; simp; omega) (by
      rintro j d ρ acc hd ⟨a', f, rfl, rfl, h5, h6⟩
      obtain ⟨hj, rfl⟩ := rng_get hd
      obtain ⟨a2, o, e, ho⟩ := elem_at (l := l) (a := a') (n := n) (x := x) (u0 := u0) (u2 := u2) (u4 := u4) (u6 := u6) (u7 := u7) (u8 := u8) (u9 := u9) (u10 := .int (0 + (j : Int))) (u11 := u11) (u12 := u12) (u13 := u13) (u14 := u14) hn
      refine ⟨_, oD o, _, rfl, e, by cases o <;> rfl, a2, f ++ [o], rfl, by simp, by simp [h5], fun p hp y hy => ?_⟩
      rcases List.mem_append.mp hp with z | z
      · exact h6 p z y hy
      · simp at z; subst z; exact ho y hy)
  rw [rng_len, Nat.zero_add] at h5
  refine ⟨a', f, ?_, by omega, h6⟩
  refine set_run (ρ1 := [u0, bx l a', u2, .int (n : Nat), u4, .int (x : Nat), u6, u7, u8, u9, u10, u11, u12, u13, u14]) (d := .lst .o (f.map oD)) ?_ rfl
  exact lc_run (N := 15) (vs := [10]) (ρ1 := [u0, bx l (a + 1), u2, .int (n : Nat), u4, .int (x : Nat), u6, u7, u8, u9, u10, u11, u12, u13, u14]) rfl (rng1V_run (n := (dr l a 4).toNat) (by rw [hk]; simp [draw_at]) (by omega)) (okV_1 rfl h10) e
theorem rows_turn {l : List Int} {a n : Nat} {fs : Fs} {u0 u2 u5 u6 u7 u8 u9 u10 u11 u12 u13 u14 : D} (hn : 0 < n) (h10 : okS u10) (hl : fs.length ≤ 100) :
    ∃ a' f v6, turnM (nameT 5) B_law_1 (.int (fs.length : Nat)) [u0, bx l a, u2, .int (n : Nat), .lst .o (rowsD fs), u5, u6, u7, u8, u9, u10, u11, u12, u13, u14] = some (.nx [u0, bx l a', u2, .int (n : Nat), .lst .o (rowsD (fs ++ [f])), .int (fs.length : Nat), v6, u7, u8, u9, u10, u11, u12, u13, u14]) ∧ fOK n f := by
  obtain ⟨a', f, e, hf⟩ := fields_at (l := l) (a := a) (n := n) (x := fs.length) (u0 := u0) (u2 := u2) (u4 := .lst .o (rowsD fs)) (u6 := u6) (u7 := u7) (u8 := u8) (u9 := u9) (u10 := u10) (u11 := u11) (u12 := u12) (u13 := u13) (u14 := u14) hn h10
  refine ⟨a', f, .lst .o (f.map oD), turn_run (ρ1 := [u0, bx l a, u2, .int (n : Nat), .lst .o (rowsD fs), .int (fs.length : Nat), u6, u7, u8, u9, u10, u11, u12, u13, u14]) rfl ?_, hf⟩
  unfold B_law_1
  refine seq_run e ?_
  have h1 : (rowsD fs).length < 16777216 := by rw [rows_len]; omega
  have h2 : rowsD (fs ++ [f]) = rowsD fs ++ [rowD fs.length f] := by unfold rowsD; rw [List.mapIdx_append]; simp
  rw [h2]
  simp [h1, rowD]
theorem rows_at {l : List Int} {a n : Nat} {u0 u2 u5 u6 u7 u8 u9 u10 u11 u12 u13 u14 : D} (hn : 0 < n) (hn8 : n ≤ 8) (h10 : okS u10) (h5 : okS u5) :
    ∃ a' fs v5 v6, CW.forM (nameT 5) B_law_1 (rngD 0 n) [u0, bx l a, u2, .int (n : Nat), .lst .o [], u5, u6, u7, u8, u9, u10, u11, u12, u13, u14] = some (.nx [u0, bx l a', u2, .int (n : Nat), .lst .o (rowsD fs), v5, v6, u7, u8, u9, u10, u11, u12, u13, u14]) ∧ fs.length = n ∧ (∀ f ∈ fs, fOK n f) ∧ okS v5 := by
  obtain ⟨ρ', e, a', fs, v5, v6, rfl, h1, h2, h3⟩ := forM_rng (t := nameT 5) (s := B_law_1) (fun j ρ => ∃ a' fs v5 v6, ρ = [u0, bx l a', u2, .int (n : Nat), .lst .o (rowsD fs), v5, v6, u7, u8, u9, u10, u11, u12, u13, u14] ∧ fs.length = j ∧ (∀ f ∈ fs, fOK n f) ∧ okS v5) (lo := 0) (n := n) (ρ := [u0, bx l a, u2, .int (n : Nat), .lst .o [], u5, u6, u7, u8, u9, u10, u11, u12, u13, u14]) ⟨a, [], u5, u6, rfl, rfl, by simp, h5⟩ (by
    rintro j ρ hj ⟨a', fs, v5, v6, rfl, h1, h2, h3⟩
    obtain ⟨a2, f, w6, e, hf⟩ := rows_turn (l := l) (a := a') (n := n) (fs := fs) (u0 := u0) (u2 := u2) (u5 := v5) (u6 := v6) (u7 := u7) (u8 := u8) (u9 := u9) (u10 := u10) (u11 := u11) (u12 := u12) (u13 := u13) (u14 := u14) hn h10 (by omega)
    rw [h1] at e
    rw [Int.zero_add]
    refine ⟨_, e, a2, fs ++ [f], _, w6, rfl, by simp [h1], fun g hg => ?_, .inr rfl⟩
    rcases List.mem_append.mp hg with z | z
    · exact h2 g z
    · simp at z; exact z ▸ hf)
  exact ⟨a', fs, v5, v6, e, h1, h2, h3⟩
end K82

namespace K82
open PySem hiding Env
open L2 CW
theorem fds_ok {fs : Fs} {n : Nat} (h : ∀ f ∈ fs, fOK n f) (x : Nat) : fOK n (fds fs x) := by
  unfold fds
  by_cases hx : x < fs.length
  · rw [List.getElem?_eq_getElem hx]
    exact h _ (List.getElem_mem hx)
  · rw [List.getElem?_eq_none (by omega)]
    exact ⟨by simp, by simp⟩
theorem roots5 {rg : List (Option Nat)} {u0 u1 u2 u3 u4 u6 u7 u8 u9 u10 u11 u12 u13 u14 : D} (hl : rg.length ≤ 1000) : compGo [5] (nameT 5) T_law_1 (frzM (nmM 5)) (rg.map oD) [u0, u1, u2, u3, u4, .any, u6, u7, u8, u9, u10, u11, u12, u13, u14] [] = some (nD (rg.filterMap id), [u0, u1, u2, u3, u4, .any, u6, u7, u8, u9, u10, u11, u12, u13, u14]) := by
  rw [compGo_fix (fun d => match d with | .int y => some (.int y) | _ => none) _ _ (by simp; omega) ?_]
  · rw [List.nil_append, List.filterMap_map]
    unfold nD
    rw [List.map_filterMap]
    congr 2
    congr 1
    funext o
    cases o <;> rfl
  · intro d hd
    obtain ⟨o, _, rfl⟩ := List.mem_map.mp hd
    cases o with
    | none => exact ⟨[u0, u1, u2, u3, u4, .non, u6, u7, u8, u9, u10, u11, u12, u13, u14], [u0, u1, u2, u3, u4, .non, u6, u7, u8, u9, u10, u11, u12, u13, u14], rfl, by simp [T_law_1, oD], rfl⟩
    | some y => exact ⟨[u0, u1, u2, u3, u4, .int (y : Nat), u6, u7, u8, u9, u10, u11, u12, u13, u14], [u0, u1, u2, u3, u4, .int (y : Nat), u6, u7, u8, u9, u10, u11, u12, u13, u14], rfl, by simp [T_law_1, oD], rfl, [u0, u1, u2, u3, u4, .int (y : Nat), u6, u7, u8, u9, u10, u11, u12, u13, u14], by simp [oD], rfl⟩
theorem found_loop {fs : Fs} {rg : List (Option Nat)} {bs : List Blk} (L : Lay fs rg bs) (hr : rg.length ≤ 3) (hr2 : (rg.filterMap id).length ≤ 2) {u0 u1 u2 u3 u5 u6 u7 u8 u10 u11 u12 u13 u14 : D} (h5 : okS u5) (h10 : okS u10) :
    ∃ F v10, CW.forM (nameT 10) B_law_2 (rngD 0 40) [u0, u1, u2, u3, .lst .o (rowsD fs), u5, u6, u7, u8, .lst .o (nD (rg.filterMap id)), u10, u11, u12, u13, u14] = some (.nx [u0, u1, u2, u3, .lst .o (rowsD fs), u5, u6, u7, u8, .lst .o (nD F), v10, u11, u12, u13, u14]) ∧ (∀ x, x ∈ F ↔ Reach fs rg x) ∧ okS v10 := by
  have hro : ∀ x, x ∈ rg.filterMap id ↔ some x ∈ rg := fun x => by simp [List.mem_filterMap]
  have I0 : FI fs rg 0 (rg.filterMap id) := ⟨fun v hv => L.h.r _ ((hro v).mp hv) v rfl, fun v hv => .root ((hro v).mp hv), fun v hv => (hro v).mpr hv, [], by simp, by simp, by simp, fun i hi => by omega, by simpa using hr2⟩
  obtain ⟨ρ', e, F, v10, rfl, h1, h2⟩ := forM_rng (t := nameT 10) (s := B_law_2) (fun k ρ => ∃ F v10, ρ = [u0, u1, u2, u3, .lst .o (rowsD fs), u5, u6, u7, u8, .lst .o (nD F), v10, u11, u12, u13, u14] ∧ FI fs rg k F ∧ okS v10) (lo := 0) (n := 40) (ρ := [u0, u1, u2, u3, .lst .o (rowsD fs), u5, u6, u7, u8, .lst .o (nD (rg.filterMap id)), u10, u11, u12, u13, u14]) ⟨_, _, rfl, I0, h10⟩ (by
    rintro k ρ hk ⟨F, v10, rfl, h1, h2⟩
    obtain ⟨P, p1, p2, p3, p4, p5⟩ := h1.p
    have hP := nodup_lt p1 p2
    have h8 := L.n8
    obtain ⟨v5, e, _⟩ := found_turn (fs := fs) (F := F) (k := k) (u0 := u0) (u1 := u1) (u2 := u2) (u3 := u3) (u5 := u5) (u6 := u6) (u7 := u7) (u8 := u8) (u10 := v10) (u11 := u11) (u12 := u12) (u13 := u13) (u14 := u14) h5 h1.lt (fun v => Nat.le_trans (L.f3 v) (by omega)) (by omega)
    rw [Int.zero_add]
    exact ⟨_, e, _, _, rfl, h1.next (fun v y hy => L.sc hy) L.f3, .inr rfl⟩)
  exact ⟨F, v10, e, h1.all L.n8, h2⟩
theorem same_both {fs : Fs} {rg : List (Option Nat)} {bs : List Blk} {F : List Nat} (hl : (dueL fs bs F).length ≤ 10000) (hc : (cells fs bs).length ≤ 10000) :
    F_law_same 3 [.tup (nD (dueL fs bs F)), .tup (nD (dueL fs bs F))] = some (.bl true, [.any, .any]) ∧
    F_law_same 3 [.tup [.tup (nD (dueL fs bs F)), .tup ((cells fs bs).map D.int)], .tup [.tup (nD (dueL fs bs F)), .tup ((cells fs bs).map D.int)]] = some (.bl true, [.any, .any]) := by
  have e8 : nD (dueL fs bs F) = ((dueL fs bs F).map fun a : Nat => (a : Int)).map D.int := by
    unfold nD
    rw [List.map_map]
    rfl
  rw [e8]
  refine ⟨same_ints (n := 1) (by simp; omega), same_tup (by simp) fun d hd => ?_⟩
  simp only [List.mem_cons, List.not_mem_nil, or_false] at hd
  rcases hd with rfl | rfl
  · exact ⟨rfl, by simp, same_ints (n := 0) (by simp; omega)⟩
  · exact ⟨rfl, by simp, same_ints (n := 0) (by omega)⟩
theorem tot_le {fs : Fs} (h3 : ∀ x, (fds fs x).length ≤ 3) : ∀ {bs : List Blk}, frOK bs → tot fs bs ≤ 10 * bs.length
  | [], _ => Nat.le_refl _
  | c :: bs, h => by
    have h1 := tot_le h3 (bs := bs) fun s hs => h s (List.mem_cons_of_mem _ hs)
    have h2 : szB fs c ≤ 10 := by
      cases c with
      | inl s => have := h s List.mem_cons_self; simp [szB]; omega
      | inr x => have := h3 x; simp [szB]; omega
    simp only [List.length_cons, tot]
    omega
theorem law_turn {C : Addr} {l : List Int} {a : Nat} {u0 t u3 u4 u5 u6 u7 u8 u9 u10 u11 u12 u13 u14 tn : D} (h5 : okS u5) (h10 : okS u10) :
    ∃ a' v3 v4 v5 v6 v7 v8 v9 v10 v11 v12 v13 v14, turnM (nameT 2) (B_law_4 C) tn [u0, bx l a, t, u3, u4, u5, u6, u7, u8, u9, u10, u11, u12, u13, u14] = some (.nx [u0, bx l a', tn, v3, v4, v5, v6, v7, v8, v9, v10, v11, v12, v13, v14]) ∧ okS v5 ∧ okS v10 := by
  obtain ⟨q1, q2⟩ := dr_lt (l := l) (a := a) (n := 8) (by omega)
  obtain ⟨n, hn, hn0, hn8⟩ : ∃ n : Nat, 1 + dr l a 8 = (n : Nat) ∧ 0 < n ∧ n ≤ 8 := ⟨(1 + dr l a 8).toNat, by omega, by omega, by omega⟩
  have hnz : (0 : Int) < n := by omega
  obtain ⟨a1, fs, w5, w6, e1, hfl, hfo, hw5⟩ := rows_at (l := l) (a := a + 1) (n := n) (u0 := u0) (u2 := tn) (u5 := u5) (u6 := u6) (u7 := u7) (u8 := u8) (u9 := u9) (u10 := u10) (u11 := u11) (u12 := u12) (u13 := u13) (u14 := u14) hn0 hn8 h10 h5
  obtain ⟨r1, hr1, hr1n⟩ : ∃ r : Nat, dr l a1 n = (r : Nat) ∧ r < n := by
    obtain ⟨z1, z2⟩ := dr_lt (l := l) (a := a1) hnz
    exact ⟨(dr l a1 n).toNat, by omega, by omega⟩
  obtain ⟨r2, hr2, hr2n⟩ : ∃ r : Nat, dr l (a1 + 1) n = (r : Nat) ∧ r < n := by
    obtain ⟨z1, z2⟩ := dr_lt (l := l) (a := a1 + 1) hnz
    exact ⟨(dr l (a1 + 1) n).toNat, by omega, by omega⟩
  generalize hrg : [some r1, none, some r2] = rg
  have hrl : rg.length = 3 := by subst hrg; rfl
  have hro : (rg.filterMap id).length ≤ 2 := by subst hrg; simp
  have OK : OkH fs rg := {
    n := by omega
    fl := fun x => Nat.le_trans (fds_ok hfo x).1 (by omega)
    f := fun x o ho y hy => by rw [hfl]; exact (fds_ok hfo x).2 o ho y hy
    r := fun o ho y hy => by
      subst hrg
      rw [hfl]
      simp only [List.mem_cons, List.not_mem_nil, or_false] at ho
      rcases ho with rfl | rfl | rfl
      · cases hy; exact hr1n
      · cases hy
      · cases hy; exact hr2n
    rl := by omega }
  obtain ⟨a2, bs, e2, p2, f2, b2⟩ := memory_at (l := l) (a := a1 + 1 + 1) OK
  have L : Lay fs rg bs := ⟨OK, fun x => (fds_ok hfo x).1, by omega, p2, f2, b2⟩
  obtain ⟨F, w10, e3, hF, hw10⟩ := found_loop L (by omega) hro (u0 := u0) (u1 := bx l a2) (u2 := tn) (u3 := .int (n : Nat)) (u5 := w5) (u6 := w6) (u7 := heapD fs rg) (u8 := memD fs bs rg) (u10 := u10) (u11 := u11) (u12 := u12) (u13 := u13) (u14 := u14) hw5 h10
  obtain ⟨w12, w13, w14, e4⟩ := due_loop (fs := fs) (bs := bs) (rg := rg) (F := F) (u0 := u0) (u1 := bx l a2) (u2 := tn) (u3 := .int (n : Nat)) (u4 := .lst .o (rowsD fs)) (u5 := w5) (u6 := w6) (u7 := heapD fs rg) (u10 := w10) (u12 := u12) (u13 := u13) (u14 := u14) f2 L.nd (by omega)
  have htot := tot_le (fs := fs) L.f3 f2
  have hcl : (cells fs bs).length ≤ 10000 := by rw [cells_len f2]; omega
  have hdl : (dueL fs bs F).length ≤ 10000 := by
    have z1 := recs_len bs
    have z2 := List.length_filter_le (fun x => decide (x ∈ F)) (recs bs)
    unfold dueL
    rw [List.length_map]
    omega
  obtain ⟨s1, s2⟩ := same_both (fs := fs) (rg := rg) (bs := bs) (F := F) hdl hcl
  have m1 := marked_at L (F := F) (by omega) hF
  have m2 := turning_at (C := C) L hF
  refine ⟨a2, .int (n : Nat), .lst .o (rowsD fs), w5, w6, heapD fs rg, memD fs bs rg, .lst .o (nD F), w10, .lst .o (nD (dueL fs bs F)), w12, w13, w14, turn_run (ρ1 := [u0, bx l a, tn, u3, u4, u5, u6, u7, u8, u9, u10, u11, u12, u13, u14]) rfl ?_, hw5, hw10⟩
  unfold B_law_4
  refine seq_run (ρ1 := [u0, bx l (a + 1), tn, .int (n : Nat), u4, u5, u6, u7, u8, u9, u10, u11, u12, u13, u14]) (by rw [← hn]; simp [draw_at]) ?_
  refine seq_run (ρ1 := [u0, bx l (a + 1), tn, .int (n : Nat), .lst .o [], u5, u6, u7, u8, u9, u10, u11, u12, u13, u14]) (by simp) ?_
  refine seq_run (for_run (rng1_run (n := n) rfl (by omega)) e1) ?_
  refine seq_run (ρ1 := [u0, bx l (a1 + 1 + 1), tn, .int (n : Nat), .lst .o (rowsD fs), w5, w6, heapD fs rg, u8, u9, u10, u11, u12, u13, u14]) ?_ ?_
  · subst hrg
    simp [draw_at, hnz, hn0, heapD, hfl, oD, hr1, hr2]
  refine seq_run (ρ1 := [u0, bx l a2, tn, .int (n : Nat), .lst .o (rowsD fs), w5, w6, heapD fs rg, memD fs bs rg, u9, u10, u11, u12, u13, u14]) ?_ ?_
  · refine set_run (ρ1 := [u0, bx l a2, tn, .int (n : Nat), .lst .o (rowsD fs), w5, w6, heapD fs rg, u8, u9, u10, u11, u12, u13, u14]) (d := memD fs bs rg) ?_ rfl
    exact call_run (os := [.s 1, .v (heapD fs rg)]) (ρ1 := [u0, bx l (a1 + 1 + 1), tn, .int (n : Nat), .lst .o (rowsD fs), w5, w6, heapD fs rg, u8, u9, u10, u11, u12, u13, u14]) (ds := [bx l (a1 + 1 + 1), heapD fs rg]) rfl rfl e2 rfl rfl
  refine seq_run (ρ1 := [u0, bx l a2, tn, .int (n : Nat), .lst .o (rowsD fs), w5, w6, heapD fs rg, memD fs bs rg, .lst .o (nD (rg.filterMap id)), u10, u11, u12, u13, u14]) ?_ ?_
  · refine set_run (ρ1 := [u0, bx l a2, tn, .int (n : Nat), .lst .o (rowsD fs), w5, w6, heapD fs rg, memD fs bs rg, u9, u10, u11, u12, u13, u14]) (d := .lst .o (nD (rg.filterMap id))) ?_ rfl
    exact lc_run (N := 15) (vs := [5]) (ρ1 := [u0, bx l a2, tn, .int (n : Nat), .lst .o (rowsD fs), w5, w6, heapD fs rg, memD fs bs rg, u9, u10, u11, u12, u13, u14]) rfl (tup_run (ds := rg.map oD) (by simp [heapD])) (okV_1 rfl hw5) (roots5 (by omega))
  refine seq_run (for_run (rng1_run (n := 40) rfl (by omega)) e3) ?_
  refine seq_run (ρ1 := [u0, bx l a2, tn, .int (n : Nat), .lst .o (rowsD fs), w5, w6, heapD fs rg, memD fs bs rg, .lst .o (nD F), w10, .lst .o [], u12, u13, u14]) (by simp) ?_
  refine seq_run (for_run (ds := bkD fs 0 bs) (ρ1 := [u0, bx l a2, tn, .int (n : Nat), .lst .o (rowsD fs), w5, w6, heapD fs rg, memD fs bs rg, .lst .o (nD F), w10, .lst .o [], u12, u13, u14]) ?_ e4) ?_
  · refine lst_run (md := .f) ?_ (by decide)
    have eb := blocks_at (fs := fs) f2 (by omega)
    have : callM F_law_blocks (consC (vQ (op2 ixD (rdS 8) (cst (.int 4)))) nilC) [u0, bx l a2, tn, .int (n : Nat), .lst .o (rowsD fs), w5, w6, heapD fs rg, memD fs bs rg, .lst .o (nD F), w10, .lst .o [], u12, u13, u14] = some (.lst .o (bkD fs 0 bs), [u0, bx l a2, tn, .int (n : Nat), .lst .o (rowsD fs), w5, w6, heapD fs rg, memD fs bs rg, .lst .o (nD F), w10, .lst .o [], u12, u13, u14]) :=
      call_run (os := [.v (.tup ((cells fs bs).map D.int))]) (ρ1 := [u0, bx l a2, tn, .int (n : Nat), .lst .o (rowsD fs), w5, w6, heapD fs rg, memD fs bs rg, .lst .o (nD F), w10, .lst .o [], u12, u13, u14]) (ds := [.tup ((cells fs bs).map D.int)]) (by simp [memD]) rfl eb rfl rfl
    rw [x_frzM, this]
    rfl
  generalize hE : [u0, bx l a2, tn, .int (n : Nat), .lst .o (rowsD fs), w5, w6, heapD fs rg, memD fs bs rg, .lst .o (nD F), w10, .lst .o (nD (dueL fs bs F)), w12, w13, w14] = E
  have c1 : callM F_marked (consC (nmM 8) nilC) E = some (.tup (nD (dueL fs bs F)), E) := by
    subst hE
    exact call_run (os := [.v (memD fs bs rg)]) (ds := [memD fs bs rg]) rfl rfl m1 rfl rfl
  have c2 : callM (F_marked_by_turning C) (consC (nmM 8) nilC) E = some (.tup [.tup (nD (dueL fs bs F)), .tup ((cells fs bs).map D.int)], E) := by
    subst hE
    exact call_run (os := [.v (memD fs bs rg)]) (ds := [memD fs bs rg]) rfl rfl m2 rfl rfl
  have d1 : b1TQ itemsD (rdS 11) E = some (.tup (nD (dueL fs bs F)), E) := by subst hE; rfl
  have d2 : vQ (op2 ixD (rdS 8) (cst (.int 4))) E = some (.tup ((cells fs bs).map D.int), E) := by subst hE; simp [memD]
  have g1 : callM (F_law_same 3) (consC (callM F_marked (consC (nmM 8) nilC)) (consC (b1TQ itemsD (rdS 11)) nilC)) E = some (.bl true, E) := by
    refine call_run (os := [.v (.tup (nD (dueL fs bs F))), .v (.tup (nD (dueL fs bs F)))]) (ρ1 := E) (ds := [.tup (nD (dueL fs bs F)), .tup (nD (dueL fs bs F))]) ?_ rfl s1 rfl rfl
    rw [x_consC, c1]
    simp only []
    rw [x_consC, d1]
    rfl
  have g2 : callM (F_law_same 3) (consC (callM (F_marked_by_turning C) (consC (nmM 8) nilC)) (consC (tupM (consM (frzM (b1TQ itemsD (rdS 11))) (consM (vQ (op2 ixD (rdS 8) (cst (.int 4)))) nilM))) nilC)) E = some (.bl true, E) := by
    refine call_run (os := [.v (.tup [.tup (nD (dueL fs bs F)), .tup ((cells fs bs).map D.int)]), .v (.tup [.tup (nD (dueL fs bs F)), .tup ((cells fs bs).map D.int)])]) (ρ1 := E) (ds := [.tup [.tup (nD (dueL fs bs F)), .tup ((cells fs bs).map D.int)], .tup [.tup (nD (dueL fs bs F)), .tup ((cells fs bs).map D.int)]]) ?_ rfl s2 rfl rfl
    rw [x_consC, c2]
    simp only []
    rw [x_consC, x_tupM, x_consM, x_frzM, d1]
    simp only [x_frz_tup]
    rw [x_consM, d2]
    rfl
  refine if_false' (ρ1 := E) ?_ (by subst hE; rfl)
  rw [x_orT, x_notM, x_truthM, g1]
  simp only [x_truth_bl, Option.map_some, Bool.not_true]
  rw [x_notM, x_truthM, g2]
  rfl
theorem law_true (C : Addr) (ns : List Int) (h : ns.length ≤ 63) : ∃ outs, F_law C [.lst .x (ns.map D.int)] = some (.bl true, outs) := by
  obtain ⟨l, e1⟩ := box_at (ns := ns)
  obtain ⟨ρ', e2, a', t, u3, u4, u5, u6, u7, u8, u9, u10, u11, u12, u13, u14, rfl, _⟩ := forM_rng (t := nameT 2) (s := B_law_4 C) (fun _ ρ => ∃ a' t u3 u4 u5 u6 u7 u8 u9 u10 u11 u12 u13 u14, ρ = [.lst .x (ns.map D.int), bx l a', t, u3, u4, u5, u6, u7, u8, u9, u10, u11, u12, u13, u14] ∧ okS u5 ∧ okS u10) (lo := 0) (n := 3) (ρ := [.lst .x (ns.map D.int), bx l 0, .any, .any, .any, .any, .any, .any, .any, .any, .any, .any, .any, .any, .any]) ⟨_, _, _, _, _, _, _, _, _, _, _, _, _, _, rfl, .inl rfl, .inl rfl⟩ (by
    rintro j ρ hj ⟨a', t, u3, u4, u5, u6, u7, u8, u9, u10, u11, u12, u13, u14, rfl, h5, h10⟩
    obtain ⟨a2, v3, v4, v5, v6, v7, v8, v9, v10, v11, v12, v13, v14, e, g5, g10⟩ := law_turn (C := C) (l := l) (a := a') (u0 := .lst .x (ns.map D.int)) (t := t) (u3 := u3) (u4 := u4) (u5 := u5) (u6 := u6) (u7 := u7) (u8 := u8) (u9 := u9) (u10 := u10) (u11 := u11) (u12 := u12) (u13 := u13) (u14 := u14) (tn := .int (0 + (j : Int))) h5 h10
    exact ⟨_, e, _, _, _, _, _, _, _, _, _, _, _, _, _, _, rfl, g5, g10⟩)
  refine ⟨[.any], ?_⟩
  unfold F_law m_law
  refine fn_ret (ρ := [.lst .x (ns.map D.int), bx l a', t, u3, u4, u5, u6, u7, u8, u9, u10, u11, u12, u13, u14]) rfl ?_ rfl
  refine seq_run (ρ1 := [.lst .x (ns.map D.int), bx l 0, .any, .any, .any, .any, .any, .any, .any, .any, .any, .any, .any, .any, .any]) ?_ ?_
  · refine set_run (ρ1 := [.lst .x (ns.map D.int), .any, .any, .any, .any, .any, .any, .any, .any, .any, .any, .any, .any, .any, .any]) (d := bx l 0) ?_ rfl
    exact call_run (os := [.v (.lst .x (ns.map D.int)), .v (.int 0), .v (.int 63)]) (ds := [.lst .x (ns.map D.int), .int 0, .int 63]) rfl rfl e1 rfl rfl
  exact seq_run (for_run (rng1_run (n := 3) rfl (by omega)) e2) rfl
end K82

namespace K82
open PySem hiding Env
open L2 CW
section
variable {Pr : Program} {w : World} {K : PySem.W.Frag} {mg : Str → Option Value} {base : Heap}
theorem ok_references (T : Tx K mg) : FnOk Pr w K mg base CX0 1 T.f_references T.d_references ["cells", "address"] (spP K 2 (F_references)) :=
  fnP (P := []) T.F_references sc_references (by decide) fun cdv A outer sh H E hr =>
    (bs_one (ss_ret (ev_list (by rfl) (by exact T.z_list) (ev_sliceQ (eq_name 0 (pv 0)) (oq_some (eq_add (eq_name 1 (pv 1)) (eq_gi (by rfl) (by exact T.c_HEAD)))) (oq_some (eq_add (eq_add (eq_name 1 (pv 1)) (eq_gi (by rfl) (by exact T.c_HEAD))) (eq_ixS (eq_name 0 (pv 0)) (eq_add (eq_name 1 (pv 1)) eq_int))))))))
theorem ok_leads_to (T : Tx K mg) : FnOk Pr w K mg base CX0 2 T.f_leads_to T.d_leads_to ["cells", "address", "kept", "marks"] (spP K 4 (F_leads_to)) :=
  fnP (P := [3]) T.F_leads_to sc_leads_to (by decide) fun cdv A outer sh H E hr =>
    (bs_cons (ss_if ((ec_eq (hu64 hr) (eq_ixS (eq_name 0 (pv 0)) (eq_name 1 (pv 1))) eq_int).tst _).tv (bs_one (ss_ret (ev_lc (own := [("known", 5)]) (N := 8) rfl sc_leads_to.nd rfl (iv_lst (ev_frz (ev_call (ok_references T) (hr.mono (by decide)) (by rfl) (by exact T.g_references) T.F_references.kp T.b_references (cv_cons (ev_name 0 (pv 0)) (cv_cons (ev_name 1 (pv 1)) cv_nil))))) (blkOk_by (N := N_leads_to) (sc := defScope s_leads_to) (by decide +kernel)) (fun _ => (tg_name (i := 5) sc_leads_to.nd rfl (by first | exact Or.inl rfl | exact Or.inr rfl))) (fun _ => (ts_one ((ec_ne (hu64 hr) (eq_name 5 (pv 5)) (eq_gi (by rfl) (by exact T.c_NOTHING))).tst _).tv)) (fun _ => (ev_name 5 (pv 5)))))) bs_nil) (bs_cons (ss_if ((ec_eq (hu64 hr) (eq_ixS (eq_name 0 (pv 0)) (eq_name 1 (pv 1))) eq_int).tst _).tv bs_never bs_nil) (bs_one ss_never)))
theorem ok_opened (T : Tx K mg) : FnOk Pr w K mg base CX0 1 T.f_opened T.d_opened ["cells", "address", "marks"] (spP K 3 (F_opened)) :=
  fnP (P := [2]) T.F_opened sc_opened (by decide) fun cdv A outer sh H E hr =>
    (bs_one (ss_ret (ev_lcT2n (own := [("table", 3), ("key", 4), ("value", 5)]) (N := 6) rfl sc_opened.nd (pv 2) (blkOk_by (N := N_opened) (sc := defScope s_opened) (by decide +kernel)) (fun _ => (tg_name (i := 3) sc_opened.nd rfl (by first | exact Or.inl rfl | exact Or.inr rfl))) (fun _ => (ts_one ((ec_eq (hu64 hr) (eq_ixS (eq_name 0 (pv 0)) (eq_name 3 (pv 3))) eq_int).tst _).tv)))))
theorem ok_marked (T : Tx K mg) : FnOk Pr w K mg base CX0 3 T.f_marked T.d_marked ["memory"] (spP K 1 (F_marked)) :=
  fnP (P := []) T.F_marked sc_marked (by decide) fun cdv A outer sh H E hr =>
    (bs_cons (ss_set (i := 1) (eq_ixS (eq_name 0 (pv 0)) (eq_gi (by rfl) (by exact T.c_CELLS))).ev sc_marked.nd rfl (by first | exact Or.inl rfl | exact Or.inr rfl)) (bs_cons (ss_set (i := 2) (ev_lst av_nil) sc_marked.nd rfl (by first | exact Or.inl rfl | exact Or.inr rfl)) (bs_cons (ss_setLc (i := 3) (own := [("address", 4)]) (N := 5) rfl sc_marked.nd rfl rfl rfl (sw_true rfl rfl rfl (by decide +kernel)) (iv_tup (eq_ixS (eq_name 0 (pv 0)) eq_int).ev) (blkOk_by (N := N_marked) (sc := defScope s_marked) (by decide +kernel)) (fun _ => (tg_name (i := 4) sc_marked.nd rfl (by first | exact Or.inl rfl | exact Or.inr rfl))) (fun _ => (ts_one ((ec_notN (eq_name 4 (pv 4)) eq_non).tst _).tv)) (fun _ => (ev_name 4 (pv 4)))) (bs_cons (ss_while N_marked_1 PassesOwn.never (tq_truth (eq_name 3 (pv 3))).tv (bs_cons (ss_set (i := 4) (ev_pop (pv 3)) sc_marked.nd rfl (by first | exact Or.inl rfl | exact Or.inr rfl)) (bs_one (ss_if ((ec_notInS (eq_name 4 (pv 4)) (eq_name 2 (pv 2))).tst _).tv (bs_cons (ss_expr (ev_append (pv 2) (ev_name 4 (pv 4)))) (bs_one (ss_expr (ev_extend (pv 3) (ev_cat (ev_call (ok_leads_to T) (hr.mono (by decide)) (by rfl) (by exact T.g_leads_to) T.F_leads_to.kp T.b_leads_to (cv_cons (ev_name 1 (pv 1)) (cv_cons (ev_name 4 (pv 4)) (cv_cons (eq_ixS (eq_name 0 (pv 0)) eq_int).ev (cv_lend 2 (pv 2) cv_nil))))) (ev_call (ok_opened T) (hr.mono (by decide)) (by rfl) (by exact T.g_opened) T.F_opened.kp T.b_opened (cv_cons (ev_name 1 (pv 1)) (cv_cons (ev_name 4 (pv 4)) (cv_lend 2 (pv 2) cv_nil))))))))) bs_nil)))) (bs_one (ss_ret (ev_tuple (by rfl) (by exact T.z_tuple) (ev_sortedQ (by rfl) (by exact T.z_sorted) (eq_name 2 (pv 2))))))))))
theorem ok_Reversal___init__ (T : Tx K mg) : FnOk Pr w K mg base CX0 1 T.f_Reversal___init__ T.d_Reversal___init__ ["self", "cells"] (spP K 2 (F_Reversal___init__ T.C_Reversal)) :=
  fnP (P := [0]) T.F_Reversal___init__ sc_Reversal___init__ (by decide) fun cdv A outer sh H E hr =>
    (bs_cons (ss_fld (pv 0) T.cl_Reversal T.na_Reversal_cells (ev_listQ (by rfl) (by exact T.z_list) (eq_name 1 (pv 1)))) (bs_cons (ss_fld (pv 0) T.cl_Reversal T.na_Reversal_marks (ev_lst av_nil)) (bs_one (ss_fld (pv 0) T.cl_Reversal T.na_Reversal_done ev_dict0))))
theorem ok_Reversal_begin (T : Tx K mg) : FnOk Pr w K mg base CX0 1 T.f_Reversal_begin T.d_Reversal_begin ["self", "address"] (spP K 2 (F_Reversal_begin T.C_Reversal)) :=
  fnP (P := [0]) T.F_Reversal_begin sc_Reversal_begin (by decide) fun cdv A outer sh H E hr =>
    (bs_cons (ss_expr (ev_appendF (pv 0) T.cl_Reversal T.na_Reversal_marks (eq_name 1 (pv 1)))) (bs_one (ss_subF (hu_of hr) (pv 0) T.cl_Reversal T.na_Reversal_done (eq_name 1 (pv 1)) eq_int.ev)))
theorem ok_Reversal_next_field (T : Tx K mg) : FnOk Pr w K mg base CX0 1 T.f_Reversal_next_field T.d_Reversal_next_field ["self", "address"] (spP K 2 (F_Reversal_next_field T.C_Reversal)) :=
  fnP (P := [0]) T.F_Reversal_next_field sc_Reversal_next_field (by decide) fun cdv A outer sh H E hr =>
    (bs_cons (ss_if ((ec_ne (hu64 hr) (eq_ixS (eq_fld (pv 0) T.cl_Reversal T.na_Reversal_cells) (eq_name 1 (pv 1))) eq_int).tst _).tv (bs_one (ss_ret eq_non.ev)) bs_nil) (bs_cons (ss_while N_Reversal_next_field_1 PassesOwn.never ((ec_lt (eq_ixK (hu_of hr) (eq_fld (pv 0) T.cl_Reversal T.na_Reversal_done) (eq_name 1 (pv 1))) (eq_ixS (eq_fld (pv 0) T.cl_Reversal T.na_Reversal_cells) (eq_add (eq_name 1 (pv 1)) eq_int))).tst _).tv (bs_cons (ss_set (i := 2) (eq_add (eq_add (eq_name 1 (pv 1)) (eq_gi (by rfl) (by exact T.c_HEAD))) (eq_ixK (hu_of hr) (eq_fld (pv 0) T.cl_Reversal T.na_Reversal_done) (eq_name 1 (pv 1)))).ev sc_Reversal_next_field.nd rfl (by first | exact Or.inl rfl | exact Or.inr rfl)) (bs_cons (ss_if (wq_and ((ec_ne (hu64 hr) (eq_ixS (eq_fld (pv 0) T.cl_Reversal T.na_Reversal_cells) (eq_name 2 (pv 2))) (eq_gi (by rfl) (by exact T.c_NOTHING))).tst _) (wq_and1 ((ec_notInS (eq_ixS (eq_fld (pv 0) T.cl_Reversal T.na_Reversal_cells) (eq_name 2 (pv 2))) (eq_fld (pv 0) T.cl_Reversal T.na_Reversal_marks)).tst _))).tq.tv (bs_one (ss_ret (ev_move 2 (pv 2)))) bs_nil) (bs_one (ss_augF (hu_of hr) (pv 0) T.cl_Reversal T.na_Reversal_done (eq_name 1 (pv 1)) eq_int))))) (bs_one (ss_ret eq_non.ev))))
theorem ok_Reversal_mark (T : Tx K mg) : FnOk Pr w K mg base CX0 2 T.f_Reversal_mark T.d_Reversal_mark ["self", "root"] (spP K 2 (F_Reversal_mark T.C_Reversal)) :=
  fnP (P := [0]) T.F_Reversal_mark sc_Reversal_mark (by decide) fun cdv A outer sh H E hr =>
    (bs_cons (ss_set (i := 2) (eq_gi (by rfl) (by exact T.c_NOTHING)).ev sc_Reversal_mark.nd rfl (by first | exact Or.inl rfl | exact Or.inr rfl)) (bs_cons (ss_set (i := 3) (ev_name 1 (pv 1)) sc_Reversal_mark.nd rfl (by first | exact Or.inl rfl | exact Or.inr rfl)) (bs_cons (ss_expr (ev_meth (pv 0) T.cl_Reversal T.me_Reversal_begin (ok_Reversal_begin T) (hr.mono (by decide)) T.b_Reversal_begin (cv_cons (ev_name 1 (pv 1)) cv_nil))) (bs_one (ss_while N_Reversal_mark_1 PassesOwn.never (tq_truth eq_bl).tv (bs_cons (ss_set (i := 4) (ev_meth (pv 0) T.cl_Reversal T.me_Reversal_next_field (ok_Reversal_next_field T) (hr.mono (by decide)) T.b_Reversal_next_field (cv_cons (ev_name 3 (pv 3)) cv_nil)) sc_Reversal_mark.nd rfl (by first | exact Or.inl rfl | exact Or.inr rfl)) (bs_one (ss_if ((ec_notN (eq_name 4 (pv 4)) eq_non).tst _).tv (bs_cons (ss_set (i := 5) (eq_ixS (eq_fld (pv 0) T.cl_Reversal T.na_Reversal_cells) (eq_name 4 (pv 4))).ev sc_Reversal_mark.nd rfl (by first | exact Or.inl rfl | exact Or.inr rfl)) (bs_cons (ss_subF (hu_of hr) (pv 0) T.cl_Reversal T.na_Reversal_cells (eq_name 4 (pv 4)) (ev_name 2 (pv 2))) (bs_cons (ss_set (i := 2) (ev_name 3 (pv 3)) sc_Reversal_mark.nd rfl (by first | exact Or.inl rfl | exact Or.inr rfl)) (bs_cons (ss_set (i := 3) (ev_name 5 (pv 5)) sc_Reversal_mark.nd rfl (by first | exact Or.inl rfl | exact Or.inr rfl)) (bs_one (ss_expr (ev_meth (pv 0) T.cl_Reversal T.me_Reversal_begin (ok_Reversal_begin T) (hr.mono (by decide)) T.b_Reversal_begin (cv_cons (ev_name 3 (pv 3)) cv_nil)))))))) (bs_one (ss_if ((ec_eq (hu64 hr) (eq_name 2 (pv 2)) (eq_gi (by rfl) (by exact T.c_NOTHING))).tst _).tv (bs_one ss_retN) (bs_cons (ss_set (i := 4) (eq_add (eq_add (eq_name 2 (pv 2)) (eq_gi (by rfl) (by exact T.c_HEAD))) (eq_ixK (hu_of hr) (eq_fld (pv 0) T.cl_Reversal T.na_Reversal_done) (eq_name 2 (pv 2)))).ev sc_Reversal_mark.nd rfl (by first | exact Or.inl rfl | exact Or.inr rfl)) (bs_cons (ss_set (i := 6) (eq_ixS (eq_fld (pv 0) T.cl_Reversal T.na_Reversal_cells) (eq_name 4 (pv 4))).ev sc_Reversal_mark.nd rfl (by first | exact Or.inl rfl | exact Or.inr rfl)) (bs_cons (ss_subF (hu_of hr) (pv 0) T.cl_Reversal T.na_Reversal_cells (eq_name 4 (pv 4)) (ev_name 3 (pv 3))) (bs_cons (ss_augF (hu_of hr) (pv 0) T.cl_Reversal T.na_Reversal_done (eq_name 2 (pv 2)) eq_int) (bs_cons (ss_set (i := 3) (ev_name 2 (pv 2)) sc_Reversal_mark.nd rfl (by first | exact Or.inl rfl | exact Or.inr rfl)) (bs_one (ss_set (i := 2) (ev_name 6 (pv 6)) sc_Reversal_mark.nd rfl (by first | exact Or.inl rfl | exact Or.inr rfl))))))))))))))))))
theorem ok_Reversal_led (T : Tx K mg) : FnOk Pr w K mg base CX0 1 T.f_Reversal_led T.d_Reversal_led ["self", "kept"] (spP K 2 (F_Reversal_led T.C_Reversal)) :=
  fnP (P := [0]) T.F_Reversal_led sc_Reversal_led (by decide) fun cdv A outer sh H E hr =>
    (bs_cons (ss_forQ (k := 2) PassesOwn.never rfl (eq_fld (pv 0) T.cl_Reversal T.na_Reversal_marks) sc_Reversal_led.nd rfl (by first | exact Or.inl rfl | exact Or.inr rfl) (bq_ifF ((ec_ne (hu64 hr) (eq_ixS (eq_fld (pv 0) T.cl_Reversal T.na_Reversal_cells) (eq_name 2 (pv 2))) eq_int).tst _))) (bs_one (ss_ret eq_non.ev)))
theorem ok_marked_by_turning (T : Tx K mg) : FnOk Pr w K mg base CX0 3 T.f_marked_by_turning T.d_marked_by_turning ["memory"] (spP K 1 (F_marked_by_turning T.C_Reversal)) :=
  fnP (P := []) T.F_marked_by_turning sc_marked_by_turning (by decide) fun cdv A outer sh H E hr =>
    (bs_cons (ss_set (i := 1) (ev_make T.mk_Reversal (ok_Reversal___init__ T) (hr.mono (by decide)) rfl T.g_Reversal T.b_Reversal___init__ (av_cons (eq_ixS (eq_name 0 (pv 0)) (eq_gi (by rfl) (by exact T.c_CELLS))).ev av_nil)) sc_marked_by_turning.nd rfl (by first | exact Or.inl rfl | exact Or.inr rfl)) (bs_cons (ss_for PassesOwn.never rfl (iv_tup (eq_ixS (eq_name 0 (pv 0)) eq_int).ev) (tg_name (i := 2) sc_marked_by_turning.nd rfl (by first | exact Or.inl rfl | exact Or.inr rfl)) (bs_one (ss_if (wq_and ((ec_notN (eq_name 2 (pv 2)) eq_non).tst _) (wq_and1 ((ec_notInS (eq_name 2 (pv 2)) (eq_fld (pv 1) T.cl_Reversal T.na_Reversal_marks)).tst _))).tq.tv (bs_one (ss_expr (ev_meth (pv 1) T.cl_Reversal T.me_Reversal_mark (ok_Reversal_mark T) (hr.mono (by decide)) T.b_Reversal_mark (cv_cons (ev_name 2 (pv 2)) cv_nil)))) bs_nil))) (bs_cons (ss_set (i := 3) (ev_meth (pv 1) T.cl_Reversal T.me_Reversal_led (ok_Reversal_led T) (hr.mono (by decide)) T.b_Reversal_led (cv_cons (eq_ixS (eq_name 0 (pv 0)) eq_int).ev cv_nil)) sc_marked_by_turning.nd rfl (by first | exact Or.inl rfl | exact Or.inr rfl)) (bs_cons (ss_while N_marked_by_turning_1 PassesOwn.never ((ec_notN (eq_name 3 (pv 3)) eq_non).tst _).tv (bs_cons (ss_expr (ev_meth (pv 1) T.cl_Reversal T.me_Reversal_mark (ok_Reversal_mark T) (hr.mono (by decide)) T.b_Reversal_mark (cv_cons (ev_name 3 (pv 3)) cv_nil))) (bs_one (ss_set (i := 3) (ev_meth (pv 1) T.cl_Reversal T.me_Reversal_led (ok_Reversal_led T) (hr.mono (by decide)) T.b_Reversal_led (cv_cons (eq_ixS (eq_name 0 (pv 0)) eq_int).ev cv_nil)) sc_marked_by_turning.nd rfl (by first | exact Or.inl rfl | exact Or.inr rfl))))) (bs_one (ss_ret (ev_tup (av_cons (ev_frz (ev_tuple (by rfl) (by exact T.z_tuple) (ev_sortedQ (by rfl) (by exact T.z_sorted) (eq_fld (pv 1) T.cl_Reversal T.na_Reversal_marks)))) (av_cons (ev_frz (ev_tupleQ (by rfl) (by exact T.z_tuple) (eq_fld (pv 1) T.cl_Reversal T.na_Reversal_cells))) av_nil)))))))))
theorem ok_law_cell (T : Tx K mg) : FnOk Pr w K mg base CX0 1 T.f_law_cell T.d_law_cell ["script", "k"] (spP K 2 (F_law_cell)) :=
  fnP (P := []) T.F_law_cell sc_law_cell (by decide) fun cdv A outer sh H E hr =>
    (bs_cons (ss_if ((ec_lt (eq_name 1 (pv 1)) (eq_len (by rfl) (by exact T.z_len) (eq_name 0 (pv 0)))).tst _).tv (bs_one (ss_ret (eq_ixS (eq_name 0 (pv 0)) (eq_name 1 (pv 1))).ev)) bs_nil) (bs_one (ss_ret eq_int.ev)))
theorem ok_law_digits (T : Tx K mg) : FnOk Pr w K mg base CX0 2 T.f_law_digits T.d_law_digits ["script", "first", "last"] (spP K 3 (F_law_digits)) :=
  fnP (P := []) T.F_law_digits sc_law_digits (by decide) fun cdv A outer sh H E hr =>
    (bs_cons (ss_set (i := 3) (ev_lst av_nil) sc_law_digits.nd rfl (by first | exact Or.inl rfl | exact Or.inr rfl)) (bs_cons (ss_for PassesOwn.never rfl (iv_rng2 (by rfl) (by exact T.z_range) (eq_name 1 (pv 1)) (eq_name 2 (pv 2))) (tg_name (i := 4) sc_law_digits.nd rfl (by first | exact Or.inl rfl | exact Or.inr rfl)) (bs_cons (ss_set (i := 5) (ev_call (ok_law_cell T) (hr.mono (by decide)) (by rfl) (by exact T.g_law_cell) T.F_law_cell.kp T.b_law_cell (cv_cons (ev_name 0 (pv 0)) (cv_cons (ev_name 4 (pv 4)) cv_nil))) sc_law_digits.nd rfl (by first | exact Or.inl rfl | exact Or.inr rfl)) (bs_cons (ss_if ((ec_lt (eq_name 5 (pv 5)) eq_int).tst _).tv (bs_one (ss_set (i := 5) (eq_sub eq_int (eq_mul eq_int (eq_name 5 (pv 5)))).ev sc_law_digits.nd rfl (by first | exact Or.inl rfl | exact Or.inr rfl))) bs_nil) (bs_one (ss_if ((ec_ge (eq_name 5 (pv 5)) (eq_pow eq_int eq_int)).tst _).tv (bs_one (ss_for PassesOwn.never rfl (iv_rng1 (by rfl) (by exact T.z_range) eq_int) (tg_name (i := 6) sc_law_digits.nd rfl (by first | exact Or.inl rfl | exact Or.inr rfl)) (bs_one (ss_if ((ec_gt (eq_name 5 (pv 5)) eq_int).tst _).tv (bs_cons (ss_expr (ev_append (pv 3) (eq_mod (eq_intc (by rfl) (by exact T.z_int) (eq_name 5 (pv 5))) eq_int).ev)) (bs_one (ss_set (i := 5) (eq_div (eq_name 5 (pv 5)) eq_int).ev sc_law_digits.nd rfl (by first | exact Or.inl rfl | exact Or.inr rfl)))) bs_nil)))) (bs_cons (ss_set (i := 7) (eq_mod (eq_intc (by rfl) (by exact T.z_int) (eq_add (eq_add (eq_mul (eq_name 5 (pv 5)) eq_int) (eq_mul (eq_name 4 (pv 4)) eq_int)) eq_int)) eq_int).ev sc_law_digits.nd rfl (by first | exact Or.inl rfl | exact Or.inr rfl)) (bs_one (ss_for PassesOwn.never rfl (iv_rng1 (by rfl) (by exact T.z_range) eq_int) (tg_name (i := 6) sc_law_digits.nd rfl (by first | exact Or.inl rfl | exact Or.inr rfl)) (bs_cons (ss_set (i := 7) (eq_mod (eq_intc (by rfl) (by exact T.z_int) (eq_add (eq_add (eq_mul (eq_name 7 (pv 7)) eq_int) (eq_mul eq_int (eq_name 6 (pv 6)))) eq_int)) eq_int).ev sc_law_digits.nd rfl (by first | exact Or.inl rfl | exact Or.inr rfl)) (bs_one (ss_expr (ev_append (pv 3) (eq_mod (eq_intc (by rfl) (by exact T.z_int) (eq_div (eq_name 7 (pv 7)) eq_int)) eq_int).ev)))))))))))) (bs_one (ss_ret (ev_move 3 (pv 3))))))
theorem ok_law_box (T : Tx K mg) : FnOk Pr w K mg base CX0 3 T.f_law_box T.d_law_box ["script", "first", "last"] (spP K 3 (F_law_box)) :=
  fnP (P := []) T.F_law_box sc_law_box (by decide) fun cdv A outer sh H E hr =>
    (bs_one (ss_ret (ev_lst (av_cons (ev_frz (ev_call (ok_law_digits T) (hr.mono (by decide)) (by rfl) (by exact T.g_law_digits) T.F_law_digits.kp T.b_law_digits (cv_cons (ev_name 0 (pv 0)) (cv_cons (ev_name 1 (pv 1)) (cv_cons (ev_name 2 (pv 2)) cv_nil))))) (av_cons eq_int.ev av_nil)))))
theorem ok_law_draw (T : Tx K mg) : FnOk Pr w K mg base CX0 1 T.f_law_draw T.d_law_draw ["box", "many"] (spP K 2 (F_law_draw)) :=
  fnP (P := [0]) T.F_law_draw sc_law_draw (by decide) fun cdv A outer sh H E hr =>
    (bs_cons (ss_set (i := 2) (eq_ixS (eq_name 0 (pv 0)) eq_int).ev sc_law_draw.nd rfl (by first | exact Or.inl rfl | exact Or.inr rfl)) (bs_cons (ss_sub1 (hu_of hr) (pv 0) eq_int (eq_add (eq_name 2 (pv 2)) eq_int).ev) (bs_cons (ss_if ((ec_lt (eq_name 2 (pv 2)) (eq_len (by rfl) (by exact T.z_len) (eq_ixS (eq_name 0 (pv 0)) eq_int))).tst _).tv (bs_one (ss_ret (eq_mod (eq_intc (by rfl) (by exact T.z_int) (eq_ixS (eq_ixS (eq_name 0 (pv 0)) eq_int) (eq_name 2 (pv 2)))) (eq_name 1 (pv 1))).ev)) bs_nil) (bs_one (ss_ret eq_int.ev)))))
theorem ok_law_shuffled (T : Tx K mg) : FnOk Pr w K mg base CX0 2 T.f_law_shuffled T.d_law_shuffled ["box", "numbers"] (spP K 2 (F_law_shuffled)) :=
  fnP (P := [0]) T.F_law_shuffled sc_law_shuffled (by decide) fun cdv A outer sh H E hr =>
    (bs_cons (ss_set (i := 2) (ev_listQ (by rfl) (by exact T.z_list) (eq_name 1 (pv 1))) sc_law_shuffled.nd rfl (by first | exact Or.inl rfl | exact Or.inr rfl)) (bs_cons (ss_set (i := 3) (ev_lst av_nil) sc_law_shuffled.nd rfl (by first | exact Or.inl rfl | exact Or.inr rfl)) (bs_cons (ss_for PassesOwn.never rfl (iv_rng1 (by rfl) (by exact T.z_range) (eq_len (by rfl) (by exact T.z_len) (eq_name 1 (pv 1)))) (tg_name (i := 4) sc_law_shuffled.nd rfl (by first | exact Or.inl rfl | exact Or.inr rfl)) (bs_one (ss_expr (ev_append (pv 3) (ev_popAt (pv 2) (ev_mod (ev_intc (by rfl) (by exact T.z_int) (ev_call (ok_law_draw T) (hr.mono (by decide)) (by rfl) (by exact T.g_law_draw) T.F_law_draw.kp T.b_law_draw (cv_lend 0 (pv 0) (cv_cons eq_int.ev cv_nil)))) (eq_len (by rfl) (by exact T.z_len) (eq_name 2 (pv 2))).ev)))))) (bs_one (ss_ret (ev_move 3 (pv 3)))))))
theorem ok_law_numbers (T : Tx K mg) : FnOk Pr w K mg base CX0 1 T.f_law_numbers T.d_law_numbers ["heap"] (spP K 1 (F_law_numbers)) :=
  fnP (P := []) T.F_law_numbers sc_law_numbers (by decide) fun cdv A outer sh H E hr =>
    (bs_one (ss_ret (ev_lc (own := [("row", 1)]) (N := 2) rfl sc_law_numbers.nd rfl (iv_tup (eq_ixS (eq_name 0 (pv 0)) eq_int).ev) (blkOk_by (N := N_law_numbers) (sc := defScope s_law_numbers) (by decide +kernel)) (fun _ => (tg_name (i := 1) sc_law_numbers.nd rfl (by first | exact Or.inl rfl | exact Or.inr rfl))) (fun _ => ts_nil) (fun _ => (eq_ixS (eq_name 1 (pv 1)) eq_int).ev))))
theorem ok_law_of (T : Tx K mg) : FnOk Pr w K mg base CX0 1 T.f_law_of T.d_law_of ["heap", "number"] (spP K 2 (F_law_of)) :=
  fnP (P := []) T.F_law_of sc_law_of (by decide) fun cdv A outer sh H E hr =>
    (bs_cons (ss_for PassesOwn.never rfl (iv_tup (eq_ixS (eq_name 0 (pv 0)) eq_int).ev) (tg_name (i := 2) sc_law_of.nd rfl (by first | exact Or.inl rfl | exact Or.inr rfl)) (bs_one (ss_if ((ec_eq (hu64 hr) (eq_ixS (eq_name 2 (pv 2)) eq_int) (eq_name 1 (pv 1))).tst _).tv (bs_one (ss_ret (ev_move 2 (pv 2)))) bs_nil))) (bs_one (ss_ret eq_non.ev)))
theorem ok_law_body (T : Tx K mg) : FnOk Pr w K mg base CX0 1 T.f_law_body T.d_law_body ["box", "row"] (spP K 2 (F_law_body)) :=
  fnP (P := [0]) T.F_law_body sc_law_body (by decide) fun cdv A outer sh H E hr =>
    (bs_cons (ss_if ((ec_eq (hu64 hr) (eq_ixS (eq_name 1 (pv 1)) eq_int) eq_str).tst _).tv (bs_one (ss_ret (ev_listQ (by rfl) (by exact T.z_list) (eq_ixS (eq_name 1 (pv 1)) eq_int)))) bs_nil) (bs_cons ss_never (bs_cons ss_never (bs_cons ss_never (bs_cons ss_never (bs_one ss_never))))))
theorem ok_law_memory (T : Tx K mg) : FnOk Pr w K mg base CX0 3 T.f_law_memory T.d_law_memory ["box", "heap"] (spP K 2 (F_law_memory)) :=
  fnP (P := [0]) T.F_law_memory sc_law_memory (by decide) fun cdv A outer sh H E hr =>
    (bs_cons (ss_set (i := 2) (ev_lst av_nil) sc_law_memory.nd rfl (by first | exact Or.inl rfl | exact Or.inr rfl)) (bs_cons (ss_set (i := 3) ev_dict0 sc_law_memory.nd rfl (by first | exact Or.inl rfl | exact Or.inr rfl)) (bs_cons (ss_set (i := 4) eq_int.ev sc_law_memory.nd rfl (by first | exact Or.inl rfl | exact Or.inr rfl)) (bs_cons (ss_for PassesOwn.never rfl (iv_lst (ev_frz (ev_call (ok_law_shuffled T) (hr.mono (by decide)) (by rfl) (by exact T.g_law_shuffled) T.F_law_shuffled.kp T.b_law_shuffled (cv_lend 0 (pv 0) (cv_cons (ev_call (ok_law_numbers T) (hr.mono (by decide)) (by rfl) (by exact T.g_law_numbers) T.F_law_numbers.kp T.b_law_numbers (cv_cons (ev_name 1 (pv 1)) cv_nil)) cv_nil))))) (tg_name (i := 5) sc_law_memory.nd rfl (by first | exact Or.inl rfl | exact Or.inr rfl)) (bs_cons (ss_if (tv_eq (hu64 hr) (ev_call (ok_law_draw T) (hr.mono (by decide)) (by rfl) (by exact T.g_law_draw) T.F_law_draw.kp T.b_law_draw (cv_lend 0 (pv 0) (cv_cons eq_int.ev cv_nil))) eq_int.ev) (bs_cons (ss_set (i := 6) (ev_add eq_int.ev (ev_call (ok_law_draw T) (hr.mono (by decide)) (by rfl) (by exact T.g_law_draw) T.F_law_draw.kp T.b_law_draw (cv_lend 0 (pv 0) (cv_cons eq_int.ev cv_nil)))) sc_law_memory.nd rfl (by first | exact Or.inl rfl | exact Or.inr rfl)) (bs_cons (ss_expr (ev_append (pv 2) (ev_tup (av_cons eq_int.ev (av_cons (ev_name 6 (pv 6)) (av_cons (ev_frz (ev_lst av_nil)) av_nil)))))) (bs_one (ss_set (i := 4) (eq_add (eq_name 4 (pv 4)) (eq_name 6 (pv 6))).ev sc_law_memory.nd rfl (by first | exact Or.inl rfl | exact Or.inr rfl))))) bs_nil) (bs_cons (ss_set (i := 7) (ev_call (ok_law_of T) (hr.mono (by decide)) (by rfl) (by exact T.g_law_of) T.F_law_of.kp T.b_law_of (cv_cons (ev_name 1 (pv 1)) (cv_cons (ev_name 5 (pv 5)) cv_nil))) sc_law_memory.nd rfl (by first | exact Or.inl rfl | exact Or.inr rfl)) (bs_cons (ss_set (i := 8) (ev_call (ok_law_body T) (hr.mono (by decide)) (by rfl) (by exact T.g_law_body) T.F_law_body.kp T.b_law_body (cv_lend 0 (pv 0) (cv_cons (ev_name 7 (pv 7)) cv_nil))) sc_law_memory.nd rfl (by first | exact Or.inl rfl | exact Or.inr rfl)) (bs_cons (ss_expr (ev_append (pv 2) (ev_tup (av_cons (ev_frz (ev_index (ev_lst (av_cons eq_str.ev (av_cons eq_str.ev (av_cons eq_str.ev (av_cons eq_str.ev av_nil))))) (eq_ixS (eq_name 7 (pv 7)) eq_int).ev)) (av_cons (ev_name 5 (pv 5)) (av_cons (ev_name 8 (pv 8)) av_nil)))))) (bs_cons (ss_sub1 (hu_of hr) (pv 3) (eq_name 5 (pv 5)) (ev_name 4 (pv 4))) (bs_one (ss_set (i := 4) (eq_add (eq_add (eq_name 4 (pv 4)) eq_int) (eq_len (by rfl) (by exact T.z_len) (eq_name 8 (pv 8)))).ev sc_law_memory.nd rfl (by first | exact Or.inl rfl | exact Or.inr rfl))))))))) (bs_cons (ss_if (tv_eq (hu64 hr) (ev_call (ok_law_draw T) (hr.mono (by decide)) (by rfl) (by exact T.g_law_draw) T.F_law_draw.kp T.b_law_draw (cv_lend 0 (pv 0) (cv_cons eq_int.ev cv_nil))) eq_int.ev) (bs_one (ss_expr (ev_append (pv 2) (ev_tup (av_cons eq_int.ev (av_cons (ev_frz (ev_add eq_int.ev (ev_call (ok_law_draw T) (hr.mono (by decide)) (by rfl) (by exact T.g_law_draw) T.F_law_draw.kp T.b_law_draw (cv_lend 0 (pv 0) (cv_cons eq_int.ev cv_nil))))) (av_cons (ev_frz (ev_lst av_nil)) av_nil))))))) bs_nil) (bs_cons (ss_set (i := 9) (ev_lst av_nil) sc_law_memory.nd rfl (by first | exact Or.inl rfl | exact Or.inr rfl)) (bs_cons (ss_for PassesOwn.never rfl (iv_lst (ev_frz (ev_name 2 (pv 2)))) (tg_tup rfl (tgs_cons (tg_name (i := 10) sc_law_memory.nd rfl (by first | exact Or.inl rfl | exact Or.inr rfl)) (tgs_cons (tg_name (i := 5) sc_law_memory.nd rfl (by first | exact Or.inl rfl | exact Or.inr rfl)) (tgs_cons (tg_name (i := 8) sc_law_memory.nd rfl (by first | exact Or.inl rfl | exact Or.inr rfl)) tgs_nil)))) (bs_one (ss_if ((ec_eq (hu64 hr) (eq_name 10 (pv 10)) eq_int).tst _).tv (bs_one (ss_set (i := 9) (ev_cat (ev_cat (ev_name 9 (pv 9)) (ev_lst (av_cons eq_int.ev (av_cons (eq_sub (eq_name 5 (pv 5)) eq_int).ev av_nil)))) (ev_rep (ev_lst (av_cons eq_int.ev av_nil)) (eq_sub (eq_name 5 (pv 5)) eq_int).ev)) sc_law_memory.nd rfl (by first | exact Or.inl rfl | exact Or.inr rfl))) (bs_one (ss_set (i := 9) (ev_cat (ev_cat (ev_name 9 (pv 9)) (ev_lst (av_cons (ev_name 10 (pv 10)) (av_cons (ev_name 5 (pv 5)) (av_cons (eq_len (by rfl) (by exact T.z_len) (eq_name 8 (pv 8))).ev av_nil))))) (ev_lc (own := [("x", 12)]) (N := 13) rfl sc_law_memory.nd rfl (iv_lst (ev_frz (ev_name 8 (pv 8)))) (blkOk_by (N := N_law_memory) (sc := defScope s_law_memory) (by decide +kernel)) (fun _ => (tg_name (i := 12) sc_law_memory.nd rfl (by first | exact Or.inl rfl | exact Or.inr rfl))) (fun _ => ts_nil) (fun _ => (eq_if ((ec_isN (eq_name 12 (pv 12)) eq_non).tst _) (eq_neg eq_int) (eq_ixK (hu_of hr) (eq_name 3 (pv 3)) (eq_name 12 (pv 12)))).ev))) sc_law_memory.nd rfl (by first | exact Or.inl rfl | exact Or.inr rfl)))))) (bs_cons (ss_set (i := 11) (ev_tuple (by rfl) (by exact T.z_tuple) (ev_lc (own := [("x", 12)]) (N := 13) rfl sc_law_memory.nd rfl (iv_tup (eq_ixS (eq_name 1 (pv 1)) eq_int).ev) (blkOk_by (N := N_law_memory) (sc := defScope s_law_memory) (by decide +kernel)) (fun _ => (tg_name (i := 12) sc_law_memory.nd rfl (by first | exact Or.inl rfl | exact Or.inr rfl))) (fun _ => ts_nil) (fun _ => (eq_if ((ec_isN (eq_name 12 (pv 12)) eq_non).tst _) eq_non (eq_ixK (hu_of hr) (eq_name 3 (pv 3)) (eq_name 12 (pv 12)))).ev))) sc_law_memory.nd rfl (by first | exact Or.inl rfl | exact Or.inr rfl)) (bs_one (ss_ret (ev_tup (av_cons eq_str.ev (av_cons (eq_ixS (eq_name 1 (pv 1)) eq_int).ev (av_cons (ev_name 11 (pv 11)) (av_cons (eq_ixS (eq_name 1 (pv 1)) eq_int).ev (av_cons (ev_frz (ev_tupleQ (by rfl) (by exact T.z_tuple) (eq_name 9 (pv 9)))) (av_cons (eq_ixS (eq_name 1 (pv 1)) eq_int).ev av_nil)))))))))))))))))
theorem ok_law_blocks (T : Tx K mg) : FnOk Pr w K mg base CX0 1 T.f_law_blocks T.d_law_blocks ["cells"] (spP K 1 (F_law_blocks)) :=
  fnP (P := []) T.F_law_blocks sc_law_blocks (by decide) fun cdv A outer sh H E hr =>
    (bs_cons (ss_set (i := 1) (ev_lst av_nil) sc_law_blocks.nd rfl (by first | exact Or.inl rfl | exact Or.inr rfl)) (bs_cons (ss_set (i := 2) eq_int.ev sc_law_blocks.nd rfl (by first | exact Or.inl rfl | exact Or.inr rfl)) (bs_cons (ss_for PassesOwn.never rfl (iv_rng1 (by rfl) (by exact T.z_range) (eq_len (by rfl) (by exact T.z_len) (eq_name 0 (pv 0)))) (tg_name (i := 3) sc_law_blocks.nd rfl (by first | exact Or.inl rfl | exact Or.inr rfl)) (bs_one (ss_if ((ec_lt (eq_name 2 (pv 2)) (eq_len (by rfl) (by exact T.z_len) (eq_name 0 (pv 0)))).tst _).tv (bs_cons (ss_set (i := 4) (eq_add eq_int (eq_ixS (eq_name 0 (pv 0)) (eq_add (eq_name 2 (pv 2)) eq_int))).ev sc_law_blocks.nd rfl (by first | exact Or.inl rfl | exact Or.inr rfl)) (bs_cons (ss_if ((ec_ne (hu64 hr) (eq_ixS (eq_name 0 (pv 0)) (eq_name 2 (pv 2))) eq_int).tst _).tv (bs_one (ss_set (i := 4) (eq_add eq_int (eq_ixS (eq_name 0 (pv 0)) (eq_add (eq_name 2 (pv 2)) eq_int))).ev sc_law_blocks.nd rfl (by first | exact Or.inl rfl | exact Or.inr rfl))) bs_nil) (bs_cons (ss_expr (ev_append (pv 1) (ev_tup (av_cons (ev_name 2 (pv 2)) (av_cons (eq_ixS (eq_name 0 (pv 0)) (eq_name 2 (pv 2))).ev (av_cons (ev_name 4 (pv 4)) av_nil)))))) (bs_one (ss_set (i := 2) (eq_add (eq_name 2 (pv 2)) (eq_name 4 (pv 4))).ev sc_law_blocks.nd rfl (by first | exact Or.inl rfl | exact Or.inr rfl)))))) bs_nil))) (bs_one (ss_ret (ev_move 1 (pv 1)))))))
theorem ok_law_same (T : Tx K mg) : ∀ n : Nat, FnOk Pr w K mg base CX0 (1 + n) T.f_law_same T.d_law_same ["actual", "expected"] (spP K 2 (F_law_same n))
  | 0 => fnP (P := []) T.F_law_same sc_law_same (by decide) fun cdv A outer sh H E hr => bs_never
  | n + 1 => have ih := ok_law_same T n
    fnP (k := 1 + n) (P := []) T.F_law_same sc_law_same (by decide) fun cdv A outer sh H E hr =>
    (bs_cons (ss_if (tq_truth (eq_isi (T := "tuple") (by rfl) (by exact T.z_isinstance) (pe_bltn (by rfl) (by exact T.z_tuple) (by decide +kernel) rfl) (eq_name 1 (pv 1)))).tv (bs_cons (ss_if (wq_or (tq_not (tq_truth (eq_isi (T := "tuple") (by rfl) (by exact T.z_isinstance) (pe_bltn (by rfl) (by exact T.z_tuple) (by decide +kernel) rfl) (eq_name 0 (pv 0))))) (wq_or1 ((ec_ne (hu64 hr) (eq_len (by rfl) (by exact T.z_len) (eq_name 0 (pv 0))) (eq_len (by rfl) (by exact T.z_len) (eq_name 1 (pv 1)))).tst _))).tq.tv (bs_one (ss_ret eq_bl.ev)) bs_nil) (bs_cons (ss_for PassesOwn.never rfl (iv_rng1 (by rfl) (by exact T.z_range) (eq_len (by rfl) (by exact T.z_len) (eq_name 1 (pv 1)))) (tg_name (i := 2) sc_law_same.nd rfl (by first | exact Or.inl rfl | exact Or.inr rfl)) (bs_one (ss_if (tv_not (tv_truth (ev_call ih (hr.mono (by omega)) (by rfl) (by exact T.g_law_same) T.F_law_same.kp T.b_law_same (cv_cons (eq_ixS (eq_name 0 (pv 0)) (eq_name 2 (pv 2))).ev (cv_cons (eq_ixS (eq_name 1 (pv 1)) (eq_name 2 (pv 2))).ev cv_nil))))) (bs_one (ss_ret eq_bl.ev)) bs_nil))) (bs_one (ss_ret eq_bl.ev)))) bs_nil) (bs_cons (ss_if ((ec_isN (eq_name 1 (pv 1)) eq_non).tst _).tv (bs_one (ss_ret ((ec_isN (eq_name 0 (pv 0)) eq_non).val _).ev)) bs_nil) (bs_cons (ss_if (tq_truth (eq_isi (T := "bool") (by rfl) (by exact T.z_isinstance) (pe_bltn (by rfl) (by exact T.z_bool) (by decide +kernel) rfl) (eq_name 1 (pv 1)))).tv (bs_one (ss_ret (eq_and (eq_isi (T := "bool") (by rfl) (by exact T.z_isinstance) (pe_bltn (by rfl) (by exact T.z_bool) (by decide +kernel) rfl) (eq_name 0 (pv 0))) (eq_one ((ec_eq (hu64 hr) (eq_name 0 (pv 0)) (eq_name 1 (pv 1))).val _))).ev)) bs_nil) (bs_cons (ss_if (tq_truth (eq_isi (T := "int") (by rfl) (by exact T.z_isinstance) (pe_bltn (by rfl) (by exact T.z_int) (by decide +kernel) rfl) (eq_name 1 (pv 1)))).tv (bs_one (ss_ret (eq_and (eq_isi (T := "int") (by rfl) (by exact T.z_isinstance) (pe_bltn (by rfl) (by exact T.z_int) (by decide +kernel) rfl) (eq_name 0 (pv 0))) (eq_and (eq_not (eq_isi (T := "bool") (by rfl) (by exact T.z_isinstance) (pe_bltn (by rfl) (by exact T.z_bool) (by decide +kernel) rfl) (eq_name 0 (pv 0)))) (eq_one ((ec_eq (hu64 hr) (eq_name 0 (pv 0)) (eq_name 1 (pv 1))).val _)))).ev)) bs_nil) (bs_one (ss_ret (eq_and (eq_isi (T := "str") (by rfl) (by exact T.z_isinstance) (pe_bltn (by rfl) (by exact T.z_str) (by decide +kernel) rfl) (eq_name 0 (pv 0))) (eq_one ((ec_eq (hu64 hr) (eq_name 0 (pv 0)) (eq_name 1 (pv 1))).val _))).ev))))))
theorem ok_law (T : Tx K mg) : FnOk Pr w K mg base CX0 5 T.f_law T.d_law ["script"] (spP K 1 (F_law T.C_Reversal)) :=
  fnP (P := []) T.F_law sc_law (by decide) fun cdv A outer sh H E hr =>
    (bs_cons (ss_set (i := 1) (ev_call (ok_law_box T) (hr.mono (by decide)) (by rfl) (by exact T.g_law_box) T.F_law_box.kp T.b_law_box (cv_cons (ev_name 0 (pv 0)) (cv_cons eq_int.ev (cv_cons eq_int.ev cv_nil)))) sc_law.nd rfl (by first | exact Or.inl rfl | exact Or.inr rfl)) (bs_cons (ss_for PassesOwn.never rfl (iv_rng1 (by rfl) (by exact T.z_range) eq_int) (tg_name (i := 2) sc_law.nd rfl (by first | exact Or.inl rfl | exact Or.inr rfl)) (bs_cons (ss_set (i := 3) (ev_add eq_int.ev (ev_call (ok_law_draw T) (hr.mono (by decide)) (by rfl) (by exact T.g_law_draw) T.F_law_draw.kp T.b_law_draw (cv_lend 1 (pv 1) (cv_cons eq_int.ev cv_nil)))) sc_law.nd rfl (by first | exact Or.inl rfl | exact Or.inr rfl)) (bs_cons (ss_set (i := 4) (ev_lst av_nil) sc_law.nd rfl (by first | exact Or.inl rfl | exact Or.inr rfl)) (bs_cons (ss_for PassesOwn.never rfl (iv_rng1 (by rfl) (by exact T.z_range) (eq_name 3 (pv 3))) (tg_name (i := 5) sc_law.nd rfl (by first | exact Or.inl rfl | exact Or.inr rfl)) (bs_cons (ss_setLc (i := 6) (own := [("k", 10)]) (N := 15) rfl sc_law.nd rfl rfl rfl (sw_true rfl rfl rfl (by decide +kernel)) (iv_rng1V (by rfl) (by exact T.z_range) (ev_call (ok_law_draw T) (hr.mono (by decide)) (by rfl) (by exact T.g_law_draw) T.F_law_draw.kp T.b_law_draw (cv_lend 1 (pv 1) (cv_cons eq_int.ev cv_nil)))) (blkOk_by (N := N_law) (sc := defScope s_law) (by decide +kernel)) (fun _ => (tg_name (i := 10) sc_law.nd rfl (by first | exact Or.inl rfl | exact Or.inr rfl))) (fun _ => ts_nil) (fun _ => (ev_ixS (ev_lst (av_cons eq_non.ev (av_cons (eq_mod (eq_intc (by rfl) (by exact T.z_int) (eq_add (eq_name 5 (pv 5)) eq_int)) (eq_name 3 (pv 3))).ev (av_cons (ev_frz (ev_call (ok_law_draw T) (hr.mono (by decide)) (by rfl) (by exact T.g_law_draw) T.F_law_draw.kp T.b_law_draw (cv_lend 1 (pv 1) (cv_cons (ev_name 3 (pv 3)) cv_nil)))) (av_cons eq_int.ev av_nil))))) (ev_call (ok_law_draw T) (hr.mono (by decide)) (by rfl) (by exact T.g_law_draw) T.F_law_draw.kp T.b_law_draw (cv_lend 1 (pv 1) (cv_cons eq_int.ev cv_nil)))))) (bs_one (ss_expr (ev_append (pv 4) (ev_tup (av_cons eq_str.ev (av_cons (ev_name 5 (pv 5)) (av_cons (ev_frz (ev_tupleQ (by rfl) (by exact T.z_tuple) (eq_name 6 (pv 6)))) av_nil))))))))) (bs_cons (ss_set (i := 7) (ev_tup (av_cons eq_str.ev (av_cons (ev_name 3 (pv 3)) (av_cons (ev_frz (ev_tup (av_cons (ev_frz (ev_call (ok_law_draw T) (hr.mono (by decide)) (by rfl) (by exact T.g_law_draw) T.F_law_draw.kp T.b_law_draw (cv_lend 1 (pv 1) (cv_cons (ev_name 3 (pv 3)) cv_nil)))) (av_cons eq_non.ev (av_cons (ev_frz (ev_call (ok_law_draw T) (hr.mono (by decide)) (by rfl) (by exact T.g_law_draw) T.F_law_draw.kp T.b_law_draw (cv_lend 1 (pv 1) (cv_cons (ev_name 3 (pv 3)) cv_nil)))) av_nil))))) (av_cons (ev_frz (ev_tup av_nil)) (av_cons (ev_frz (ev_tupleQ (by rfl) (by exact T.z_tuple) (eq_name 4 (pv 4)))) (av_cons (ev_frz (ev_tup av_nil)) av_nil))))))) sc_law.nd rfl (by first | exact Or.inl rfl | exact Or.inr rfl)) (bs_cons (ss_set (i := 8) (ev_call (ok_law_memory T) (hr.mono (by decide)) (by rfl) (by exact T.g_law_memory) T.F_law_memory.kp T.b_law_memory (cv_lend 1 (pv 1) (cv_cons (ev_name 7 (pv 7)) cv_nil))) sc_law.nd rfl (by first | exact Or.inl rfl | exact Or.inr rfl)) (bs_cons (ss_set (i := 9) (ev_lc (own := [("x", 5)]) (N := 15) rfl sc_law.nd rfl (iv_tup (eq_ixS (eq_name 7 (pv 7)) eq_int).ev) (blkOk_by (N := N_law) (sc := defScope s_law) (by decide +kernel)) (fun _ => (tg_name (i := 5) sc_law.nd rfl (by first | exact Or.inl rfl | exact Or.inr rfl))) (fun _ => (ts_one ((ec_notN (eq_name 5 (pv 5)) eq_non).tst _).tv)) (fun _ => (ev_name 5 (pv 5)))) sc_law.nd rfl (by first | exact Or.inl rfl | exact Or.inr rfl)) (bs_cons (ss_for PassesOwn.never rfl (iv_rng1 (by rfl) (by exact T.z_range) eq_int) (tg_name (i := 10) sc_law.nd rfl (by first | exact Or.inl rfl | exact Or.inr rfl)) (bs_one (ss_if ((ec_lt (eq_name 10 (pv 10)) (eq_len (by rfl) (by exact T.z_len) (eq_name 9 (pv 9)))).tst _).tv (bs_one (ss_set (i := 9) (ev_cat (ev_name 9 (pv 9)) (ev_lc (own := [("x", 5)]) (N := 15) rfl sc_law.nd rfl (iv_tup (eq_ixS (eq_ixS (eq_name 4 (pv 4)) (eq_ixS (eq_name 9 (pv 9)) (eq_name 10 (pv 10)))) eq_int).ev) (blkOk_by (N := N_law) (sc := defScope s_law) (by decide +kernel)) (fun _ => (tg_name (i := 5) sc_law.nd rfl (by first | exact Or.inl rfl | exact Or.inr rfl))) (fun _ => (ts_one (wq_and ((ec_notN (eq_name 5 (pv 5)) eq_non).tst _) (wq_and1 ((ec_notInS (eq_name 5 (pv 5)) (eq_name 9 (pv 9))).tst _))).tq.tv)) (fun _ => (ev_name 5 (pv 5))))) sc_law.nd rfl (by first | exact Or.inl rfl | exact Or.inr rfl))) bs_nil))) (bs_cons (ss_set (i := 11) (ev_lst av_nil) sc_law.nd rfl (by first | exact Or.inl rfl | exact Or.inr rfl)) (bs_cons (ss_for PassesOwn.never rfl (iv_lst (ev_frz (ev_call (ok_law_blocks T) (hr.mono (by decide)) (by rfl) (by exact T.g_law_blocks) T.F_law_blocks.kp T.b_law_blocks (cv_cons (eq_ixS (eq_name 8 (pv 8)) eq_int).ev cv_nil)))) (tg_tup rfl (tgs_cons (tg_name (i := 12) sc_law.nd rfl (by first | exact Or.inl rfl | exact Or.inr rfl)) (tgs_cons (tg_name (i := 13) sc_law.nd rfl (by first | exact Or.inl rfl | exact Or.inr rfl)) (tgs_cons (tg_name (i := 14) sc_law.nd rfl (by first | exact Or.inl rfl | exact Or.inr rfl)) tgs_nil)))) (bs_one (ss_if (wq_and ((ec_ne (hu64 hr) (eq_name 13 (pv 13)) eq_int).tst _) (wq_and1 ((ec_inS (eq_ixS (eq_ixS (eq_name 8 (pv 8)) eq_int) (eq_add (eq_name 12 (pv 12)) eq_int)) (eq_name 9 (pv 9))).tst _))).tq.tv (bs_one (ss_expr (ev_append (pv 11) (ev_name 12 (pv 12))))) bs_nil))) (bs_one (ss_if (wv_or (tv_not (tv_truth (ev_call (ok_law_same T 3) (hr.mono (by omega)) (by rfl) (by exact T.g_law_same) T.F_law_same.kp T.b_law_same (cv_cons (ev_call (ok_marked T) (hr.mono (by decide)) (by rfl) (by exact T.g_marked) T.F_marked.kp T.b_marked (cv_cons (ev_name 8 (pv 8)) cv_nil)) (cv_cons (ev_tupleQ (by rfl) (by exact T.z_tuple) (eq_name 11 (pv 11))) cv_nil))))) (wv_or1 (tv_not (tv_truth (ev_call (ok_law_same T 3) (hr.mono (by omega)) (by rfl) (by exact T.g_law_same) T.F_law_same.kp T.b_law_same (cv_cons (ev_call (ok_marked_by_turning T) (hr.mono (by decide)) (by rfl) (by exact T.g_marked_by_turning) T.F_marked_by_turning.kp T.b_marked_by_turning (cv_cons (ev_name 8 (pv 8)) cv_nil)) (cv_cons (ev_tup (av_cons (ev_frz (ev_tupleQ (by rfl) (by exact T.z_tuple) (eq_name 11 (pv 11)))) (av_cons (eq_ixS (eq_name 8 (pv 8)) eq_int).ev av_nil))) cv_nil))))))).tv (bs_one (ss_ret eq_bl.ev)) bs_nil)))))))))))) (bs_one (ss_ret eq_bl.ev))))
end
def tx_mk {K : PySem.W.Frag} {h : Heap} {mg : Str → Option Value} {f_references f_leads_to f_opened f_marked f_Reversal___init__ f_Reversal_begin f_Reversal_next_field f_Reversal_mark f_Reversal_led f_marked_by_turning f_law_cell f_law_digits f_law_box f_law_draw f_law_shuffled f_law_numbers f_law_of f_law_body f_law_memory f_law_blocks f_law_same f_law C_Reversal : Addr} {k_CELLS k_HEAD k_NOTHING : Tok} (X : K.In h) (G : h.Ns mainGlobals mg) {od1 an1 od2 an2 od3 an3 od4 an4 od5 an5 od6 an6 od7 an7 od8 an8 od9 an9 od10 an10 od11 an11 od12 an12 od13 an13 od14 an14 od15 an15 od16 an16 od17 an17 od18 an18 od19 an19 od20 an20 od21 an21 od22 an22 : Option Addr} {sl1 sl2 sl3 sl4 sl5 sl6 sl7 sl8 sl9 sl10 sl11 sl12 sl13 sl14 sl15 sl16 sl17 sl18 sl19 sl20 sl21 sl22 : Array (Option Value)} {oc1 kV1 dc1 pm1 cd1 ct1 oc2 kV2 dc2 pm2 cd2 ct2 oc3 kV3 dc3 pm3 cd3 ct3 oc4 kV4 dc4 pm4 cd4 ct4 oc5 kV5 dc5 pm5 cd5 ct5 oc6 kV6 dc6 pm6 cd6 ct6 oc7 kV7 dc7 pm7 cd7 ct7 oc8 kV8 dc8 pm8 cd8 ct8 oc9 kV9 dc9 pm9 cd9 ct9 oc10 kV10 dc10 pm10 cd10 ct10 oc11 kV11 dc11 pm11 cd11 ct11 oc12 kV12 dc12 pm12 cd12 ct12 oc13 kV13 dc13 pm13 cd13 ct13 oc14 kV14 dc14 pm14 cd14 ct14 oc15 kV15 dc15 pm15 cd15 ct15 oc16 kV16 dc16 pm16 cd16 ct16 oc17 kV17 dc17 pm17 cd17 ct17 oc18 kV18 dc18 pm18 cd18 ct18 oc19 kV19 dc19 pm19 cd19 ct19 oc20 kV20 dc20 pm20 cd20 ct20 oc21 kV21 dc21 pm21 cd21 ct21 oc22 kV22 dc22 pm22 cd22 ct22 : Value}
    (z_bool : PySem.W.nsIn K mainGlobals "bool" = some none)
    (z_int : PySem.W.nsIn K mainGlobals "int" = some none)
    (z_isinstance : PySem.W.nsIn K mainGlobals "isinstance" = some none)
    (z_len : PySem.W.nsIn K mainGlobals "len" = some none)
    (z_list : PySem.W.nsIn K mainGlobals "list" = some none)
    (z_range : PySem.W.nsIn K mainGlobals "range" = some none)
    (z_sorted : PySem.W.nsIn K mainGlobals "sorted" = some none)
    (z_str : PySem.W.nsIn K mainGlobals "str" = some none)
    (z_tuple : PySem.W.nsIn K mainGlobals "tuple" = some none)
    (c_CELLS : PySem.W.nsIn K mainGlobals "CELLS" = some (some (.int 4 k_CELLS)))
    (c_HEAD : PySem.W.nsIn K mainGlobals "HEAD" = some (some (.int 3 k_HEAD)))
    (c_NOTHING : PySem.W.nsIn K mainGlobals "NOTHING" = some (some (.int (-1) k_NOTHING)))
    (aC_Reversal : PySem.W.nsIn K mainGlobals "Reversal" = some (some (.ref C_Reversal)))
    (a_references : PySem.W.nsIn K mainGlobals "references" = some (some (.ref f_references)))
    (l_references : K.lookup f_references = some ⟨oc1, od1, .func (PySem.W.fnOf "references" "references" (defArgs s_references) (defBody s_references) (defScope s_references) .none kV1 dc1 pm1 an1 cd1 ct1), sl1⟩)
    (cc_references : PySem.W.codeIn K cd1 "references" = true)
    (kk_references : PySem.W.keepIn K (.ref f_references) = true)
    (a_leads_to : PySem.W.nsIn K mainGlobals "leads_to" = some (some (.ref f_leads_to)))
    (l_leads_to : K.lookup f_leads_to = some ⟨oc2, od2, .func (PySem.W.fnOf "leads_to" "leads_to" (defArgs s_leads_to) (defBody s_leads_to) (defScope s_leads_to) .none kV2 dc2 pm2 an2 cd2 ct2), sl2⟩)
    (cc_leads_to : PySem.W.codeIn K cd2 "leads_to" = true)
    (kk_leads_to : PySem.W.keepIn K (.ref f_leads_to) = true)
    (a_opened : PySem.W.nsIn K mainGlobals "opened" = some (some (.ref f_opened)))
    (l_opened : K.lookup f_opened = some ⟨oc3, od3, .func (PySem.W.fnOf "opened" "opened" (defArgs s_opened) (defBody s_opened) (defScope s_opened) .none kV3 dc3 pm3 an3 cd3 ct3), sl3⟩)
    (cc_opened : PySem.W.codeIn K cd3 "opened" = true)
    (kk_opened : PySem.W.keepIn K (.ref f_opened) = true)
    (a_marked : PySem.W.nsIn K mainGlobals "marked" = some (some (.ref f_marked)))
    (l_marked : K.lookup f_marked = some ⟨oc4, od4, .func (PySem.W.fnOf "marked" "marked" (defArgs s_marked) (defBody s_marked) (defScope s_marked) .none kV4 dc4 pm4 an4 cd4 ct4), sl4⟩)
    (cc_marked : PySem.W.codeIn K cd4 "marked" = true)
    (kk_marked : PySem.W.keepIn K (.ref f_marked) = true)
    (a_Reversal___init__ : PySem.W.findIn K (.ref C_Reversal) "__init__" = some (some (.ref f_Reversal___init__)))
    (i_Reversal___init__ : PySem.W.isFn K (.ref f_Reversal___init__) = true)
    (l_Reversal___init__ : K.lookup f_Reversal___init__ = some ⟨oc5, od5, .func (PySem.W.fnOf "__init__" "Reversal.__init__" (defArgs s_Reversal___init__) (defBody s_Reversal___init__) (defScope s_Reversal___init__) .none kV5 dc5 pm5 an5 cd5 ct5), sl5⟩)
    (cc_Reversal___init__ : PySem.W.codeIn K cd5 "Reversal.__init__" = true)
    (kk_Reversal___init__ : PySem.W.keepIn K (.ref f_Reversal___init__) = true)
    (a_Reversal_begin : PySem.W.findIn K (.ref C_Reversal) "begin" = some (some (.ref f_Reversal_begin)))
    (i_Reversal_begin : PySem.W.isFn K (.ref f_Reversal_begin) = true)
    (l_Reversal_begin : K.lookup f_Reversal_begin = some ⟨oc6, od6, .func (PySem.W.fnOf "begin" "Reversal.begin" (defArgs s_Reversal_begin) (defBody s_Reversal_begin) (defScope s_Reversal_begin) .none kV6 dc6 pm6 an6 cd6 ct6), sl6⟩)
    (cc_Reversal_begin : PySem.W.codeIn K cd6 "Reversal.begin" = true)
    (kk_Reversal_begin : PySem.W.keepIn K (.ref f_Reversal_begin) = true)
    (a_Reversal_next_field : PySem.W.findIn K (.ref C_Reversal) "next_field" = some (some (.ref f_Reversal_next_field)))
    (i_Reversal_next_field : PySem.W.isFn K (.ref f_Reversal_next_field) = true)
    (l_Reversal_next_field : K.lookup f_Reversal_next_field = some ⟨oc7, od7, .func (PySem.W.fnOf "next_field" "Reversal.next_field" (defArgs s_Reversal_next_field) (defBody s_Reversal_next_field) (defScope s_Reversal_next_field) .none kV7 dc7 pm7 an7 cd7 ct7), sl7⟩)
    (cc_Reversal_next_field : PySem.W.codeIn K cd7 "Reversal.next_field" = true)
    (kk_Reversal_next_field : PySem.W.keepIn K (.ref f_Reversal_next_field) = true)
    (a_Reversal_mark : PySem.W.findIn K (.ref C_Reversal) "mark" = some (some (.ref f_Reversal_mark)))
    (i_Reversal_mark : PySem.W.isFn K (.ref f_Reversal_mark) = true)
    (l_Reversal_mark : K.lookup f_Reversal_mark = some ⟨oc8, od8, .func (PySem.W.fnOf "mark" "Reversal.mark" (defArgs s_Reversal_mark) (defBody s_Reversal_mark) (defScope s_Reversal_mark) .none kV8 dc8 pm8 an8 cd8 ct8), sl8⟩)
    (cc_Reversal_mark : PySem.W.codeIn K cd8 "Reversal.mark" = true)
    (kk_Reversal_mark : PySem.W.keepIn K (.ref f_Reversal_mark) = true)
    (a_Reversal_led : PySem.W.findIn K (.ref C_Reversal) "led" = some (some (.ref f_Reversal_led)))
    (i_Reversal_led : PySem.W.isFn K (.ref f_Reversal_led) = true)
    (l_Reversal_led : K.lookup f_Reversal_led = some ⟨oc9, od9, .func (PySem.W.fnOf "led" "Reversal.led" (defArgs s_Reversal_led) (defBody s_Reversal_led) (defScope s_Reversal_led) .none kV9 dc9 pm9 an9 cd9 ct9), sl9⟩)
    (cc_Reversal_led : PySem.W.codeIn K cd9 "Reversal.led" = true)
    (kk_Reversal_led : PySem.W.keepIn K (.ref f_Reversal_led) = true)
    (a_marked_by_turning : PySem.W.nsIn K mainGlobals "marked_by_turning" = some (some (.ref f_marked_by_turning)))
    (l_marked_by_turning : K.lookup f_marked_by_turning = some ⟨oc10, od10, .func (PySem.W.fnOf "marked_by_turning" "marked_by_turning" (defArgs s_marked_by_turning) (defBody s_marked_by_turning) (defScope s_marked_by_turning) .none kV10 dc10 pm10 an10 cd10 ct10), sl10⟩)
    (cc_marked_by_turning : PySem.W.codeIn K cd10 "marked_by_turning" = true)
    (kk_marked_by_turning : PySem.W.keepIn K (.ref f_marked_by_turning) = true)
    (a_law_cell : PySem.W.nsIn K mainGlobals "_law_cell" = some (some (.ref f_law_cell)))
    (l_law_cell : K.lookup f_law_cell = some ⟨oc11, od11, .func (PySem.W.fnOf "_law_cell" "_law_cell" (defArgs s_law_cell) (defBody s_law_cell) (defScope s_law_cell) .none kV11 dc11 pm11 an11 cd11 ct11), sl11⟩)
    (cc_law_cell : PySem.W.codeIn K cd11 "_law_cell" = true)
    (kk_law_cell : PySem.W.keepIn K (.ref f_law_cell) = true)
    (a_law_digits : PySem.W.nsIn K mainGlobals "_law_digits" = some (some (.ref f_law_digits)))
    (l_law_digits : K.lookup f_law_digits = some ⟨oc12, od12, .func (PySem.W.fnOf "_law_digits" "_law_digits" (defArgs s_law_digits) (defBody s_law_digits) (defScope s_law_digits) .none kV12 dc12 pm12 an12 cd12 ct12), sl12⟩)
    (cc_law_digits : PySem.W.codeIn K cd12 "_law_digits" = true)
    (kk_law_digits : PySem.W.keepIn K (.ref f_law_digits) = true)
    (a_law_box : PySem.W.nsIn K mainGlobals "_law_box" = some (some (.ref f_law_box)))
    (l_law_box : K.lookup f_law_box = some ⟨oc13, od13, .func (PySem.W.fnOf "_law_box" "_law_box" (defArgs s_law_box) (defBody s_law_box) (defScope s_law_box) .none kV13 dc13 pm13 an13 cd13 ct13), sl13⟩)
    (cc_law_box : PySem.W.codeIn K cd13 "_law_box" = true)
    (kk_law_box : PySem.W.keepIn K (.ref f_law_box) = true)
    (a_law_draw : PySem.W.nsIn K mainGlobals "_law_draw" = some (some (.ref f_law_draw)))
    (l_law_draw : K.lookup f_law_draw = some ⟨oc14, od14, .func (PySem.W.fnOf "_law_draw" "_law_draw" (defArgs s_law_draw) (defBody s_law_draw) (defScope s_law_draw) .none kV14 dc14 pm14 an14 cd14 ct14), sl14⟩)
    (cc_law_draw : PySem.W.codeIn K cd14 "_law_draw" = true)
    (kk_law_draw : PySem.W.keepIn K (.ref f_law_draw) = true)
    (a_law_shuffled : PySem.W.nsIn K mainGlobals "_law_shuffled" = some (some (.ref f_law_shuffled)))
    (l_law_shuffled : K.lookup f_law_shuffled = some ⟨oc15, od15, .func (PySem.W.fnOf "_law_shuffled" "_law_shuffled" (defArgs s_law_shuffled) (defBody s_law_shuffled) (defScope s_law_shuffled) .none kV15 dc15 pm15 an15 cd15 ct15), sl15⟩)
    (cc_law_shuffled : PySem.W.codeIn K cd15 "_law_shuffled" = true)
    (kk_law_shuffled : PySem.W.keepIn K (.ref f_law_shuffled) = true)
    (a_law_numbers : PySem.W.nsIn K mainGlobals "_law_numbers" = some (some (.ref f_law_numbers)))
    (l_law_numbers : K.lookup f_law_numbers = some ⟨oc16, od16, .func (PySem.W.fnOf "_law_numbers" "_law_numbers" (defArgs s_law_numbers) (defBody s_law_numbers) (defScope s_law_numbers) .none kV16 dc16 pm16 an16 cd16 ct16), sl16⟩)
    (cc_law_numbers : PySem.W.codeIn K cd16 "_law_numbers" = true)
    (kk_law_numbers : PySem.W.keepIn K (.ref f_law_numbers) = true)
    (a_law_of : PySem.W.nsIn K mainGlobals "_law_of" = some (some (.ref f_law_of)))
    (l_law_of : K.lookup f_law_of = some ⟨oc17, od17, .func (PySem.W.fnOf "_law_of" "_law_of" (defArgs s_law_of) (defBody s_law_of) (defScope s_law_of) .none kV17 dc17 pm17 an17 cd17 ct17), sl17⟩)
    (cc_law_of : PySem.W.codeIn K cd17 "_law_of" = true)
    (kk_law_of : PySem.W.keepIn K (.ref f_law_of) = true)
    (a_law_body : PySem.W.nsIn K mainGlobals "_law_body" = some (some (.ref f_law_body)))
    (l_law_body : K.lookup f_law_body = some ⟨oc18, od18, .func (PySem.W.fnOf "_law_body" "_law_body" (defArgs s_law_body) (defBody s_law_body) (defScope s_law_body) .none kV18 dc18 pm18 an18 cd18 ct18), sl18⟩)
    (cc_law_body : PySem.W.codeIn K cd18 "_law_body" = true)
    (kk_law_body : PySem.W.keepIn K (.ref f_law_body) = true)
    (a_law_memory : PySem.W.nsIn K mainGlobals "_law_memory" = some (some (.ref f_law_memory)))
    (l_law_memory : K.lookup f_law_memory = some ⟨oc19, od19, .func (PySem.W.fnOf "_law_memory" "_law_memory" (defArgs s_law_memory) (defBody s_law_memory) (defScope s_law_memory) .none kV19 dc19 pm19 an19 cd19 ct19), sl19⟩)
    (cc_law_memory : PySem.W.codeIn K cd19 "_law_memory" = true)
    (kk_law_memory : PySem.W.keepIn K (.ref f_law_memory) = true)
    (a_law_blocks : PySem.W.nsIn K mainGlobals "_law_blocks" = some (some (.ref f_law_blocks)))
    (l_law_blocks : K.lookup f_law_blocks = some ⟨oc20, od20, .func (PySem.W.fnOf "_law_blocks" "_law_blocks" (defArgs s_law_blocks) (defBody s_law_blocks) (defScope s_law_blocks) .none kV20 dc20 pm20 an20 cd20 ct20), sl20⟩)
    (cc_law_blocks : PySem.W.codeIn K cd20 "_law_blocks" = true)
    (kk_law_blocks : PySem.W.keepIn K (.ref f_law_blocks) = true)
    (a_law_same : PySem.W.nsIn K mainGlobals "_law_same" = some (some (.ref f_law_same)))
    (l_law_same : K.lookup f_law_same = some ⟨oc21, od21, .func (PySem.W.fnOf "_law_same" "_law_same" (defArgs s_law_same) (defBody s_law_same) (defScope s_law_same) .none kV21 dc21 pm21 an21 cd21 ct21), sl21⟩)
    (cc_law_same : PySem.W.codeIn K cd21 "_law_same" = true)
    (kk_law_same : PySem.W.keepIn K (.ref f_law_same) = true)
    (a_law : PySem.W.nsIn K mainGlobals "law" = some (some (.ref f_law)))
    (l_law : K.lookup f_law = some ⟨oc22, od22, .func (PySem.W.fnOf "law" "law" (defArgs s_law) (defBody s_law) (defScope s_law) .none kV22 dc22 pm22 an22 cd22 ct22), sl22⟩)
    (cc_law : PySem.W.codeIn K cd22 "law" = true)
    (kk_law : PySem.W.keepIn K (.ref f_law) = true)
    (pg_Reversal : PySem.W.plainGet K C_Reversal Str.empty = true)
    (hd_Reversal : PySem.W.hasDictIn K C_Reversal = true)
    (po_Reversal : PySem.W.plainOver K C_Reversal = true)
    (sa_Reversal : PySem.W.findIn K (.ref C_Reversal) "__setattr__" = some (some (.builtin "object.__setattr__")))
    (mk_Reversal : PySem.W.makesIn K C_Reversal = true)
    (kc_Reversal : PySem.W.keepIn K (.ref C_Reversal) = true)
    (na_Reversal_cells : PySem.W.findIn K (.ref C_Reversal) "cells" = some none)
    (na_Reversal_done : PySem.W.findIn K (.ref C_Reversal) "done" = some none)
    (na_Reversal_marks : PySem.W.findIn K (.ref C_Reversal) "marks" = some none) : Tx K mg where
  z_bool := PySem.W.mg_none_of X G z_bool
  z_int := PySem.W.mg_none_of X G z_int
  z_isinstance := PySem.W.mg_none_of X G z_isinstance
  z_len := PySem.W.mg_none_of X G z_len
  z_list := PySem.W.mg_none_of X G z_list
  z_range := PySem.W.mg_none_of X G z_range
  z_sorted := PySem.W.mg_none_of X G z_sorted
  z_str := PySem.W.mg_none_of X G z_str
  z_tuple := PySem.W.mg_none_of X G z_tuple
  k_CELLS := k_CELLS
  c_CELLS := PySem.W.mg_of X G c_CELLS
  k_HEAD := k_HEAD
  c_HEAD := PySem.W.mg_of X G c_HEAD
  k_NOTHING := k_NOTHING
  c_NOTHING := PySem.W.mg_of X G c_NOTHING
  f_references := f_references
  d_references := PySem.W.fnOf "references" "references" (defArgs s_references) (defBody s_references) (defScope s_references) .none kV1 dc1 pm1 an1 cd1 ct1
  F_references := fun_mk (st := s_references) l_references cc_references kk_references
  b_references := (fun_mk (st := s_references) l_references cc_references kk_references).binds (ps := ["cells", "address"]) fun _ _ _ _ _ _ us hl => match us, hl with | [_, _], _ => rfl
  g_references := PySem.W.mg_of X G a_references
  f_leads_to := f_leads_to
  d_leads_to := PySem.W.fnOf "leads_to" "leads_to" (defArgs s_leads_to) (defBody s_leads_to) (defScope s_leads_to) .none kV2 dc2 pm2 an2 cd2 ct2
  F_leads_to := fun_mk (st := s_leads_to) l_leads_to cc_leads_to kk_leads_to
  b_leads_to := (fun_mk (st := s_leads_to) l_leads_to cc_leads_to kk_leads_to).binds (ps := ["cells", "address", "kept", "marks"]) fun _ _ _ _ _ _ us hl => match us, hl with | [_, _, _, _], _ => rfl
  g_leads_to := PySem.W.mg_of X G a_leads_to
  f_opened := f_opened
  d_opened := PySem.W.fnOf "opened" "opened" (defArgs s_opened) (defBody s_opened) (defScope s_opened) .none kV3 dc3 pm3 an3 cd3 ct3
  F_opened := fun_mk (st := s_opened) l_opened cc_opened kk_opened
  b_opened := (fun_mk (st := s_opened) l_opened cc_opened kk_opened).binds (ps := ["cells", "address", "marks"]) fun _ _ _ _ _ _ us hl => match us, hl with | [_, _, _], _ => rfl
  g_opened := PySem.W.mg_of X G a_opened
  f_marked := f_marked
  d_marked := PySem.W.fnOf "marked" "marked" (defArgs s_marked) (defBody s_marked) (defScope s_marked) .none kV4 dc4 pm4 an4 cd4 ct4
  F_marked := fun_mk (st := s_marked) l_marked cc_marked kk_marked
  b_marked := (fun_mk (st := s_marked) l_marked cc_marked kk_marked).binds (ps := ["memory"]) fun _ _ _ _ _ _ us hl => match us, hl with | [_], _ => rfl
  g_marked := PySem.W.mg_of X G a_marked
  f_Reversal___init__ := f_Reversal___init__
  d_Reversal___init__ := PySem.W.fnOf "__init__" "Reversal.__init__" (defArgs s_Reversal___init__) (defBody s_Reversal___init__) (defScope s_Reversal___init__) .none kV5 dc5 pm5 an5 cd5 ct5
  F_Reversal___init__ := fun_mk (st := s_Reversal___init__) l_Reversal___init__ cc_Reversal___init__ kk_Reversal___init__
  b_Reversal___init__ := (fun_mk (st := s_Reversal___init__) l_Reversal___init__ cc_Reversal___init__ kk_Reversal___init__).binds (ps := ["self", "cells"]) fun _ _ _ _ _ _ us hl => match us, hl with | [_, _], _ => rfl
  f_Reversal_begin := f_Reversal_begin
  d_Reversal_begin := PySem.W.fnOf "begin" "Reversal.begin" (defArgs s_Reversal_begin) (defBody s_Reversal_begin) (defScope s_Reversal_begin) .none kV6 dc6 pm6 an6 cd6 ct6
  F_Reversal_begin := fun_mk (st := s_Reversal_begin) l_Reversal_begin cc_Reversal_begin kk_Reversal_begin
  b_Reversal_begin := (fun_mk (st := s_Reversal_begin) l_Reversal_begin cc_Reversal_begin kk_Reversal_begin).binds (ps := ["self", "address"]) fun _ _ _ _ _ _ us hl => match us, hl with | [_, _], _ => rfl
  f_Reversal_next_field := f_Reversal_next_field
  d_Reversal_next_field := PySem.W.fnOf "next_field" "Reversal.next_field" (defArgs s_Reversal_next_field) (defBody s_Reversal_next_field) (defScope s_Reversal_next_field) .none kV7 dc7 pm7 an7 cd7 ct7
  F_Reversal_next_field := fun_mk (st := s_Reversal_next_field) l_Reversal_next_field cc_Reversal_next_field kk_Reversal_next_field
  b_Reversal_next_field := (fun_mk (st := s_Reversal_next_field) l_Reversal_next_field cc_Reversal_next_field kk_Reversal_next_field).binds (ps := ["self", "address"]) fun _ _ _ _ _ _ us hl => match us, hl with | [_, _], _ => rfl
  f_Reversal_mark := f_Reversal_mark
  d_Reversal_mark := PySem.W.fnOf "mark" "Reversal.mark" (defArgs s_Reversal_mark) (defBody s_Reversal_mark) (defScope s_Reversal_mark) .none kV8 dc8 pm8 an8 cd8 ct8
  F_Reversal_mark := fun_mk (st := s_Reversal_mark) l_Reversal_mark cc_Reversal_mark kk_Reversal_mark
  b_Reversal_mark := (fun_mk (st := s_Reversal_mark) l_Reversal_mark cc_Reversal_mark kk_Reversal_mark).binds (ps := ["self", "root"]) fun _ _ _ _ _ _ us hl => match us, hl with | [_, _], _ => rfl
  f_Reversal_led := f_Reversal_led
  d_Reversal_led := PySem.W.fnOf "led" "Reversal.led" (defArgs s_Reversal_led) (defBody s_Reversal_led) (defScope s_Reversal_led) .none kV9 dc9 pm9 an9 cd9 ct9
  F_Reversal_led := fun_mk (st := s_Reversal_led) l_Reversal_led cc_Reversal_led kk_Reversal_led
  b_Reversal_led := (fun_mk (st := s_Reversal_led) l_Reversal_led cc_Reversal_led kk_Reversal_led).binds (ps := ["self", "kept"]) fun _ _ _ _ _ _ us hl => match us, hl with | [_, _], _ => rfl
  f_marked_by_turning := f_marked_by_turning
  d_marked_by_turning := PySem.W.fnOf "marked_by_turning" "marked_by_turning" (defArgs s_marked_by_turning) (defBody s_marked_by_turning) (defScope s_marked_by_turning) .none kV10 dc10 pm10 an10 cd10 ct10
  F_marked_by_turning := fun_mk (st := s_marked_by_turning) l_marked_by_turning cc_marked_by_turning kk_marked_by_turning
  b_marked_by_turning := (fun_mk (st := s_marked_by_turning) l_marked_by_turning cc_marked_by_turning kk_marked_by_turning).binds (ps := ["memory"]) fun _ _ _ _ _ _ us hl => match us, hl with | [_], _ => rfl
  g_marked_by_turning := PySem.W.mg_of X G a_marked_by_turning
  f_law_cell := f_law_cell
  d_law_cell := PySem.W.fnOf "_law_cell" "_law_cell" (defArgs s_law_cell) (defBody s_law_cell) (defScope s_law_cell) .none kV11 dc11 pm11 an11 cd11 ct11
  F_law_cell := fun_mk (st := s_law_cell) l_law_cell cc_law_cell kk_law_cell
  b_law_cell := (fun_mk (st := s_law_cell) l_law_cell cc_law_cell kk_law_cell).binds (ps := ["script", "k"]) fun _ _ _ _ _ _ us hl => match us, hl with | [_, _], _ => rfl
  g_law_cell := PySem.W.mg_of X G a_law_cell
  f_law_digits := f_law_digits
  d_law_digits := PySem.W.fnOf "_law_digits" "_law_digits" (defArgs s_law_digits) (defBody s_law_digits) (defScope s_law_digits) .none kV12 dc12 pm12 an12 cd12 ct12
  F_law_digits := fun_mk (st := s_law_digits) l_law_digits cc_law_digits kk_law_digits
  b_law_digits := (fun_mk (st := s_law_digits) l_law_digits cc_law_digits kk_law_digits).binds (ps := ["script", "first", "last"]) fun _ _ _ _ _ _ us hl => match us, hl with | [_, _, _], _ => rfl
  g_law_digits := PySem.W.mg_of X G a_law_digits
  f_law_box := f_law_box
  d_law_box := PySem.W.fnOf "_law_box" "_law_box" (defArgs s_law_box) (defBody s_law_box) (defScope s_law_box) .none kV13 dc13 pm13 an13 cd13 ct13
  F_law_box := fun_mk (st := s_law_box) l_law_box cc_law_box kk_law_box
  b_law_box := (fun_mk (st := s_law_box) l_law_box cc_law_box kk_law_box).binds (ps := ["script", "first", "last"]) fun _ _ _ _ _ _ us hl => match us, hl with | [_, _, _], _ => rfl
  g_law_box := PySem.W.mg_of X G a_law_box
  f_law_draw := f_law_draw
  d_law_draw := PySem.W.fnOf "_law_draw" "_law_draw" (defArgs s_law_draw) (defBody s_law_draw) (defScope s_law_draw) .none kV14 dc14 pm14 an14 cd14 ct14
  F_law_draw := fun_mk (st := s_law_draw) l_law_draw cc_law_draw kk_law_draw
  b_law_draw := (fun_mk (st := s_law_draw) l_law_draw cc_law_draw kk_law_draw).binds (ps := ["box", "many"]) fun _ _ _ _ _ _ us hl => match us, hl with | [_, _], _ => rfl
  g_law_draw := PySem.W.mg_of X G a_law_draw
  f_law_shuffled := f_law_shuffled
  d_law_shuffled := PySem.W.fnOf "_law_shuffled" "_law_shuffled" (defArgs s_law_shuffled) (defBody s_law_shuffled) (defScope s_law_shuffled) .none kV15 dc15 pm15 an15 cd15 ct15
  F_law_shuffled := fun_mk (st := s_law_shuffled) l_law_shuffled cc_law_shuffled kk_law_shuffled
  b_law_shuffled := (fun_mk (st := s_law_shuffled) l_law_shuffled cc_law_shuffled kk_law_shuffled).binds (ps := ["box", "numbers"]) fun _ _ _ _ _ _ us hl => match us, hl with | [_, _], _ => rfl
  g_law_shuffled := PySem.W.mg_of X G a_law_shuffled
  f_law_numbers := f_law_numbers
  d_law_numbers := PySem.W.fnOf "_law_numbers" "_law_numbers" (defArgs s_law_numbers) (defBody s_law_numbers) (defScope s_law_numbers) .none kV16 dc16 pm16 an16 cd16 ct16
  F_law_numbers := fun_mk (st := s_law_numbers) l_law_numbers cc_law_numbers kk_law_numbers
  b_law_numbers := (fun_mk (st := s_law_numbers) l_law_numbers cc_law_numbers kk_law_numbers).binds (ps := ["heap"]) fun _ _ _ _ _ _ us hl => match us, hl with | [_], _ => rfl
  g_law_numbers := PySem.W.mg_of X G a_law_numbers
  f_law_of := f_law_of
  d_law_of := PySem.W.fnOf "_law_of" "_law_of" (defArgs s_law_of) (defBody s_law_of) (defScope s_law_of) .none kV17 dc17 pm17 an17 cd17 ct17
  F_law_of := fun_mk (st := s_law_of) l_law_of cc_law_of kk_law_of
  b_law_of := (fun_mk (st := s_law_of) l_law_of cc_law_of kk_law_of).binds (ps := ["heap", "number"]) fun _ _ _ _ _ _ us hl => match us, hl with | [_, _], _ => rfl
  g_law_of := PySem.W.mg_of X G a_law_of
  f_law_body := f_law_body
  d_law_body := PySem.W.fnOf "_law_body" "_law_body" (defArgs s_law_body) (defBody s_law_body) (defScope s_law_body) .none kV18 dc18 pm18 an18 cd18 ct18
  F_law_body := fun_mk (st := s_law_body) l_law_body cc_law_body kk_law_body
  b_law_body := (fun_mk (st := s_law_body) l_law_body cc_law_body kk_law_body).binds (ps := ["box", "row"]) fun _ _ _ _ _ _ us hl => match us, hl with | [_, _], _ => rfl
  g_law_body := PySem.W.mg_of X G a_law_body
  f_law_memory := f_law_memory
  d_law_memory := PySem.W.fnOf "_law_memory" "_law_memory" (defArgs s_law_memory) (defBody s_law_memory) (defScope s_law_memory) .none kV19 dc19 pm19 an19 cd19 ct19
  F_law_memory := fun_mk (st := s_law_memory) l_law_memory cc_law_memory kk_law_memory
  b_law_memory := (fun_mk (st := s_law_memory) l_law_memory cc_law_memory kk_law_memory).binds (ps := ["box", "heap"]) fun _ _ _ _ _ _ us hl => match us, hl with | [_, _], _ => rfl
  g_law_memory := PySem.W.mg_of X G a_law_memory
  f_law_blocks := f_law_blocks
  d_law_blocks := PySem.W.fnOf "_law_blocks" "_law_blocks" (defArgs s_law_blocks) (defBody s_law_blocks) (defScope s_law_blocks) .none kV20 dc20 pm20 an20 cd20 ct20
  F_law_blocks := fun_mk (st := s_law_blocks) l_law_blocks cc_law_blocks kk_law_blocks
  b_law_blocks := (fun_mk (st := s_law_blocks) l_law_blocks cc_law_blocks kk_law_blocks).binds (ps := ["cells"]) fun _ _ _ _ _ _ us hl => match us, hl with | [_], _ => rfl
  g_law_blocks := PySem.W.mg_of X G a_law_blocks
  f_law_same := f_law_same
  d_law_same := PySem.W.fnOf "_law_same" "_law_same" (defArgs s_law_same) (defBody s_law_same) (defScope s_law_same) .none kV21 dc21 pm21 an21 cd21 ct21
  F_law_same := fun_mk (st := s_law_same) l_law_same cc_law_same kk_law_same
  b_law_same := (fun_mk (st := s_law_same) l_law_same cc_law_same kk_law_same).binds (ps := ["actual", "expected"]) fun _ _ _ _ _ _ us hl => match us, hl with | [_, _], _ => rfl
  g_law_same := PySem.W.mg_of X G a_law_same
  f_law := f_law
  d_law := PySem.W.fnOf "law" "law" (defArgs s_law) (defBody s_law) (defScope s_law) .none kV22 dc22 pm22 an22 cd22 ct22
  F_law := fun_mk (st := s_law) l_law cc_law kk_law
  b_law := (fun_mk (st := s_law) l_law cc_law kk_law).binds (ps := ["script"]) fun _ _ _ _ _ _ us hl => match us, hl with | [_], _ => rfl
  g_law := PySem.W.mg_of X G a_law
  s_law := fun s v => .of_eq rfl
  C_Reversal := C_Reversal
  cl_Reversal := ⟨pg_Reversal, hd_Reversal, po_Reversal, sa_Reversal⟩
  g_Reversal := PySem.W.mg_of X G aC_Reversal
  na_Reversal_cells := na_Reversal_cells
  na_Reversal_done := na_Reversal_done
  na_Reversal_marks := na_Reversal_marks
  mk_Reversal := ⟨mk_Reversal, a_Reversal___init__, i_Reversal___init__, kc_Reversal⟩
  me_Reversal_begin := ⟨a_Reversal_begin, i_Reversal_begin, kk_Reversal_begin⟩
  me_Reversal_next_field := ⟨a_Reversal_next_field, i_Reversal_next_field, kk_Reversal_next_field⟩
  me_Reversal_mark := ⟨a_Reversal_mark, i_Reversal_mark, kk_Reversal_mark⟩
  me_Reversal_led := ⟨a_Reversal_led, i_Reversal_led, kk_Reversal_led⟩
theorem law_ok {l : PySem.W.OpenLaw} {w : World} {K : PySem.W.Frag} {mg : Str → Option Value} {fa : Addr} (hfa : mg "law" = some (.ref fa)) (T : Tx K mg) :
    ∃ fd : FuncData, (∀ (s : Shared) (v : Value), BindsTo s fd ⟨[v], []⟩ [("script", v)]) ∧ ∀ base : Heap, K.In base → base.Ns mainGlobals mg → FnOk l.prog w K mg base CX0 5 fa fd ["script"] (spLawC K) := by
  have e := hfa.symm.trans T.g_law
  cases e
  exact ⟨T.d_law, T.s_law, fun base _ _ => law_imp (ok_law T) (law_true T.C_Reversal)⟩
end K82
open PySem PySem.W PyProof.Rows in
set_option maxRecDepth 100000 in
set_option maxHeartbeats 0 in
theorem PySem.Challenge.cw_courthouse_k82_marks_stay_in_turned_cell_holds : PySem.Challenge.rw_courthouse_k82_marks_stay_in_turned_cell.Holds := by
  w_on; o_law; k_head; (case hw => w_witness2)
  k_fill
  refine L2.walk_of (l := PySem.Challenge.rw_courthouse_k82_marks_stay_in_turned_cell) (n := 63) (k := 5) (x := "script") (CX := fun _ => L2.CX0) (sp := fun w => CW.spLawC _) rfl (by decide) rfl ⟨rfl, by decide, by decide⟩ (fun w h Y => PySem.W.kIn_of Y) ?F (fun _ _ a ns hl _ hS => ⟨a, ns, rfl, hS, hl, fun _ => rfl⟩) (fun _ _ _ _ _ h => h)
  case F =>
    intro w mg fa h KX G hmg
    refine' K82.law_ok hmg (K82.tx_mk KX G ?z_bool ?z_int ?z_isinstance ?z_len ?z_list ?z_range ?z_sorted ?z_str ?z_tuple ?c_CELLS ?c_HEAD ?c_NOTHING ?aC_Reversal ?a_references ?l_references ?cc_references ?kk_references ?a_leads_to ?l_leads_to ?cc_leads_to ?kk_leads_to ?a_opened ?l_opened ?cc_opened ?kk_opened ?a_marked ?l_marked ?cc_marked ?kk_marked ?a_Reversal___init__ ?i_Reversal___init__ ?l_Reversal___init__ ?cc_Reversal___init__ ?kk_Reversal___init__ ?a_Reversal_begin ?i_Reversal_begin ?l_Reversal_begin ?cc_Reversal_begin ?kk_Reversal_begin ?a_Reversal_next_field ?i_Reversal_next_field ?l_Reversal_next_field ?cc_Reversal_next_field ?kk_Reversal_next_field ?a_Reversal_mark ?i_Reversal_mark ?l_Reversal_mark ?cc_Reversal_mark ?kk_Reversal_mark ?a_Reversal_led ?i_Reversal_led ?l_Reversal_led ?cc_Reversal_led ?kk_Reversal_led ?a_marked_by_turning ?l_marked_by_turning ?cc_marked_by_turning ?kk_marked_by_turning ?a_law_cell ?l_law_cell ?cc_law_cell ?kk_law_cell ?a_law_digits ?l_law_digits ?cc_law_digits ?kk_law_digits ?a_law_box ?l_law_box ?cc_law_box ?kk_law_box ?a_law_draw ?l_law_draw ?cc_law_draw ?kk_law_draw ?a_law_shuffled ?l_law_shuffled ?cc_law_shuffled ?kk_law_shuffled ?a_law_numbers ?l_law_numbers ?cc_law_numbers ?kk_law_numbers ?a_law_of ?l_law_of ?cc_law_of ?kk_law_of ?a_law_body ?l_law_body ?cc_law_body ?kk_law_body ?a_law_memory ?l_law_memory ?cc_law_memory ?kk_law_memory ?a_law_blocks ?l_law_blocks ?cc_law_blocks ?kk_law_blocks ?a_law_same ?l_law_same ?cc_law_same ?kk_law_same ?a_law ?l_law ?cc_law ?kk_law ?pg_Reversal ?hd_Reversal ?po_Reversal ?sa_Reversal ?mk_Reversal ?kc_Reversal ?na_Reversal_cells ?na_Reversal_done ?na_Reversal_marks)
    (case z_bool => k_is)
    (case z_int => k_is)
    (case z_isinstance => k_is)
    (case z_len => k_is)
    (case z_list => k_is)
    (case z_range => k_is)
    (case z_sorted => k_is)
    (case z_str => k_is)
    (case z_tuple => k_is)
    (case c_CELLS => k_is)
    (case c_HEAD => k_is)
    (case c_NOTHING => k_is)
    (case aC_Reversal => k_is)
    (case a_references => k_is)
    (case l_references => k_is)
    (case cc_references => k_is)
    (case kk_references => k_is)
    (case a_leads_to => k_is)
    (case l_leads_to => k_is)
    (case cc_leads_to => k_is)
    (case kk_leads_to => k_is)
    (case a_opened => k_is)
    (case l_opened => k_is)
    (case cc_opened => k_is)
    (case kk_opened => k_is)
    (case a_marked => k_is)
    (case l_marked => k_is)
    (case cc_marked => k_is)
    (case kk_marked => k_is)
    (case a_Reversal___init__ => k_is)
    (case i_Reversal___init__ => k_is)
    (case l_Reversal___init__ => k_is)
    (case cc_Reversal___init__ => k_is)
    (case kk_Reversal___init__ => k_is)
    (case a_Reversal_begin => k_is)
    (case i_Reversal_begin => k_is)
    (case l_Reversal_begin => k_is)
    (case cc_Reversal_begin => k_is)
    (case kk_Reversal_begin => k_is)
    (case a_Reversal_next_field => k_is)
    (case i_Reversal_next_field => k_is)
    (case l_Reversal_next_field => k_is)
    (case cc_Reversal_next_field => k_is)
    (case kk_Reversal_next_field => k_is)
    (case a_Reversal_mark => k_is)
    (case i_Reversal_mark => k_is)
    (case l_Reversal_mark => k_is)
    (case cc_Reversal_mark => k_is)
    (case kk_Reversal_mark => k_is)
    (case a_Reversal_led => k_is)
    (case i_Reversal_led => k_is)
    (case l_Reversal_led => k_is)
    (case cc_Reversal_led => k_is)
    (case kk_Reversal_led => k_is)
    (case a_marked_by_turning => k_is)
    (case l_marked_by_turning => k_is)
    (case cc_marked_by_turning => k_is)
    (case kk_marked_by_turning => k_is)
    (case a_law_cell => k_is)
    (case l_law_cell => k_is)
    (case cc_law_cell => k_is)
    (case kk_law_cell => k_is)
    (case a_law_digits => k_is)
    (case l_law_digits => k_is)
    (case cc_law_digits => k_is)
    (case kk_law_digits => k_is)
    (case a_law_box => k_is)
    (case l_law_box => k_is)
    (case cc_law_box => k_is)
    (case kk_law_box => k_is)
    (case a_law_draw => k_is)
    (case l_law_draw => k_is)
    (case cc_law_draw => k_is)
    (case kk_law_draw => k_is)
    (case a_law_shuffled => k_is)
    (case l_law_shuffled => k_is)
    (case cc_law_shuffled => k_is)
    (case kk_law_shuffled => k_is)
    (case a_law_numbers => k_is)
    (case l_law_numbers => k_is)
    (case cc_law_numbers => k_is)
    (case kk_law_numbers => k_is)
    (case a_law_of => k_is)
    (case l_law_of => k_is)
    (case cc_law_of => k_is)
    (case kk_law_of => k_is)
    (case a_law_body => k_is)
    (case l_law_body => k_is)
    (case cc_law_body => k_is)
    (case kk_law_body => k_is)
    (case a_law_memory => k_is)
    (case l_law_memory => k_is)
    (case cc_law_memory => k_is)
    (case kk_law_memory => k_is)
    (case a_law_blocks => k_is)
    (case l_law_blocks => k_is)
    (case cc_law_blocks => k_is)
    (case kk_law_blocks => k_is)
    (case a_law_same => k_is)
    (case l_law_same => k_is)
    (case cc_law_same => k_is)
    (case kk_law_same => k_is)
    (case a_law => k_is)
    (case l_law => k_is)
    (case cc_law => k_is)
    (case kk_law => k_is)
    (case pg_Reversal => k_is)
    (case hd_Reversal => k_is)
    (case po_Reversal => k_is)
    (case sa_Reversal => k_is)
    (case mk_Reversal => k_is)
    (case kc_Reversal => k_is)
    (case na_Reversal_cells => k_is)
    (case na_Reversal_done => k_is)
    (case na_Reversal_marks => k_is)
