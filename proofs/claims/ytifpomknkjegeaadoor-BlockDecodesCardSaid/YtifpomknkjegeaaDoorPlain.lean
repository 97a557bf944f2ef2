import Derived.Lib.SmallJoins
import Derived.SliceStrings
namespace SG
open Go Go.ChangeShapes Go.WideShapes
inductive PT where
 | int (k : IntKind)
 | bool
 | str
 | agg (fs : List PT)
 | arr (n : Nat) (k : IntKind)
mutual
def PT.size : PT → Nat
 | .int _ => 1
 | .bool => 1
 | .str => 1
 | .agg fs => PT.sizeL fs
 | .arr n _ => n
def PT.sizeL : List PT → Nat
 | [] => 0
 | p :: ps => p.size + PT.sizeL ps
end
mutual
def PT.fits : PT → List Value → Prop
 | .int k, cs => ∃ n, cs = [.int k n] ∧ (Lit.int k n).wf = true
 | .bool, cs => ∃ b, cs = [.bool b]
 | .str, cs => ∃ s, cs = [.string s] ∧ s.size ≤ maxLen
 | .agg fs, cs => PT.fitsL fs cs
 | .arr n k, cs => cs.length = n ∧ ∀ v ∈ cs, ∃ x, v = .int k x ∧ (Lit.int k x).wf = true
def PT.fitsL : List PT → List Value → Prop
 | [], cs => cs = []
 | p :: ps, cs => ∃ a b, cs = a ++ b ∧ p.fits a ∧ PT.fitsL ps b
end
mutual
def PT.ok (P : Program) : PT → TypeId → Bool
 | .int k, t => match P.underlying t with
  | some (.int k') => decide (k' = k)
  | _ => false
 | .bool, t => match P.underlying t with
  | some .bool => true
  | _ => false
 | .str, t => match P.underlying t with
  | some .string => true
  | _ => false
 | .agg fs, t => match P.underlying t with
  | some (.struct F) => PT.okL P fs F.toList 0 && decide (P.cellsOf t = PT.sizeL fs)
  | _ => false
 | .arr n k, t => match P.underlying t with
  | some (.array m e) => decide (m = n) && decide (P.cellsOf t = n) && decide (P.cellsOf e = 1) && (match P.underlying e with
   | some (.int k') => decide (k' = k)
   | _ => false)
  | _ => false
def PT.okL (P : Program) : List PT → List Field → Nat → Bool
 | [], [], _ => true
 | p :: ps, f :: fs, o => decide (f.offset = o) && decide (P.cellsOf f.type = p.size) && p.ok P f.type && PT.okL P ps fs (o + p.size)
 | _, _, _ => false
end
mutual
theorem PT.fits_len : ∀ (p : PT) (cs : List Value), p.fits cs → cs.length = p.size
 | .int _, cs, h => by obtain ⟨n, rfl, _⟩ := h; rfl
 | .bool, cs, h => by obtain ⟨n, rfl⟩ := h; rfl
 | .str, cs, h => by obtain ⟨n, rfl, _⟩ := h; rfl
 | .agg fs, cs, h => PT.fitsL_len fs cs h
 | .arr _ _, cs, h => h.1
theorem PT.fitsL_len : ∀ (ps : List PT) (cs : List Value), PT.fitsL ps cs → cs.length = PT.sizeL ps
 | [], cs, h => by rw [show cs = [] from h]; rfl
 | p :: ps, cs, h => by
  obtain ⟨a, b, rfl, ha, hb⟩ := h
  rw [List.length_append, PT.fits_len p a ha, PT.fitsL_len ps b hb]
  rfl
end
section
variable {H : Type} {enc : TypeId × Value → H} {P : Program} {w : World} {base : Nat} {spare : Nat → Bool} {held : Bool}
mutual
theorem PT.ok_fits : ∀ (p : PT) (t : TypeId) (fuel : Nat) (cs : List Value) (x : DataW H × List MemPlace), p.ok P t = true → DataW.trod enc P w base spare held fuel t cs = some x → p.fits cs
 | .int k, t, fuel, cs, x, h, hx => by
  unfold PT.ok at h
  split at h
  ·
   rename_i k' hu
   have h : k' = k := by simpa using h
   subst h
   obtain ⟨n, h1, _, h2⟩ := DataW.trod_int hu hx
   exact ⟨n, h1, h2⟩
  ·
   cases h
 | .bool, t, fuel, cs, x, h, hx => by
  unfold PT.ok at h
  split at h
  ·
   rename_i hu
   obtain ⟨b, h1, _⟩ := DataW.trod_bool hu hx
   exact ⟨b, h1⟩
  ·
   cases h
 | .str, t, fuel, cs, x, h, hx => by
  unfold PT.ok at h
  split at h
  ·
   rename_i hu
   obtain ⟨s, h1, _, h2⟩ := DataW.trod_string hu hx
   exact ⟨s, h1, h2⟩
  ·
   cases h
 | .agg fs, t, fuel, cs, x, h, hx => by
  unfold PT.ok at h
  split at h
  ·
   rename_i F hu
   rw [Bool.and_eq_true, decide_eq_true_iff] at h
   obtain ⟨xs, n, _, _, hl, hlen, hf⟩ := DataW.trod_struct hu hx
   have main := PT.okL_fits fs F.toList n cs 0 h.1 (by rw [hl, h.2]; omega) (fun i f hi => by
    obtain ⟨hi, he⟩ := List.getElem?_eq_some_iff.1 hi
    have hi' : i < F.size := by simpa using hi
    have h1 := hf i f (by rw [← he, Array.getElem_toList]; exact Array.getElem?_eq_getElem hi')
    rw [List.getElem?_eq_getElem (by rw [hlen]; exact hi')] at h1
    exact ⟨_, h1⟩)
   rw [List.drop_zero] at main
   exact main
  ·
   cases h
 | .arr m k, t, fuel, cs, x, h, hx => by
  unfold PT.ok at h
  split at h
  ·
   rename_i m' e hu
   simp only [Bool.and_eq_true, decide_eq_true_iff] at h
   obtain ⟨⟨⟨rfl, h2⟩, h3⟩, h4⟩ := h
   split at h4
   ·
    rename_i k' he
    have h4 : k' = k := by simpa using h4
    subst h4
    obtain ⟨xs, n, _, _, hl, hlen, hf⟩ := DataW.trod_array hu hx
    refine ⟨hl.trans h2, fun v hv => ?_⟩
    obtain ⟨i, hi, rfl⟩ := List.getElem_of_mem hv
    have hi' : i < m' := by rw [hl, h2] at hi; exact hi
    have h1 := hf i hi'
    rw [h3, Nat.mul_one, List.getElem?_eq_getElem (by rw [hlen]; exact hi'), List.drop_eq_getElem_cons hi] at h1
    obtain ⟨z, hz, _, hw⟩ := DataW.trod_int he h1
    simp only [List.take_succ_cons, List.take_zero, List.cons.injEq, and_true] at hz
    exact ⟨z, hz, hw⟩
   ·
    cases h4
  ·
   cases h
theorem PT.okL_fits : ∀ (ps : List PT) (F : List Field) (n : Nat) (cs : List Value) (o : Nat), PT.okL P ps F o = true → cs.length = o + PT.sizeL ps →
  (∀ (i : Nat) (f : Field), F[i]? = some f → ∃ x, DataW.trod enc P w base spare held n f.type ((cs.drop f.offset).take (P.cellsOf f.type)) = some x) → PT.fitsL ps (cs.drop o)
 | [], F, n, cs, o, h, hl, hf => List.drop_eq_nil_of_le (by rw [hl]; exact Nat.le_refl _)
 | p :: ps, [], n, cs, o, h, hl, hf => by cases h
 | p :: ps, f :: F, n, cs, o, h, hl, hf => by
  unfold PT.okL at h
  simp only [Bool.and_eq_true, decide_eq_true_iff] at h
  obtain ⟨⟨⟨h1, h2⟩, h3⟩, h4⟩ := h
  obtain ⟨x, hx⟩ := hf 0 f rfl
  rw [h1, h2] at hx
  have hs : PT.sizeL (p :: ps) = p.size + PT.sizeL ps := rfl
  refine ⟨(cs.drop o).take p.size, cs.drop (o + p.size), ?_, PT.ok_fits p _ _ _ _ h3 hx, PT.okL_fits ps F n cs (o + p.size) h4 (by rw [hl, hs]; omega) fun i f hi => hf (i + 1) f hi⟩
  rw [← List.drop_drop, List.take_append_drop]
end
theorem plain_slice (p : PT) {t e : TypeId} {a : Option Addr} {len cap : Nat} {d : DataW H} {ps : List MemPlace} (hu : P.underlying t = some (.slice e)) (hp : p.ok P e = true) (hc : P.cellsOf e = p.size)
  (h : DataW.Trod enc P w base spare held t (.slice a len cap) d ps) :
  ∃ L : List (List Value), L.length = len ∧ (∀ c, c ∈ L → p.fits c) ∧ len ≤ cap ∧ len ≤ maxLen ∧
   (0 < len → ∃ ad, a = some ad ∧ ∀ j c, L[j]? = some c → ∀ i u, c[i]? = some u → w.cell? (ad.add (j * p.size + i)) = some u) := by
 obtain ⟨fuel, hf⟩ := h
 rcases DataW.trod_slice hu hf with ⟨hcs, _⟩ | ⟨ad, l, c, elems, rest, n, _, hcs, _, hb, hl, hm, hlen, hel, _, _⟩
 ·
  simp [Value.cells] at hcs
  obtain ⟨rfl, rfl, rfl⟩ := hcs
  exact ⟨[], rfl, by simp, Nat.le_refl _, by unfold maxLen; omega, fun h => absurd h (Nat.lt_irrefl 0)⟩
 ·
  simp [Value.cells] at hcs
  obtain ⟨rfl, rfl, rfl⟩ := hcs
  have each : ∀ i, i < len → ∃ cs, w.cells? base (ad.add (i * p.size)) p.size = some cs ∧ p.fits cs := by
   intro i hi
   have h1 := hel i hi
   rw [List.getElem?_eq_getElem (by omega), Option.bind_eq_some_iff, hc] at h1
   obtain ⟨cs, h2, h3⟩ := h1
   exact ⟨cs, h2, PT.ok_fits p e n cs _ hp h3⟩
  refine ⟨(List.range len).map fun i => (w.cells? base (ad.add (i * p.size)) p.size).getD [], by simp, ?_, hl, Nat.le_trans hl hm, fun _ => ⟨ad, rfl, ?_⟩⟩
  ·
   intro c hc
   obtain ⟨i, hi, rfl⟩ := List.mem_map.1 hc
   obtain ⟨cs, h1, h2⟩ := each i (List.mem_range.1 hi)
   rw [h1]
   exact h2
  ·
   intro j c hj i u hu
   rw [List.getElem?_map] at hj
   by_cases hjl : j < len
   ·
    obtain ⟨cs, h1, h2⟩ := each j hjl
    rw [List.getElem?_range hjl] at hj
    simp only [Option.map_some, Option.some.injEq] at hj
    rw [h1] at hj
    simp only [Option.getD_some] at hj
    subst hj
    obtain ⟨_, hcl, hcell⟩ := World.cells?_some h1
    have hi : i < p.size := by
     have := (List.getElem?_eq_some_iff.1 hu).1
     omega
    have h3 := hcell i hi
    rw [hu] at h3
    have ha : (ad.add (j * p.size)).add i = ad.add (j * p.size + i) := by
     unfold Addr.add
     by_cases h1 : j * p.size = 0 <;> by_cases h2 : i = 0 <;> simp [h1, h2, Nat.add_assoc]
    rw [← ha]
    exact h3
   ·
    rw [List.getElem?_eq_none (by simpa using hjl)] at hj
    cases hj
end
end SG
