import Derived.Test.YtifpomknkjegeaaDoorWords
import Derived.SliceStrings
import Derived.WideLaws
namespace Go.Proofs.YtifpomknkjegeaaDoor.Args
open Go.RowKit Go.ChangeShapes Go.WideShapes Go.Proofs.YtifpomknkjegeaaDoorW.PrintWords
theorem strs_arg {H : Type} {enc : TypeId × Value → H} {P : Program} {W : World} {base : Nat} {spare : Nat → Bool} {held : Bool} {t e : TypeId} {a : Option Addr} {len cap : Nat} {d : DataW H} {ps : List MemPlace}
  (hu : P.underlying t = some (.slice e)) (he : P.underlying e = some .string) (hc : P.cellsOf e = 1) (h : DataW.Trod enc P W base spare held t (.slice a len cap) d ps) :
  ∃ l : List ByteArray, len = l.length ∧ Kd.C Kd.string W a len l ∧ len ≤ cap ∧ len ≤ maxLen ∧ ∀ s ∈ l, s.size ≤ maxLen := by
 obtain ⟨fuel, hf⟩ := h
 rcases open_strings hu he hc hf with ⟨hcs, _⟩ | ⟨x, l, c, ss, hcs, _, hl, hm, hz, hx, hcell, hw⟩
 ·
  simp [Value.cells] at hcs
  obtain ⟨rfl, rfl, rfl⟩ := hcs
  exact ⟨[], rfl, Kd.C_nil _ _, Nat.le_refl _, by unfold maxLen; omega, by simp⟩
 ·
  simp [Value.cells] at hcs
  obtain ⟨rfl, rfl, rfl⟩ := hcs
  have hl2 : len ≤ ss.length := by
   rw [hz]
   split
   ·
    exact hl
   ·
    exact Nat.le_refl _
  refine ⟨ss.take len, by rw [List.length_take]; omega, ?_, hl, Nat.le_trans hl hm, fun s hs => hw s (List.mem_of_mem_take hs)⟩
  refine Kd.C_of_reads (d := ByteArray.empty) (h1 := fun _ => rfl) ⟨by rw [List.length_take]; omega, by have := hm; unfold maxLen at this; omega, fun hn => ⟨x, rfl, fun j hj => ?_⟩⟩
  rw [hcell j (by omega)]
  simp [List.getD_eq_getElem?_getD, hj]
end Go.Proofs.YtifpomknkjegeaaDoor.Args
