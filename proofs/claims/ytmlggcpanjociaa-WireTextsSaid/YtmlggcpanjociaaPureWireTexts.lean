/- Whatever the texts (few enough, and not too long, as the statement's guard says): their bytes, one behind the other, are the document's, and the chapter's example holds. No condition. -/
import Derived.Test.YtmlggcpanjociaaWFun2
import Derived.Test.YtmlggcpanjociaaPAllx21
namespace Go.Proofs.Ytmlggcpanjociaa.Pure
open Go.RowKit Go.Proofs.Ytmlggcpanjociaa.PAll Go.Proofs.YtmlggcpanjociaaW.PrintWords SG Go.Proofs.Ytmlggcpanjociaa.Fun Go.Proofs.Ytmlggcpanjociaa.Hlp

theorem each (ls : List Bs) (hn : ls.length ≤ 100000) (hs : ∀ x ∈ ls, x.length ≤ 100000) (d : Nat) : ∀ (i : Nat), ls.length - i = d → Ev (fun k => sandglasslaw16_WireTexts.l0 k (ls.map mk) (i : Int)) true := by
  induction d with
  | zero =>
    intro i h
    refine Ev.step (f := fun k => _) (fun k => by rw [sandglasslaw16_WireTexts.l0]) ?_
    simp only [List.length_map, if_neg (show ¬ (i : Int) < (ls.length : Int) by omega)]
    refine Ev.bind (E_Texts ls hn hs) (Ev.bind (E_rTexts ls hn hs) ?_)
    simp only [if_true]
    exact Ev.bind E_awake (nowE _)
  | succ d ih =>
    intro i h
    have hi : i < ls.length := by omega
    have hx := hs ls[i] (List.getElem_mem hi)
    refine Ev.step (f := fun k => _) (fun k => by rw [sandglasslaw16_WireTexts.l0]) ?_
    simp only [List.length_map, if_pos (show (i : Int) < (ls.length : Int) by omega), if_pos (show 0 ≤ (i : Int) by omega)]
    rw [rdOf_mk ls i hi, text_f _ (by omega), rtext_f _ (by omega)]
    simp only [bindS, if_true]
    rw [w64 (by omega) (by omega), show (i : Int) + 1 = ((i + 1 : Nat) : Int) by omega]
    exact ih (i + 1) (by omega)

theorem WireTexts : sandglasslaw16_WireTexts.Pure := by
  intro s _ _
  obtain ⟨ls, rfl⟩ := ex_mks s
  obtain ⟨b, h1, h2⟩ := E_few ls
  apply roundsE
  unfold sandglasslaw16_WireTexts.f
  refine Ev.bind h1 ?_
  cases b with
  | false => exact Ev.bind E_awake (nowE _)
  | true =>
    have h3 := h2 rfl
    have h4 := texts_small ls
    simp only [if_true]
    exact each ls (by omega) (fun x hx => by have := h4.2 x hx; omega) ls.length 0 (by omega)

end Go.Proofs.Ytmlggcpanjociaa.Pure
