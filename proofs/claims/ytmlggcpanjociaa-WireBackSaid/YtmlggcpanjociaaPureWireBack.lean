/- Whatever the texts and the bytes (not too many, and not too long, as the statement's guard says): texts' bytes are read as those texts, and bytes that are read are those texts' bytes. No condition. -/
import Derived.Test.YtmlggcpanjociaaWFun2
import Derived.Test.YtmlggcpanjociaaPAllx25
namespace Go.Proofs.Ytmlggcpanjociaa.Pure
open Go.RowKit Go.Proofs.Ytmlggcpanjociaa.PAll Go.Proofs.YtmlggcpanjociaaW.PrintWords SG Go.Proofs.Ytmlggcpanjociaa.Fun Go.Proofs.Ytmlggcpanjociaa.Hlp

theorem skip (ls : List Bs) (l : Bs) : Ev (fun k => sandglasslaw16_WireBack.j0 k (ls.map mk) (mk l) true) true := by
  refine Ev.step (f := fun k => _) (fun k => by rw [sandglasslaw16_WireBack.j0]) ?_
  simp only [if_true]
  exact Ev.bind E_awake (nowE _)

theorem main (ls : List Bs) (l : Bs) (h : (texts ls).length < 20000) (hl : l.length ≤ 20000) : Ev (fun k => sandglasslaw16_WireBack.j0 k (ls.map mk) (mk l) false) true := by
  have h4 := texts_small ls
  have hb : ∀ x ∈ ls, x.length ≤ 100000 := fun x hx => by have := h4.2 x hx; omega
  have hb2 : ∀ x ∈ ls, x.length < 4294967296 := fun x hx => by have := h4.2 x hx; omega
  have e := readR_texts ls hb2
  refine Ev.step (f := fun k => _) (fun k => by rw [sandglasslaw16_WireBack.j0]) ?_
  simp only [if_neg (show ¬ false = true by decide)]
  refine Ev.bind (E_Texts ls (by omega) hb) (Ev.bind (E_Read (texts ls) (by omega)) (Ev.bind (E_Read l (by omega)) ?_))
  rw [e, readO_some, List.nil_append]
  simp only [if_true]
  refine Ev.bind (E_same _ (by rw [List.length_map]; omega)) ?_
  simp only [if_true]
  cases hr : readR l with
  | none =>
    rw [readO_none]
    simp only [if_neg (show ¬ (3 : Int) = 0 by decide)]
    exact Ev.bind E_awake (nowE _)
  | some xs =>
    have e2 := readR_back l.length l xs rfl hr
    have e3 := readR_small hr
    rw [readO_some, List.nil_append]
    simp only [if_true]
    refine Ev.bind (E_Texts xs (by omega) (fun x hx => by have := e3.2 x hx; omega)) ?_
    rw [e2]
    simp only [if_true]
    exact Ev.bind E_awake (nowE _)

theorem WireBack : sandglasslaw16_WireBack.Pure := by
  intro s t _ _ _
  obtain ⟨ls, rfl⟩ := ex_mks s
  obtain ⟨l, rfl⟩ := ex_mk t
  obtain ⟨b, h1, h2⟩ := E_few ls
  apply roundsE
  unfold sandglasslaw16_WireBack.f
  refine Ev.bind h1 ?_
  rw [mk_size]
  cases b with
  | false => exact skip ls l
  | true =>
    simp only [if_true]
    by_cases h : (l.length : Int) > 20000
    · rw [decide_eq_true h]
      exact skip ls l
    · rw [decide_eq_false h]
      exact main ls l (h2 rfl) (by omega)

end Go.Proofs.Ytmlggcpanjociaa.Pure
