import Derived.Test.YtifpomknkjegeaaDoorBFunB
import Derived.Test.YtifpomknkjegeaaDoorBFunC
import Derived.Test.YtifpomknkjegeaaDoorPAllx45
import Derived.Test.YtifpomknkjegeaaDoorPAllx49
namespace Go.Proofs.YtifpomknkjegeaaDoor.BFun
open Go.RowKit Go.Proofs.YtifpomknkjegeaaDoor.PAll Go.Proofs.YtifpomknkjegeaaDoorW.PrintWords SG Go.Proofs.YtifpomknkjegeaaDoor.Hlp
theorem rchkC (k e : Int) (n b : Bs) : sandglassref16_CheckCommand.f k e (mk n) (mk b) = some (if okC k e n.length b.length then 0 else 1) := by
 unfold sandglassref16_CheckCommand.f
 simp only [mk_size, mk_toList, ← List.length_eq_zero_iff]
 by_cases hc : okC k e n.length b.length
 ·
  rw [if_pos hc]
  unfold okC at hc
  repeat' split
  all_goals first | rfl | (exfalso; omega)
 ·
  rw [if_neg hc]
  unfold okC at hc
  repeat' split
  all_goals first | rfl | (exfalso; omega)
theorem rone_f (n : Int) : sandglassref16_one.f n = some (mk [u8 n]) := by
 unfold sandglassref16_one.f
 rw [byte_nums]
theorem E_rCommand (k e : Int) (n b : Bs) (hn : n.length ≤ 100000) (hb : b.length ≤ 100000) : Ev (fun q => sandglassref16_Command.f q k e (mk n) (mk b)) (cmdA k e n b) := by
 unfold sandglassref16_Command.f cmdA
 rw [rchkC k e n b]
 simp only [bindS]
 by_cases h : okC k e n.length b.length
 ·
  simp only [if_pos h, if_true]
  rw [rone_f, rone_f]
  simp only [bindS]
  refine Ev.bind (E_rTexts [[u8 k], [u8 e], n, b] (by simp) ?_) (nowE _)
  intro x hx
  simp only [List.mem_cons, List.not_mem_nil, or_false] at hx
  rcases hx with rfl | rfl | rfl | rfl
  ·
   rw [one_len]; omega
  ·
   rw [one_len]; omega
  ·
   exact hn
  ·
   exact hb
 ·
  simp only [if_neg h, if_neg (show ¬ (1 : Int) = 0 by decide)]
  exact nowE _
theorem E_rcNo (q : List ByteArray) : Ev (fun k => sandglassref16_ReadCommand.j0 k q true) noC := by
 refine Ev.step (f := fun k => _) (fun k => by rw [sandglassref16_ReadCommand.j0]) ?_
 simp only [if_true]
 exact nowE _
theorem E_rReadCommand (l : Bs) (hl : l.length ≤ 1000000) : Ev (fun q => sandglassref16_ReadCommand.f q (mk l)) (rcA l) := by
 unfold sandglassref16_ReadCommand.f
 refine Ev.bind (E_rRead l hl) ?_
 cases hr : readR l with
 | none =>
  rw [rcA_none hr, readO_none]
  simp only [if_neg (show ¬ (3 : Int) = 0 by decide)]
  exact E_rcNo _
 | some ls =>
  rw [rcA_some hr, readO_some, List.nil_append]
  simp only [if_true]
  by_cases h4 : ls.length = 4
  ·
   obtain ⟨a, b, n, d, rfl⟩ := of_4 h4
   rw [rcL_4]
   have r0 : rdOf ByteArray.empty ([a, b, n, d].map mk) 0 = mk a := rfl
   have r1 : rdOf ByteArray.empty ([a, b, n, d].map mk) 1 = mk b := rfl
   have r2 : rdOf ByteArray.empty ([a, b, n, d].map mk) 2 = mk n := rfl
   have r3 : rdOf ByteArray.empty ([a, b, n, d].map mk) 3 = mk d := rfl
   have hlen : (([a, b, n, d].map mk).length : Int) = 4 := rfl
   rw [hlen, r0, r1, bne_one, mk_size]
   simp only [if_true, if_pos (show (0 : Int) < 4 by decide), if_pos (show (1 : Int) < 4 by decide)]
   by_cases ha : a.length = 1
   ·
    simp only [if_pos (show (a.length : Int) = 1 by omega)]
    by_cases hb : b.length = 1
    ·
     rw [decide_eq_true hb]
     refine Ev.step (f := fun k => _) (fun k => by rw [sandglassref16_ReadCommand.j0]) ?_
     rw [hlen, r0, r1, r2, r3, mk_size, mk_size, bt0, bt0, wb0, wb0, rchkC]
     simp only [Bool.not_true, if_neg (show ¬ false = true by decide), bindS, if_pos (show (0 : Int) < 4 by decide), if_pos (show (1 : Int) < 4 by decide), if_pos (show (2 : Int) < 4 by decide), if_pos (show (3 : Int) < 4 by decide), if_pos (show (0 : Int) < (a.length : Int) by omega), if_pos (show (0 : Int) < (b.length : Int) by omega)]
     by_cases hc : okC (b0 a) (b0 b) n.length d.length
     ·
      simp only [if_pos hc, if_true]
      rw [if_pos ⟨ha, hb, hc⟩]
      exact nowE _
     ·
      simp only [if_neg hc, if_neg (show ¬ (1 : Int) = 0 by decide)]
      rw [if_neg (fun h => hc h.2.2)]
      exact nowE _
    ·
     rw [decide_eq_false hb, if_neg (fun h => hb h.2.1)]
     exact E_rcNo _
   ·
    simp only [if_neg (show ¬ (a.length : Int) = 1 by omega)]
    rw [if_neg (fun h => ha h.1)]
    exact E_rcNo _
  ·
   rw [rcL_no h4]
   simp only [List.length_map, if_neg (show ¬ (ls.length : Int) = 4 by omega)]
   exact E_rcNo _
end Go.Proofs.YtifpomknkjegeaaDoor.BFun
