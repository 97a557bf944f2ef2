import Derived.Test.YtifpomknkjegeaaDoorBFunA
import Derived.Test.YtifpomknkjegeaaDoorPAllx12
import Derived.Test.YtifpomknkjegeaaDoorPAllx20
namespace Go.Proofs.YtifpomknkjegeaaDoor.BFun
open Go.RowKit Go.Proofs.YtifpomknkjegeaaDoor.PAll Go.Proofs.YtifpomknkjegeaaDoorW.PrintWords SG Go.Proofs.YtifpomknkjegeaaDoor.Hlp
theorem chkC (k e : Int) (n b : Bs) (h : n.length + b.length ≤ 9223372036854775807) : wire_CheckCommand.f k e (mk n) (mk b) = some (if okC k e n.length b.length then 0 else 1) := by
 unfold wire_CheckCommand.f
 simp only [mk_size, mk_append, mk_toList, ← List.length_eq_zero_iff, List.length_append]
 by_cases hc : okC k e n.length b.length
 ·
  rw [if_pos hc]
  unfold okC at hc
  repeat' split
  all_goals first | rfl | (exfalso; omega)
 ·
  rw [if_neg hc]
  unfold okC at hc
  repeat' split
  all_goals first | rfl | (exfalso; omega)
theorem byte1_f (n : Int) : wire_byte1.f n = some (mk [u8 n]) := by
 unfold wire_byte1.f
 rw [byte_nums]
theorem E_Command (k e : Int) (n b : Bs) (hn : n.length ≤ 100000) (hb : b.length ≤ 100000) : Ev (fun q => wire_Command.f q k e (mk n) (mk b)) (cmdA k e n b) := by
 unfold wire_Command.f cmdA
 rw [chkC k e n b (by omega)]
 simp only [bindS]
 by_cases h : okC k e n.length b.length
 ·
  simp only [if_pos h, if_true]
  rw [byte1_f, byte1_f]
  simp only [bindS]
  refine Ev.bind (E_Texts [[u8 k], [u8 e], n, b] (by simp) ?_) (nowE _)
  intro x hx
  simp only [List.mem_cons, List.not_mem_nil, or_false] at hx
  rcases hx with rfl | rfl | rfl | rfl
  ·
   rw [one_len]; omega
  ·
   rw [one_len]; omega
  ·
   exact hn
  ·
   exact hb
 ·
  simp only [if_neg h, if_neg (show ¬ (1 : Int) = 0 by decide)]
  exact nowE _
theorem b0_range (a : Bs) : 0 ≤ b0 a ∧ b0 a ≤ 255 := by
 unfold b0
 have := (a.getD 0 0).toNat_lt
 omega
theorem bt0 (a : Bs) : bt (mk a) 0 = b0 a := bt_mk a 0
theorem wb0 (a : Bs) : wrap64 (b0 a) = b0 a := by
 have := b0_range a
 exact w64 (by omega) (by omega)
theorem one_f (a : Bs) : wire_one.f (mk a) = some (if a.length = 1 then (b0 a, false) else (0, true)) := by
 unfold wire_one.f
 rw [mk_size]
 by_cases h : a.length = 1
 ·
  rw [if_pos h, if_pos (by omega), if_pos (by omega), bt0, wb0]
 ·
  rw [if_neg h, if_neg (by omega)]
theorem text1_f (a : Bs) : wire_text.f (mk a) = some (mk a, false) := rfl
def rdA (o : Option (List Bs)) (n : Nat) : List ByteArray × Bool := (o.elim [] (fun ls => ls.map mk), o.elim false (fun ls => decide (ls.length = n)))
theorem rdA_none (n : Nat) : rdA none n = ([], false) := rfl
theorem rdA_some (ls : List Bs) (n : Nat) : rdA (some ls) n = (ls.map mk, decide (ls.length = n)) := rfl
theorem E_read (l : Bs) (n : Nat) (hl : l.length ≤ 1000000) : Ev (fun q => wire_read.f q (mk l) (n : Int)) (rdA (readR l) n) := by
 unfold wire_read.f
 refine Ev.bind (E_Read l hl) ?_
 cases readR l with
 | none =>
  rw [readO_none, rdA_none]
  simp only [if_neg (show ¬ (3 : Int) = 0 by decide)]
  exact nowE _
 | some ls =>
  rw [readO_some, List.nil_append, rdA_some]
  simp only [if_true, List.length_map]
  rw [show ((ls.length : Int) == (n : Int)) = decide (ls.length = n) by rw [Bool.eq_iff_iff]; simp; omega]
  exact nowE _
theorem E_ReadCommand (l : Bs) (hl : l.length ≤ 1000000) : Ev (fun q => wire_ReadCommand.f q (mk l)) (rcA l) := by
 unfold wire_ReadCommand.f
 refine Ev.bind (E_read l 4 hl) ?_
 cases hr : readR l with
 | none =>
  rw [rcA_none hr, rdA_none]
  simp only [if_neg (show ¬ false = true by decide)]
  exact nowE _
 | some ls =>
  rw [rcA_some hr, rdA_some]
  by_cases h4 : ls.length = 4
  ·
   obtain ⟨a, b, n, d, rfl⟩ := of_4 h4
   have hsm := (readR_small hr).2
   have h2 := hsm n (by simp)
   have h3 := hsm d (by simp)
   rw [rcL_4]
   have r0 : rdOf ByteArray.empty ([a, b, n, d].map mk) 0 = mk a := rfl
   have r1 : rdOf ByteArray.empty ([a, b, n, d].map mk) 1 = mk b := rfl
   have r2 : rdOf ByteArray.empty ([a, b, n, d].map mk) 2 = mk n := rfl
   have r3 : rdOf ByteArray.empty ([a, b, n, d].map mk) 3 = mk d := rfl
   have hlen : (([a, b, n, d].map mk).length : Int) = 4 := rfl
   rw [decide_eq_true h4, hlen, r0, r1, r2, r3, one_f, one_f, text1_f, text1_f]
   simp only [if_true, bindS, if_pos (show (0 : Int) < 4 by decide), if_pos (show (1 : Int) < 4 by decide), if_pos (show (2 : Int) < 4 by decide), if_pos (show (3 : Int) < 4 by decide)]
   by_cases ha : a.length = 1
   ·
    simp only [if_pos ha, if_neg (show ¬ false = true by decide)]
    by_cases hb : b.length = 1
    ·
     simp only [if_pos hb, if_neg (show ¬ false = true by decide)]
     rw [chkC _ _ n d (by omega)]
     simp only [bindS]
     by_cases hc : okC (b0 a) (b0 b) n.length d.length
     ·
      simp only [if_pos hc, if_true]
      rw [if_pos ⟨ha, hb, hc⟩]
      exact nowE _
     ·
      simp only [if_neg hc, if_neg (show ¬ (1 : Int) = 0 by decide)]
      rw [if_neg (fun h => hc h.2.2)]
      exact nowE _
    ·
     simp only [if_neg hb, if_true]
     rw [if_neg (fun h => hb h.2.1)]
     exact nowE _
   ·
    simp only [if_neg ha, if_true]
    rw [if_neg (fun h => ha h.1)]
    exact nowE _
  ·
   rw [rcL_no h4, decide_eq_false h4]
   simp only [if_neg (show ¬ false = true by decide)]
   exact nowE _
theorem bne_one (a : Bs) : (((mk a).size : Int) != 1) = !decide (a.length = 1) := by
 rw [mk_size, Bool.eq_iff_iff]
 simp
 omega
end Go.Proofs.YtifpomknkjegeaaDoor.BFun
