import Derived.Test.YtmlggcpanjociaaFunA
import Derived.Test.YtmlggcpanjociaaPAllx9
import Derived.Test.YtmlggcpanjociaaPAllx12
import Derived.Test.YtmlggcpanjociaaPAllx13
import Derived.Test.YtmlggcpanjociaaPAllx11
namespace Go.Proofs.Ytmlggcpanjociaa.Fun
open Go.RowKit Go.Proofs.Ytmlggcpanjociaa.PAll Go.Proofs.YtmlggcpanjociaaW.PrintWords SG Go.Proofs.Ytmlggcpanjociaa.Hlp

theorem byte1_f (n : Int) : wire_byte1.f n = some (mk [u8 n]) := by
  unfold wire_byte1.f
  rw [byte_nums]

theorem b0_range (a : Bs) : 0 ≤ b0 a ∧ b0 a ≤ 255 := by
  unfold b0
  have := (a.getD 0 0).toNat_lt
  omega

theorem bt0 (a : Bs) : bt (mk a) 0 = b0 a := bt_mk a 0

theorem wb0 (a : Bs) : wrap64 (b0 a) = b0 a := by
  have := b0_range a
  exact w64 (by omega) (by omega)

theorem one_f (a : Bs) : wire_one.f (mk a) = some (if a.length = 1 then (b0 a, false) else (0, true)) := by
  unfold wire_one.f
  rw [mk_size]
  by_cases h : a.length = 1
  · rw [if_pos h, if_pos (by omega), if_pos (by omega), bt0, wb0]
  · rw [if_neg h, if_neg (by omega)]

theorem text1_f (a : Bs) : wire_text.f (mk a) = some (mk a, false) := rfl

def rdA (o : Option (List Bs)) (n : Nat) : List ByteArray × Bool := (o.elim [] (fun ls => ls.map mk), o.elim false (fun ls => decide (ls.length = n)))

theorem rdA_none (n : Nat) : rdA none n = ([], false) := rfl

theorem rdA_some (ls : List Bs) (n : Nat) : rdA (some ls) n = (ls.map mk, decide (ls.length = n)) := rfl

theorem E_read (l : Bs) (n : Nat) (hl : l.length ≤ 1000000) : Ev (fun q => wire_read.f q (mk l) (n : Int)) (rdA (readR l) n) := by
  unfold wire_read.f
  refine Ev.bind (E_Read l hl) ?_
  cases readR l with
  | none =>
    rw [readO_none, rdA_none]
    simp only [if_neg (show ¬ (3 : Int) = 0 by decide)]
    exact nowE _
  | some ls =>
    rw [readO_some, List.nil_append, rdA_some]
    simp only [if_true, List.length_map]
    rw [show ((ls.length : Int) == (n : Int)) = decide (ls.length = n) by rw [Bool.eq_iff_iff]; simp; omega]
    exact nowE _

end Go.Proofs.Ytmlggcpanjociaa.Fun
