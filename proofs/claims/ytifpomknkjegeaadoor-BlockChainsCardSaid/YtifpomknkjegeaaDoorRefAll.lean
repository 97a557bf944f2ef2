/- Contracts of functions that the law runs, for every input: RefK, RefL, RefA, RefB, RefC, RefD, RefE, RefF; no condition. -/
import Derived.Test.YtifpomknkjegeaaDoorShaAll
import Derived.Test.YtifpomknkjegeaaDoorPAllx59
import Derived.Test.YtifpomknkjegeaaDoorPAllx56
import Derived.KernelRfl
import Derived.Deep.RegionHeld
import Derived.Test.YtifpomknkjegeaaDoorBRow
import Derived.Deep.AppendSrc
namespace Go.Proofs.YtifpomknkjegeaaDoor.Sha
open Go.RowKit Go.Proofs.YtifpomknkjegeaaDoor.PAll Go.Proofs.YtifpomknkjegeaaDoorW.PrintWords SG
set_option linter.unusedVariables false
def PR : List Int := [2, 3, 5, 7, 11, 13, 17, 19, 23, 29, 31, 37, 41, 43, 47, 53, 59, 61, 67, 71, 73, 79, 83, 89, 97, 101, 103, 107, 109, 113, 127, 131, 137, 139, 149, 151, 157, 163, 167, 173, 179, 181, 191, 193, 197, 199, 211, 223, 227, 229, 233, 239, 241, 251, 257, 263, 269, 271, 277, 281, 283, 293, 307, 311]
set_option maxRecDepth 1000000
theorem primes64 : sandglassref07_primes.f 11700 64 = some PR := by kernel_rfl
theorem primes8 : sandglassref07_primes.f 200 8 = some (PR.take 8) := by kernel_rfl
theorem rootsH : (PR.take 8).map (fun x => sandglassref07_root.f 80 x 2) = F0.l.map (fun v => some (iv v)) := by kernel_rfl
theorem rootsK0 : (PR.take 16).map (fun x => sandglassref07_root.f 80 x 3) = (KT.take 16).map (fun v => some (iv v)) := by kernel_rfl
theorem rootsK1 : ((PR.drop 16).take 16).map (fun x => sandglassref07_root.f 80 x 3) = ((KT.drop 16).take 16).map (fun v => some (iv v)) := by kernel_rfl
theorem rootsK2 : ((PR.drop 32).take 16).map (fun x => sandglassref07_root.f 80 x 3) = ((KT.drop 32).take 16).map (fun v => some (iv v)) := by kernel_rfl
theorem rootsK3 : (PR.drop 48).map (fun x => sandglassref07_root.f 80 x 3) = (KT.drop 48).map (fun v => some (iv v)) := by kernel_rfl
theorem rootsK : PR.map (fun x => sandglassref07_root.f 80 x 3) = KT.map (fun v => some (iv v)) := by
 have e1 : PR = PR.take 16 ++ ((PR.drop 16).take 16 ++ ((PR.drop 32).take 16 ++ PR.drop 48)) := rfl
 have e2 : KT = KT.take 16 ++ ((KT.drop 16).take 16 ++ ((KT.drop 32).take 16 ++ KT.drop 48)) := rfl
 rw [e1, e2]
 simp only [List.map_append]
 rw [rootsK0, rootsK1, rootsK2, rootsK3]
theorem rootK (i : Nat) (h : i < 64) : sandglassref07_root.f 80 (PR.getD i 0) 3 = some (iv (KT.getD i 0)) := by
 have h1 : i < PR.length := h
 have h2 : i < KT.length := h
 have := congrArg (·[i]?) rootsK
 simp only [List.getElem?_map, List.getElem?_eq_getElem h1, List.getElem?_eq_getElem h2, Option.map_some, Option.some.injEq] at this
 rw [List.getD_eq_getElem?_getD, List.getD_eq_getElem?_getD, List.getElem?_eq_getElem h1, List.getElem?_eq_getElem h2]
 exact this
theorem rootH (i : Nat) (h : i < 8) : sandglassref07_root.f 80 (PR.getD i 0) 2 = some (iv (F0.l.getD i 0)) := by
 have h1 : i < (PR.take 8).length := h
 have h2 : i < F0.l.length := h
 have := congrArg (·[i]?) rootsH
 simp only [List.getElem?_map, List.getElem?_eq_getElem h1, List.getElem?_eq_getElem h2, Option.map_some, Option.some.injEq, List.getElem_take] at this
 rw [List.getD_eq_getElem?_getD, List.getD_eq_getElem?_getD, List.getElem?_eq_getElem (show i < PR.length by rw [List.length_take] at h1; omega), List.getElem?_eq_getElem h2]
 exact this
end Go.Proofs.YtifpomknkjegeaaDoor.Sha
namespace Go.Proofs.YtifpomknkjegeaaDoor.Sha
open Go.RowKit Go.Proofs.YtifpomknkjegeaaDoor.PAll Go.Proofs.YtifpomknkjegeaaDoorW.PrintWords Go.Proofs.YtifpomknkjegeaaDoorW.PrintLast Go.Proofs.YtifpomknkjegeaaDoorW.PrintMore SG
set_option linter.unusedVariables false
theorem rootKC (i : Nat) (h : i < 64) (w : World) : Calls Tryd.prog 57 #[.int .u64 (PR.getD i 0), .int .i64 3] w fun e w' => e = .returned (.int .u32 (iv (KT.getD i 0))) ∧ Below w.heap.size w w' :=
 sandglassref07_root.calls 80 _ 3 _ w (rootK i h)
theorem rootHC (i : Nat) (h : i < 8) (w : World) : Calls Tryd.prog 57 #[.int .u64 (PR.getD i 0), .int .i64 2] w fun e w' => e = .returned (.int .u32 (iv (F0.l.getD i 0))) ∧ Below w.heap.size w w' :=
 sandglassref07_root.calls 80 _ 2 _ w (rootH i h)
theorem primesC (n : Nat) (k : Nat) (l : List Int) (hl : l.length = n) (hf : sandglassref07_primes.f k (n : Int) = some l) (w : World) : Calls Tryd.prog 56 #[.int .i64 (n : Int)] w fun e w' => ∃ A c, e = .returned (.slice A n c) ∧ Kd.R (Kd.int .u64) 87 w' w.heap.size (fun _ => True) (.slice A n c) l ∧ Below w.heap.size w w' := by
 subst hl
 refine (sandglassref07_primes.calls k _ l w hf).mono ?_
 rintro e w' ⟨v, rfl, hr, hb⟩
 obtain ⟨A, c, rfl, _, hC⟩ := Kd.R_reads hr
 exact ⟨A, c, rfl, hr, hb⟩
theorem primes64C (w : World) : Calls Tryd.prog 56 #[.int .i64 64] w fun e w' => ∃ A c, e = .returned (.slice A 64 c) ∧ Kd.R (Kd.int .u64) 87 w' w.heap.size (fun _ => True) (.slice A 64 c) PR ∧ Below w.heap.size w w' := primesC 64 11700 PR rfl primes64 w
theorem primes8C (w : World) : Calls Tryd.prog 56 #[.int .i64 8] w fun e w' => ∃ A c, e = .returned (.slice A 8 c) ∧ Kd.R (Kd.int .u64) 87 w' w.heap.size (fun _ => True) (.slice A 8 c) (PR.take 8) ∧ Below w.heap.size w w' := primesC 8 200 (PR.take 8) rfl primes8 w
end Go.Proofs.YtifpomknkjegeaaDoor.Sha
namespace Go.Proofs.YtifpomknkjegeaaDoor.Sha
open Go.RowKit Go.Proofs.YtifpomknkjegeaaDoor.PAll Go.Proofs.YtifpomknkjegeaaDoorW.PrintWords Go.Proofs.YtifpomknkjegeaaDoorW.PrintLast Go.Proofs.YtifpomknkjegeaaDoorW.PrintMore SG
set_option linter.unusedVariables false
set_option linter.unusedSimpArgs false
theorem atN {k : IntKind} {l : List Int} {A : Option Addr} {n : Nat} {w : World} (h : Kd.C (Kd.int k) w A n l) (h0 : 0 < n) : ∃ ad, A = some ad ∧ ∀ w', Below w.heap.size w w' → ∀ j, j < n → w'.cell? (ad.add j) = some (.int k (l.getD j 0)) := by
 obtain ⟨ad, e, _⟩ := Kd.at_int h 0 (by omega) (by omega)
 refine ⟨ad, e, fun w' hb j hj => ?_⟩
 obtain ⟨ad', e', x⟩ := Kd.at_int (Kd.C_below h hb) (j : Int) (by omega) (by omega)
 rw [e] at e'
 injection e' with e'
 subst e'
 rw [Int.toNat_natCast] at x
 rw [x]
 rfl
theorem KT_take (i : Nat) (h : i < 64) : KT.take (i + 1) = KT.take i ++ [KT.getD i 0] := by
 have h1 : i < KT.length := h
 rw [List.take_add_one, List.getElem?_eq_getElem h1, List.getD_eq_getElem?_getD, List.getElem?_eq_getElem h1]
 rfl
theorem KT_len (i : Nat) (h : i ≤ 64) : (KT.take i).length = i := by rw [List.length_take]; exact Nat.min_eq_left h
theorem F0_take (i : Nat) (h : i < 8) : F0.l.take (i + 1) = F0.l.take i ++ [F0.l.getD i 0] := by
 have h1 : i < F0.l.length := h
 rw [List.take_add_one, List.getElem?_eq_getElem h1, List.getD_eq_getElem?_getD, List.getElem?_eq_getElem h1]
 rfl
theorem F0_len (i : Nat) (h : i ≤ 8) : (F0.l.take i).length = i := by rw [List.length_take]; exact Nat.min_eq_left h
def ivs (l : List (BitVec 32)) : List Int := l.map iv
theorem ivs_len (l : List (BitVec 32)) : (ivs l).length = l.length := List.length_map _
theorem ivs_getD (l : List (BitVec 32)) (i : Nat) : (ivs l).getD i 0 = iv (l.getD i 0) := by
 simp only [ivs, List.getD_eq_getElem?_getD, List.getElem?_map]
 cases l[i]? <;> rfl
theorem atW {l : List (BitVec 32)} {A : Option Addr} {n : Nat} {w : World} (h : Kd.C (Kd.int .u32) w A n (ivs l)) (h0 : 0 < n) : ∃ ad, A = some ad ∧ ∀ w', Below w.heap.size w w' → ∀ j, j < n → w'.cell? (ad.add j) = some (.int .u32 (iv (l.getD j 0))) := by
 obtain ⟨ad, e, hh⟩ := atN h h0
 exact ⟨ad, e, fun w' hb j hj => by rw [hh w' hb j hj, ivs_getD]⟩
set_option maxHeartbeats 8000000 in
set_option maxRecDepth 100000 in
theorem K_walk (w : World) : Calls Tryd.prog 58 #[] w fun e w' => e = .returned (.agg (arr KT)) ∧ Below w.heap.size w w' := by
 go_enter Tryd.func58, Tryd.ntmps58
 go_wp2_with (first | ((with_reducible refine gate_dst (N := 0) rfl ?_); refine sqo (N := 0) (cs := (arr [])) (t := 93) ?_; intro g0 hg0 w0 hbox0 hb0; have HX0 := sqA hbox0; have HB0 := sqA hb0; have HG0 := sqA hg0; clear hg0 hbox0 hb0) | ((with_reducible refine gate_dst (N := 1) rfl ?_); refine sqo (N := 1) (cs := (arr [])) (t := 93) ?_; intro g1 hg1 w1 hbox1 hb1; have HX1 := sqA hbox1; have HB1 := sqA hb1; have HG1 := sqA hg1; clear hg1 hbox1 hb1) | ((with_reducible refine gate_callee (f := 56) rfl ?_); refine goesL_ (some 4) rfl rfl Tryd.func56 (by kernel_rfl) rfl #[.int .i64 64] rfl sqm ?_; (with_reducible refine (primes64C _).mono ?_); rintro e w2 ⟨A, c, rfl, hC, hb⟩; refine ⟨_, rfl, ?_⟩; have HR2 := sqA (Kd.R_lower hC HB1.out.size); have HX2 := sqA (blk_below HX1.out hb); have HB2 := sqA (below_step HB1.out hb); clear hC hb))
 go_loopg [3] 64 (fun kq v3 w' => ∃ (i : Nat), v3 = .int .i64 (i : Int) ∧ Aside0 (i + kq = 64) ∧ Aside0 (w'.heap[g1]? = some (.cells (arr (KT.take i)) 93 (0, 0))) ∧ Aside0 (Below w0.heap.size w0 w') ∧ Aside0 (Kd.R (Kd.int .u64) 87 w' w0.heap.size (fun _ => True) (.slice A 64 c) PR))
 case atStart => exact ⟨0, rfl, ⟨by omega⟩, HX2, HB2, HR2⟩
 case round =>
  obtain ⟨i, rfl, HI, HXi, HBi, HCi⟩ := hrel
  have hi := HI.out
  by_cases hat : i < 64
  ·
   obtain ⟨k1, rfl⟩ : ∃ k1, gk = k1 + 1 := ⟨gk - 1, by omega⟩
   have hlt : decide ((i : Int) < 64) = true := decide_eq_true (by omega)
   have hil : (i : Int) < 64 := by omega
   have HI1 : Aside0 (i + 1 + k1 = 64) := ⟨by omega⟩
   have HAT := sqA hat
   have hC := (Kd.R_reads' HCi.out).2.2
   obtain ⟨ad, rfl, xs⟩ := atN hC (by decide)
   have x0 := xs _ (Below.refl _ _) i hat
   have xc := (blk_cell HXi.out i).trans (arr_zero (by rw [KT_len i (by omega)]; exact Nat.le_refl _) hat)
   have xf := blk_frozen HXi.out i
   clear HI hC xs
   go_wp2_with (first | ((with_reducible refine gate_callee (f := 57) rfl ?_); refine goesL_ (some 14) rfl rfl Tryd.func57 (by kernel_rfl) rfl #[.int .u64 (PR.getD i 0), .int .i64 3] rfl sqm ?_; (with_reducible refine (rootKC i HAT.out _).mono ?_); rintro e w3 ⟨rfl, hb⟩; refine ⟨_, rfl, ?_⟩; have HX3 := sqA (blk_below HXi.out hb); have HB3 := sqA (below_step HBi.out hb); have HR3 := sqA (Kd.R_below HCi.out hb); have yc := (blk_cell HX3.out i).trans (arr_zero (by rw [KT_len i (by omega)]; exact Nat.le_refl _) HAT.out); have yf := blk_frozen HX3.out i; clear hb) | ((with_reducible refine gate_store (t := 89) (p := 15) (v := .tmp 14) rfl ?_); refine sqp (w1 := (w3.setCell ⟨g1, i, none⟩ (.int .u32 (iv (KT.getD i 0))))) ?_; intro w4 hw4; have HX4 : Aside0 (w4.heap[g1]? = some (.cells (arr (KT.take (i + 1))) 93 (0, 0))) := ⟨(by rw [hw4, KT_take i HAT.out, ← arr_set (by rw [KT_len i (by omega)]; exact HAT.out), KT_len i (by omega)]; exact blk_set HX3.out i _)⟩; have HB4 : Aside0 (Below w0.heap.size w0 w4) := ⟨(by rw [hw4]; exact Below.setCell HB3.out (Nat.le_of_eq HG1.out.symm) _)⟩; have HR4 : Aside0 (Kd.R (Kd.int .u64) 87 w4 w0.heap.size (fun _ => True) (.slice (some ad) 64 c) PR) := ⟨(by rw [hw4]; exact Kd.R_set HR3.out HX3.out (by decide) i _)⟩; clear hw4))
   go_roundg k1
   case measure => omega
   case rel => exact ⟨i + 1, by first | rfl | (simp; done), HI1, HX4, HB4, HR4⟩
  ·
   obtain rfl : gk = 0 := by omega
   obtain rfl : i = 64 := by omega
   have hge : decide (((64 : Nat) : Int) < 64) = false := by decide
   have HK : Aside0 (KT.take 64 = KT) := ⟨rfl⟩
   have HXe := sqA HXi.out
   rw [HK.out] at HXe
   have HX0i := sqA (blk_below HX0.out HBi.out)
   clear HI
   go_wp2_with (first | ((with_reducible refine gate_load (t := 93) (x := .tmp 1) rfl ?_); refine wpList_load_row rfl 93 (.tmp 1) rfl g1 rfl 93 (arr KT) (0, 0) _ HXe.out Tryd.underlying93 rfl (by kernel_rfl) ?_) | ((with_reducible refine gate_store (t := 93) (p := 0) (v := .tmp 16) rfl ?_); refine wpList_store_row rfl 93 (.tmp 0) (.tmp 16) rfl g0 (arr KT) rfl rfl 93 (arr []) HX0i.out (by kernel_rfl) (by rfl) arr_one ?_))
   refine bodyPost_ret (results_cell_row rfl _ _ g0 93 (arr KT) (0, 0) _ rfl (setRow_heap _ _ _ _ _ _ HX0i.out) Tryd.underlying93 rfl (by kernel_rfl)) rfl ⟨rfl, ?_⟩
   exact below_setRow ((HB0.out.trans (HBi.out.mono HB0.out.size))) (Nat.le_of_eq HG0.out.symm) _
end Go.Proofs.YtifpomknkjegeaaDoor.Sha
namespace Go.Proofs.YtifpomknkjegeaaDoor.Sha
open Go.RowKit Go.Proofs.YtifpomknkjegeaaDoor.PAll Go.Proofs.YtifpomknkjegeaaDoorW.PrintWords Go.Proofs.YtifpomknkjegeaaDoorW.PrintLast Go.Proofs.YtifpomknkjegeaaDoorW.PrintMore SG
set_option linter.unusedVariables false
set_option linter.unusedSimpArgs false
theorem word1_C (w : World) (x : Int) : Kd.C (Kd.int .u32) (w.alloc (.cells #[.int .u32 x] 89)) (some ⟨w.heap.size, 0, none⟩) 1 [x] := by
 refine Kd.C_of_reads (d := 0) ⟨rfl, by decide, fun _ => ⟨_, rfl, fun j hj => ?_⟩⟩
 rw [add_plain]
 refine (cell_of_row _ _ j _ 89 (0, 0) (heap_alloc_new w _)).trans ?_
 match j, hj with
 | 0, _ => rfl
 | j + 1, h => exact absurd h (by omega)
theorem PR_take (i : Nat) (h : i < 8) : (PR.take 8).getD i 0 = PR.getD i 0 := by
 simp only [List.getD_eq_getElem?_getD, List.getElem?_take, if_pos h]
theorem ivs_snoc (l : List (BitVec 32)) (v : BitVec 32) : ivs (l ++ [v]) = ivs l ++ [iv v] := by simp [ivs]
theorem arr_C {w : World} {g : Nat} {t : TypeId} {f : Nat × Nat} (h : w.heap[g]? = some (.cells (arr KT) t f)) : Kd.C (Kd.int .u32) w (some ⟨g, 0, none⟩) 64 (ivs KT) := by
 refine Kd.C_of_reads (d := 0) ⟨rfl, by decide, fun _ => ⟨_, rfl, fun j hj => ?_⟩⟩
 rw [add_plain]
 refine (cell_of_row _ _ j _ t f h).trans ?_
 rw [arr_get hj, ivs_getD]
set_option maxHeartbeats 16000000 in
set_option maxRecDepth 100000 in
theorem table_walk (w : World) : Calls Tryd.prog 40 #[] w fun e w' => ∃ A c A2 c2, e = .returned (.agg #[.slice A 8 c, .slice A2 64 c2]) ∧ 8 ≤ c ∧ 64 ≤ c2 ∧ Kd.C (Kd.int .u32) w' A 8 (ivs F0.l) ∧ Kd.C (Kd.int .u32) w' A2 64 (ivs KT) ∧ Below w.heap.size w w' := by
 go_enter Tryd.func40, Tryd.ntmps40
 go_wp2_with (first | ((with_reducible refine gate_dst (N := 0) rfl ?_); refine sqo (N := 0) (cs := #[.slice none 0 0, .slice none 0 0]) (t := 75) ?_; intro g0 hg0 w0 hbox0 hb0; have HX0 := sqA hbox0; have HB0 := sqA hb0; have HG0 : Aside0 (w.heap.size ≤ g0) := ⟨by rw [hg0]; exact Nat.le_refl _⟩; clear hg0 hbox0 hb0) | ((with_reducible refine gate_dst (N := 1) rfl ?_); refine sqo (N := 1) (cs := #[.slice none 0 0, .slice none 0 0]) (t := 75) ?_; intro g1 hg1 w1 hbox1 hb1; have HX1 := sqA hbox1; have HB1 := sqA hb1; have HG1 : Aside0 (w0.heap.size ≤ g1) := ⟨by rw [hg1]; exact Nat.le_refl _⟩; have x0 : w1.cell? ⟨g1, 0, none⟩ = some (.slice none 0 0) := (blk_cell hbox1 0).trans rfl; have xf0 := blk_frozen hbox1 0; have x1 : w1.cell? ⟨g1, 1, none⟩ = some (.slice none 0 0) := (blk_cell hbox1 1).trans rfl; have xf1 := blk_frozen hbox1 1; clear hg1 hbox1 hb1) | ((with_reducible refine gate_store (t := 75) (p := 1) (v := .tmp 5) rfl ?_); refine sqp (w1 := ((w1.setCell ⟨g1, 0, none⟩ (.slice none 0 0)).setCell ⟨g1, 1, none⟩ (.slice none 0 0))) ?_; intro w2 hw2; have HX2 : Aside0 (w2.heap[g1]? = some (.cells #[.slice none 0 0, .slice none 0 0] 75 (0, 0))) := ⟨(by rw [hw2]; exact blk_set (blk_set HX1.out 0 _) 1 _)⟩; have HB2 : Aside0 (Below w0.heap.size w0 w2) := ⟨(by rw [hw2]; exact Below.setCell (Below.setCell HB1.out HG1.out _) HG1.out _)⟩; clear hw2 x0 xf0 x1 xf1) | ((with_reducible refine gate_callee (f := 56) rfl ?_); refine goesL_ (some 6) rfl rfl Tryd.func56 (by kernel_rfl) rfl #[.int .i64 8] rfl sqm ?_; (with_reducible refine (primes8C _).mono ?_); rintro e w3 ⟨Ap, cp, rfl, hC, hb⟩; refine ⟨_, rfl, ?_⟩; have HP3 := sqA (Kd.R_lower hC (Nat.le_trans HB0.out.size HB2.out.size)); have HX3 := sqA (blk_below HX2.out hb); have HB3a := sqA (below_step HB2.out hb); have HB3 : Aside0 (Below w.heap.size w w3) := ⟨HB0.out.trans (HB3a.out.mono HB0.out.size)⟩; have HY3 := sqA (blk_below HX0.out HB3a.out); clear hC hb))
 go_loopg [3] 8 (fun kq v3 w' => ∃ (i : Nat) (A : Option Addr) (c : Nat), v3 = .int .i64 (i : Int) ∧ Aside0 (i + kq = 8) ∧ Aside0 (w'.heap[g1]? = some (.cells #[.slice A i c, .slice none 0 0] 75 (0, 0))) ∧ Aside0 (Kd.R (Kd.int .u32) 89 w' w.heap.size (fun _ => True) (.slice A i c) (ivs (F0.l.take i))) ∧ Aside0 (Kd.R (Kd.int .u64) 87 w' w.heap.size (fun _ => True) (.slice Ap 8 cp) (PR.take 8)) ∧ Aside0 (w'.heap[g0]? = some (.cells #[.slice none 0 0, .slice none 0 0] 75 (0, 0))) ∧ Aside0 (Below w.heap.size w w'))
 case atStart => exact ⟨0, none, 0, rfl, ⟨by omega⟩, HX3, ⟨Kd.R_nil _ _ _ _ _⟩, HP3, HY3, HB3⟩
 case round =>
  obtain ⟨i, A, c, rfl, HI, HXi, HRi, HPi, HYi, HBi⟩ := hrel
  have hi := HI.out
  by_cases hat : i < 8
  ·
   obtain ⟨k1, rfl⟩ : ∃ k1, gk = k1 + 1 := ⟨gk - 1, by omega⟩
   have hlt : decide ((i : Int) < 8) = true := decide_eq_true (by omega)
   have hil : (i : Int) < 8 := by omega
   have HI1 : Aside0 (i + 1 + k1 = 8) := ⟨by omega⟩
   have HAT := sqA hat
   obtain ⟨ad, rfl, xs⟩ := atN (Kd.R_reads' HPi.out).2.2 (by decide)
   have HC0 : Aside0 (wr.drew.cell? (ad.add i) = some (.int .u64 (PR.getD i 0))) := ⟨by rw [xs _ (below_drew (Below.refl _ _)) i hat, PR_take i hat]⟩
   have SOF : Aside0 (∀ w', Below wr.heap.size wr w' → w'.cell? ⟨g1, 0, none⟩ = some (.slice A i c) ∧ w'.cell? (ad.add i) = some (.int .u64 (PR.getD i 0))) := ⟨fun w' hb => ⟨(blk_cell (blk_below HXi.out hb) 0).trans rfl, by rw [xs _ hb i hat, PR_take i hat]⟩⟩
   have NE1 : Aside0 (some g1 ≠ (Value.slice A i c).ownBlock) := ⟨Kd.R_ne HRi.out HXi.out (by decide)⟩
   have NE0 : Aside0 (some g0 ≠ (Value.slice A i c).ownBlock) := ⟨Kd.R_ne HRi.out HYi.out (by decide)⟩
   have GLE : Aside0 (w.heap.size ≤ g1) := ⟨Nat.le_trans HB0.out.size HG1.out⟩
   have GNE : Aside0 (g0 ≠ g1) := ⟨Nat.ne_of_lt (Nat.lt_of_lt_of_le (blk_lt HX0.out) HG1.out)⟩
   clear HI xs
   go_wp2
   refine start_ (n := 11) (S := fun w' => w'.cell? ⟨g1, 0, none⟩ = some (.slice A i c) ∧ w'.cell? (ad.add i) = some (.int .u64 (PR.getD i 0))) (ds := [10]) #[false, false, false, false, false, false, false, false, false, false, false] (by kernel_rfl) rfl rfl ⟨(blk_cell (blk_drew HXi.out) 0).trans rfl, HC0.out⟩ (fun hHeld => ?_)
   refine pure_ (i := 0) (N := some 11) (v := ?_) (a' := ?_) #[true, false, false, false, false, false, false, false, false, false, false] rfl rfl (by kernel_rfl) (fun _ _ _ h => h) (Or.inl ⟨by rfl, ?_⟩) ?_ ?_
   rotate_left
   ·
    intro w'
    go_simp
    with_reducible rfl
   rotate_left
   ·
    simp only [Act.put, List.setIfInBounds_toArray, List.set_cons_zero, List.set_cons_succ, i64_w, i32_w]
    rfl
   refine take_ (i := 1) (N := some 12) (v := ?_) (a' := ?_) #[true, true, false, false, false, false, false, false, false, false, false] rfl rfl (by kernel_rfl) (fun _ _ _ h => h) (Or.inl ⟨by rfl, ?_⟩) hHeld ?_ ?_
   rotate_left
   ·
    rintro w' ⟨s0, s1⟩
    go_simp
    with_reducible rfl
   rotate_left
   ·
    simp only [Act.put, List.setIfInBounds_toArray, List.set_cons_zero, List.set_cons_succ, i64_w, i32_w]
    rfl
   refine pure_ (i := 2) (N := some 13) (v := ?_) (a' := ?_) #[true, true, true, false, false, false, false, false, false, false, false] rfl rfl (by kernel_rfl) (fun _ _ _ h => h) (Or.inl ⟨by rfl, ?_⟩) ?_ ?_
   rotate_left
   ·
    intro w'
    go_simp
    with_reducible rfl
   rotate_left
   ·
    simp only [Act.put, List.setIfInBounds_toArray, List.set_cons_zero, List.set_cons_succ, i64_w, i32_w]
    rfl
   refine pure_ (i := 3) (N := some 14) (v := ?_) (a' := ?_) #[true, true, true, true, false, false, false, false, false, false, false] rfl rfl (by kernel_rfl) (fun _ _ _ h => h) (Or.inl ⟨by rfl, ?_⟩) ?_ ?_
   rotate_left
   ·
    intro w'
    go_simp
    with_reducible rfl
   rotate_left
   ·
    simp only [Act.put, List.setIfInBounds_toArray, List.set_cons_zero, List.set_cons_succ, i64_w, i32_w]
    rfl
   refine take_ (i := 4) (N := some 15) (v := ?_) (a' := ?_) #[true, true, true, true, true, false, false, false, false, false, false] rfl rfl (by kernel_rfl) (fun _ _ _ h => h) (Or.inl ⟨by rfl, ?_⟩) hHeld ?_ ?_
   rotate_left
   ·
    rintro w' ⟨s0, s1⟩
    go_simp
    with_reducible rfl
   rotate_left
   ·
    simp only [Act.put, List.setIfInBounds_toArray, List.set_cons_zero, List.set_cons_succ, i64_w, i32_w]
    rfl
   refine take_ (i := 5) (N := some 16) (v := ?_) (a' := ?_) #[true, true, true, true, true, true, false, false, false, false, false] rfl rfl (by kernel_rfl) (fun _ _ _ h => h) (Or.inl ⟨by rfl, ?_⟩) hHeld ?_ ?_
   rotate_left
   ·
    rintro w' ⟨s0, s1⟩
    go_simp
    with_reducible rfl
   rotate_left
   ·
    simp only [Act.put, List.setIfInBounds_toArray, List.set_cons_zero, List.set_cons_succ, i64_w, i32_w]
    rfl
   refine one_ (i := 6) (N := some 17) #[true, true, true, true, true, true, true, false, false, false, false] rfl rfl (by kernel_rfl) (by decide) (fun K hK => ?_)
   go_simp
   go_at_call 57
   refine (rootHC i HAT.out _).mono ?_
   rintro e wa ⟨rfl, hb⟩
   have HBa := sqA (below_step (below_drew (Below.refl wr.heap.size wr)) hb)
   clear hb
   refine hK.out _ _ (SOF.out _ HBa.out) (fun hHeld => ?_)
   clear hK K
   refine norm_ (a' := ?_) ?_ ?_
   rotate_left
   ·
    first | (show Act.put _ (some 17) _ = _; simp only [Act.put, List.setIfInBounds_toArray, List.set_cons_zero, List.set_cons_succ, i64_w, i32_w]; rfl) | rfl
   refine one_ (i := 7) (N := some 18) #[true, true, true, true, true, true, true, true, false, false, false] rfl rfl (by kernel_rfl) (by decide) (fun K hK => ?_)
   go_simp
   refine hK.out _ _ (SOF.out _ (below_alloc HBa.out _)) (fun hHeld => ?_)
   clear hK K
   refine norm_ (a' := ?_) ?_ ?_
   rotate_left
   ·
    first | (show Act.put _ (some 18) _ = _; simp only [Act.put, List.setIfInBounds_toArray, List.set_cons_zero, List.set_cons_succ, i64_w, i32_w]; rfl) | rfl
   refine one_ (i := 8) (N := some 19) #[true, true, true, true, true, true, true, true, true, false, false] rfl rfl (by kernel_rfl) (by decide) (fun K hK => ?_)
   refine Kd.R_append_rows_step (Kd.int .u32) (Rr := fun x cs => cs = [Value.int .u32 x]) (w0 := wr) w.heap.size rfl (.tmp 12) (.tmp 18) 73 89 (.int .u32 0) 4 rfl Tryd.underlying73 (by kernel_rfl) rfl (by decide) (by decide) (.slice A i c) (ivs (F0.l.take i)) [iv (F0.l.getD i 0)] (some ⟨_, 0, none⟩) 1 1 (fun _ => True) (fun _ => False) rfl rfl (Kd.R_below HRi.out (below_alloc HBa.out _)) (word1_C _ _) (fun _ _ h => h) (fun _ hk => hk.elim) (fun _ _ => trivial) (Below.mono (below_alloc HBa.out _) HBi.out.size) (Nat.le_trans HBi.out.size (Below.size (B := wr.heap.size) (below_alloc HBa.out _))) (by rw [ivs_len, F0_len i (by have := HAT.out; omega)]; have := HAT.out; omega) ?_
   intro v1 w9 hr9 hb9 hg9 hat9
   rw [← ivs_snoc, ← F0_take i HAT.out] at hr9
   have HX9 := sqA (blk_grown (blk_below HXi.out (below_alloc HBa.out _)) hg9 NE1.out)
   have HP9 := sqA (Kd.R_over' (Kd.R_below HPi.out (below_alloc HBa.out _)) (Kd.R_typed (Kd.R_below HRi.out (below_alloc HBa.out _))) (by decide) hg9)
   have HB9 := sqA (HBi.out.trans hb9)
   have HY9 := sqA (blk_grown (blk_below HYi.out (below_alloc HBa.out _)) hg9 NE0.out)
   obtain ⟨A9, c9, rfl, hc9, hC9⟩ := Kd.R_reads hr9
   have hl9 : (ivs (F0.l.take (i + 1))).length = i + 1 := by rw [ivs_len, F0_len (i + 1) HAT.out]
   rw [hl9] at hr9 ⊢
   have HR9 := sqA hr9
   have hS9 : w9.cell? ⟨g1, 0, none⟩ = some (.slice A i c) ∧ w9.cell? (ad.add i) = some (.int .u64 (PR.getD i 0)) := ⟨(blk_cell HX9.out 0).trans rfl, by obtain ⟨ad', e', xs9⟩ := atN (Kd.R_reads' HP9.out).2.2 (by decide); injection e' with e'; rw [e', xs9 _ (Below.refl _ _) i HAT.out, PR_take i HAT.out]⟩
   have yc := (blk_cell HX9.out 0).trans rfl
   have yf := blk_frozen HX9.out 0
   have HS9 := sqA hS9
   clear hr9 hb9 hg9 hat9 hc9 hC9 hl9 hS9
   refine hK.out _ _ HS9.out (fun hHeld => ?_)
   clear hK K
   refine norm_ (a' := ?_) ?_ ?_
   rotate_left
   ·
    first | (show Act.put _ (some 19) _ = _; simp only [Act.put, List.setIfInBounds_toArray, List.set_cons_zero, List.set_cons_succ, i64_w, i32_w]; rfl) | rfl
   refine pure_ (i := 9) (N := some 20) (v := ?_) (a' := ?_) #[true, true, true, true, true, true, true, true, true, true, false] rfl rfl (by kernel_rfl) (fun _ _ _ h => h) (Or.inl ⟨by rfl, ?_⟩) ?_ ?_
   rotate_left
   ·
    intro w'
    go_simp
    with_reducible rfl
   rotate_left
   ·
    simp only [Act.put, List.setIfInBounds_toArray, List.set_cons_zero, List.set_cons_succ, i64_w, i32_w]
    rfl
   refine last_ (i := 10) (N := none) #[true, true, true, true, true, true, true, true, true, true, true] rfl rfl (by kernel_rfl) (by decide) (fun K hK => ?_)
   have yc : w9.cell? ⟨g1, 0, none⟩ = some (.slice A i c) := (blk_cell HX9.out 0).trans rfl
   have yf : w9.frozen? ⟨g1, 0, none⟩ = false := blk_frozen HX9.out 0
   go_simp
   refine hK.out _ _ ?_
   clear hK K
   refine done_ (by kernel_rfl) ?_
   go_wp2
   go_roundg k1
   case measure => omega
   case rel => exact ⟨i + 1, A9, c9, by first | rfl | (simp; done), HI1, ⟨blk_set HX9.out 0 _⟩, ⟨Kd.R_set HR9.out HX9.out (by decide) 0 _⟩, ⟨Kd.R_set HP9.out HX9.out (by decide) 0 _⟩, ⟨blk_far HY9.out GNE.out _⟩, ⟨Below.setCell HB9.out GLE.out _⟩⟩
  ·
   obtain rfl : gk = 0 := by omega
   obtain rfl : i = 8 := by omega
   have hge : decide (((8 : Nat) : Int) < 8) = false := by decide
   have HR8 : Aside0 (Kd.R (Kd.int .u32) 89 wr w.heap.size (fun _ => True) (.slice A 8 c) (ivs F0.l)) := ⟨HRi.out⟩
   have hc8 : 8 ≤ c := (Kd.R_reads' HRi.out).2.1
   have HC8 := sqA hc8
   have GLE : Aside0 (w.heap.size ≤ g1) := ⟨Nat.le_trans HB0.out.size HG1.out⟩
   have GNE : Aside0 (g0 ≠ g1) := ⟨Nat.ne_of_lt (Nat.lt_of_lt_of_le (blk_lt HX0.out) HG1.out)⟩
   clear HI HRi HPi hc8
   go_upto_region 8 with (first | ((with_reducible refine gate_callee (f := 58) rfl ?_); refine goesL_ (some 21) rfl rfl Tryd.func58 (by kernel_rfl) rfl #[] rfl sqm ?_; (with_reducible refine (K_walk _).mono ?_); rintro e w4 ⟨rfl, hb⟩; refine ⟨_, rfl, ?_⟩; have HB4 := sqA hb; clear hb) | ((with_reducible refine gate_dst (N := 4) rfl ?_); refine sqo (N := 4) (cs := (arr [])) (t := 93) ?_; intro g4 hg4 w5 hbox5 hb5; have HX5 := sqA hbox5; have HB5 := sqA hb5; have HG4 := sqA hg4; clear hg4 hbox5 hb5) | ((with_reducible refine gate_store (t := 93) (p := 4) (v := .tmp 21) rfl ?_); refine wpList_store_row rfl 93 (.tmp 4) (.tmp 21) rfl g4 (arr KT) rfl rfl 93 (arr []) HX5.out (by kernel_rfl) (by rfl) arr_one ?_; obtain ⟨w6, hw6⟩ : ∃ w6, w6 = w5.setRow g4 (arr KT) := ⟨_, rfl⟩; rw [← hw6]; have HX6 : Aside0 (w6.heap[g4]? = some (.cells (arr KT) 93 (0, 0))) := ⟨(by rw [hw6]; exact setRow_heap _ _ _ _ _ _ HX5.out)⟩; have hb46 : Below w4.heap.size w4 w6 := (by rw [hw6]; exact below_setRow HB5.out (Nat.le_of_eq HG4.out.symm) _); have HBr6 : Aside0 (Below wr.heap.size wr w6) := ⟨below_step HB4.out hb46⟩; clear hw6 hb46))
   (try simp only [Act.put, List.setIfInBounds_toArray, List.set_cons_zero, List.set_cons_succ])
   have HB6 := sqA (below_step HBi.out HBr6.out)
   have HS6 := sqA (blk_below HXi.out HBr6.out)
   have HY6 := sqA (blk_below HYi.out HBr6.out)
   have HR6 := sqA (Kd.R_below HR8.out HBr6.out)
   refine start_ (n := 6) (S := fun w' => w'.cell? ⟨g1, 1, none⟩ = some (.slice none 0 0) ∧ w'.cell? ⟨g1, 0, none⟩ = some (.slice A 8 c)) (ds := [5]) #[false, false, false, false, false, false] (by kernel_rfl) rfl rfl ⟨(blk_cell (blk_drew HS6.out) 1).trans rfl, (blk_cell (blk_drew HS6.out) 0).trans rfl⟩ (fun hHeld => ?_)
   refine pure_ (i := 0) (N := some 22) (v := ?_) (a' := ?_) #[true, false, false, false, false, false] rfl rfl (by kernel_rfl) (fun _ _ _ h => h) (Or.inl ⟨by rfl, ?_⟩) ?_ ?_
   rotate_left
   ·
    intro w'
    go_simp
    with_reducible rfl
   rotate_left
   ·
    simp only [Act.put, List.setIfInBounds_toArray, List.set_cons_zero, List.set_cons_succ, i64_w, i32_w]
    rfl
   refine take_ (i := 1) (N := some 23) (v := ?_) (a' := ?_) #[true, true, false, false, false, false] rfl rfl (by kernel_rfl) (fun _ _ _ h => h) (Or.inl ⟨by rfl, ?_⟩) hHeld ?_ ?_
   rotate_left
   ·
    rintro w' ⟨s0, s1⟩
    go_simp
    with_reducible rfl
   rotate_left
   ·
    simp only [Act.put, List.setIfInBounds_toArray, List.set_cons_zero, List.set_cons_succ, i64_w, i32_w]
    rfl
   refine take_ (i := 2) (N := some 24) (v := ?_) (a' := ?_) #[true, true, true, false, false, false] rfl rfl (by kernel_rfl) (fun _ _ _ h => h) (Or.inl ⟨by rfl, ?_⟩) hHeld ?_ ?_
   rotate_left
   ·
    rintro w' ⟨s0, s1⟩
    go_simp
    with_reducible rfl
   rotate_left
   ·
    simp only [Act.put, List.setIfInBounds_toArray, List.set_cons_zero, List.set_cons_succ, i64_w, i32_w]
    rfl
   refine one_ (i := 3) (N := some 25) #[true, true, true, true, false, false] rfl rfl (by kernel_rfl) (by decide) (fun K hK => ?_)
   refine Kd.R_append_rows_step (Kd.int .u32) (Rr := fun x cs => cs = [Value.int .u32 x]) (w0 := w6) w.heap.size rfl (.tmp 23) (.tmp 24) 73 89 (.int .u32 0) 4 rfl Tryd.underlying73 (by kernel_rfl) rfl (by decide) (by decide) (.slice none 0 0) [] (ivs KT) (some ⟨g4, 0, none⟩) 64 64 (fun _ => True) (fun _ => False) rfl rfl (Kd.R_nil _ _ _ _ _) (arr_C (blk_drew HX6.out)) (fun _ _ h => h) (fun _ hk => hk.elim) (fun _ _ => trivial) (below_drew (Below.refl _ _)) HB6.out.size (by decide) ?_
   intro v1 w9 hr9 hb9 hg9 hat9
   rw [List.nil_append] at hr9
   have HX9 := sqA (blk_grown (blk_drew HS6.out) hg9 (fun h => by cases h))
   have HB9 := sqA (HB6.out.trans hb9)
   have HY9 := sqA (blk_grown (blk_drew HY6.out) hg9 (fun h => by cases h))
   have HF9 := sqA (Kd.R_step HR6.out (fun k _ hk => (hg9.block k hk (fun h => by cases h))))
   obtain ⟨A9, c9, rfl, hc9, hC9⟩ := Kd.R_reads hr9
   have hl9 : (ivs KT).length = 64 := rfl
   rw [hl9] at hr9 ⊢
   clear hl9
   have HR9 : Aside0 (Kd.R (Kd.int .u32) 89 w9 w.heap.size (fun _ => True) (.slice A9 64 c9) (ivs KT)) := ⟨hr9⟩
   clear hr9 hb9 hg9 hat9 hc9 hC9
   refine hK.out _ _ ⟨(blk_cell HX9.out 1).trans rfl, (blk_cell HX9.out 0).trans rfl⟩ (fun hHeld => ?_)
   clear hK K
   refine norm_ (a' := ?_) ?_ ?_
   rotate_left
   ·
    first | (show Act.put _ (some 25) _ = _; simp only [Act.put, List.setIfInBounds_toArray, List.set_cons_zero, List.set_cons_succ, i64_w, i32_w]; rfl) | rfl
   refine pure_ (i := 4) (N := some 26) (v := ?_) (a' := ?_) #[true, true, true, true, true, false] rfl rfl (by kernel_rfl) (fun _ _ _ h => h) (Or.inl ⟨by rfl, ?_⟩) ?_ ?_
   rotate_left
   ·
    intro w'
    go_simp
    with_reducible rfl
   rotate_left
   ·
    simp only [Act.put, List.setIfInBounds_toArray, List.set_cons_zero, List.set_cons_succ, i64_w, i32_w]
    rfl
   refine last_ (i := 5) (N := none) #[true, true, true, true, true, true] rfl rfl (by kernel_rfl) (by decide) (fun K hK => ?_)
   have yc : w9.cell? ⟨g1, 1, none⟩ = some (.slice none 0 0) := (blk_cell HX9.out 1).trans rfl
   have yf : w9.frozen? ⟨g1, 1, none⟩ = false := blk_frozen HX9.out 1
   go_simp
   refine hK.out _ _ ?_
   clear hK K
   refine done_ (by kernel_rfl) ?_
   obtain ⟨w10, hw10⟩ : ∃ w10, w10 = w9.setCell ⟨g1, 1, none⟩ (.slice A9 64 c9) := ⟨_, rfl⟩
   have HX10 : Aside0 (w10.heap[g1]? = some (.cells #[.slice A 8 c, .slice A9 64 c9] 75 (0, 0))) := ⟨by rw [hw10]; exact blk_set HX9.out 1 _⟩
   have HY10 : Aside0 (w10.heap[g0]? = some (.cells #[.slice none 0 0, .slice none 0 0] 75 (0, 0))) := ⟨by rw [hw10]; exact blk_far HY9.out GNE.out _⟩
   have HR10 : Aside0 (Kd.R (Kd.int .u32) 89 w10 w.heap.size (fun _ => True) (.slice A9 64 c9) (ivs KT)) := ⟨by rw [hw10]; exact Kd.R_set HR9.out HX9.out (by decide) 1 _⟩
   have HF10 : Aside0 (Kd.R (Kd.int .u32) 89 w10 w.heap.size (fun _ => True) (.slice A 8 c) (ivs F0.l)) := ⟨by rw [hw10]; exact Kd.R_set HF9.out HX9.out (by decide) 1 _⟩
   have HB10 : Aside0 (Below w.heap.size w w10) := ⟨by rw [hw10]; exact Below.setCell HB9.out GLE.out _⟩
   rw [← hw10]
   have HG0z := sqA HG0.out
   clear hw10
   have y0 : w10.cell? ⟨g1, 0, none⟩ = some (.slice A 8 c) := (blk_cell HX10.out 0).trans rfl
   have y1 : w10.cell? ⟨g1, 1, none⟩ = some (.slice A9 64 c9) := (blk_cell HX10.out 1).trans rfl
   have z0 : w10.cell? ⟨g0, 0, none⟩ = some (.slice none 0 0) := (blk_cell HY10.out 0).trans rfl
   have zf0 := blk_frozen HY10.out 0
   have z1 : w10.cell? ⟨g0, 1, none⟩ = some (.slice none 0 0) := (blk_cell HY10.out 1).trans rfl
   have zf1 := blk_frozen HY10.out 1
   go_wp2_with (first | ((with_reducible refine gate_store (t := 75) (p := 0) (v := .tmp 27) rfl ?_); refine sqp (w1 := ((w10.setCell ⟨g0, 0, none⟩ (.slice A 8 c)).setCell ⟨g0, 1, none⟩ (.slice A9 64 c9))) ?_; intro w11 hw11; have HX11 : Aside0 (w11.heap[g0]? = some (.cells #[.slice A 8 c, .slice A9 64 c9] 75 (0, 0))) := ⟨(by rw [hw11]; exact blk_set (blk_set HY10.out 0 _) 1 _)⟩; have HR11 : Aside0 (Kd.R (Kd.int .u32) 89 w11 w.heap.size (fun _ => True) (.slice A9 64 c9) (ivs KT)) := ⟨(by rw [hw11]; exact Kd.R_set (Kd.R_set HR10.out HY10.out (by decide) 0 _) (blk_set HY10.out 0 _) (by decide) 1 _)⟩; have HF11 : Aside0 (Kd.R (Kd.int .u32) 89 w11 w.heap.size (fun _ => True) (.slice A 8 c) (ivs F0.l)) := ⟨(by rw [hw11]; exact Kd.R_set (Kd.R_set HF10.out HY10.out (by decide) 0 _) (blk_set HY10.out 0 _) (by decide) 1 _)⟩; have HB11 : Aside0 (Below w.heap.size w w11) := ⟨(by rw [hw11]; exact Below.setCell (Below.setCell HB10.out HG0.out _) HG0.out _)⟩; clear hw11))
   refine bodyPost_ret (results_cell_row rfl _ _ g0 75 #[.slice A 8 c, .slice A9 64 c9] (0, 0) _ rfl HX11.out Tryd.underlying75 rfl (by kernel_rfl)) rfl ?_
   exact ⟨A, c, A9, c9, rfl, HC8.out, (Kd.R_reads' HR11.out).2.1, (Kd.R_reads' HF11.out).2.2, (Kd.R_reads' HR11.out).2.2, HB11.out⟩
end Go.Proofs.YtifpomknkjegeaaDoor.Sha
namespace Go.Proofs.YtifpomknkjegeaaDoor.Sha
open Go.RowKit Go.Proofs.YtifpomknkjegeaaDoor.PAll Go.Proofs.YtifpomknkjegeaaDoorW.PrintWords Go.Proofs.YtifpomknkjegeaaDoorW.PrintLast Go.Proofs.YtifpomknkjegeaaDoorW.PrintMore SG
set_option linter.unusedVariables false
set_option linter.unusedSimpArgs false
theorem notU (e : BitVec 32) : bits .xor .u32 (iv e) 4294967295 = iv (e ^^^ BitVec.allOnes 32) := xorU e (BitVec.allOnes 32)
attribute [local go_sem] all_u8 all_u32 all_u64 wrapU addU shlU24 shlU16 shlU8 shrU3 shrU10 orU xorU andU notU
theorem ch_eq (e f g : BitVec 32) : (e &&& f) ^^^ ((e ^^^ BitVec.allOnes 32) &&& g) = g ^^^ (e &&& (f ^^^ g)) := by
 ext i hi
 simp only [BitVec.getElem_xor, BitVec.getElem_and, BitVec.getElem_allOnes]
 cases e[i] <;> cases f[i] <;> cases g[i] <;> rfl
theorem maj_eq (a b c : BitVec 32) : ((a &&& b) ^^^ (a &&& c)) ^^^ (b &&& c) = (a &&& b) ||| (c &&& (a ||| b)) := by
 ext i hi
 simp only [BitVec.getElem_xor, BitVec.getElem_and, BitVec.getElem_or]
 cases a[i] <;> cases b[i] <;> cases c[i] <;> rfl
theorem or_rr (v : BitVec 32) (n : Nat) : (v >>> n) ||| (v <<< (32 - n)) = rr v n := by
 unfold rr
 exact BitVec.or_comm _ _
theorem turn_k : ∀ n : Fin 32, 1 ≤ n.val → IntKind.u64.wrap (n.val : Int) = (n.val : Int) ∧ IntKind.u64.wrap (wrap64 (32 - (n.val : Int))) = ((32 - n.val : Nat) : Int) := by
 decide +kernel
set_option maxHeartbeats 8000000 in
set_option maxRecDepth 100000 in
theorem turn_gen (x a p q : Int) (w : World) (h1 : IntKind.u64.wrap a = p) (h0 : 0 ≤ p) (h2 : IntKind.u64.wrap (wrap64 (32 - a)) = q) (h3 : 0 ≤ q) :
  Calls Tryd.prog 62 #[.int .u32 x, .int .i64 a] w fun e w' => e = .returned (.int .u32 (bits .or .u32 (shr .u32 x p) (shl .u32 x q))) ∧ w' = w := by
 have d0 : decide (0 ≤ p) = true := decide_eq_true h0
 have d1 : decide (0 ≤ q) = true := decide_eq_true h3
 go_enter Tryd.func62, Tryd.ntmps62
 go_wp2
 go_ret
 exact ⟨rfl, rfl⟩
theorem turn_same (v : BitVec 32) (n : Nat) (h1 : 1 ≤ n) (h2 : n < 32) (w : World) :
  Calls Tryd.prog 62 #[.int .u32 (iv v), .int .i64 (n : Int)] w fun e w' => e = .returned (.int .u32 (iv (rr v n))) ∧ w' = w := by
 obtain ⟨k1, k2⟩ : IntKind.u64.wrap (n : Int) = (n : Int) ∧ IntKind.u64.wrap (wrap64 (32 - (n : Int))) = ((32 - n : Nat) : Int) := turn_k ⟨n, h2⟩ h1
 have h := turn_gen (iv v) (n : Int) _ _ w k1 (Int.natCast_nonneg _) k2 (Int.natCast_nonneg _)
 rw [shr_w v _ (by omega), shl_w v _ (by omega), orU, or_rr] at h
 exact h
theorem turn2 (v : BitVec 32) (w : World) : Calls Tryd.prog 62 #[.int .u32 (iv v), .int .i64 2] w fun e w' => e = .returned (.int .u32 (iv (rr v 2))) ∧ w' = w := turn_same v 2 (by decide) (by decide) w
theorem turn6 (v : BitVec 32) (w : World) : Calls Tryd.prog 62 #[.int .u32 (iv v), .int .i64 6] w fun e w' => e = .returned (.int .u32 (iv (rr v 6))) ∧ w' = w := turn_same v 6 (by decide) (by decide) w
theorem turn7 (v : BitVec 32) (w : World) : Calls Tryd.prog 62 #[.int .u32 (iv v), .int .i64 7] w fun e w' => e = .returned (.int .u32 (iv (rr v 7))) ∧ w' = w := turn_same v 7 (by decide) (by decide) w
theorem turn11 (v : BitVec 32) (w : World) : Calls Tryd.prog 62 #[.int .u32 (iv v), .int .i64 11] w fun e w' => e = .returned (.int .u32 (iv (rr v 11))) ∧ w' = w := turn_same v 11 (by decide) (by decide) w
theorem turn13 (v : BitVec 32) (w : World) : Calls Tryd.prog 62 #[.int .u32 (iv v), .int .i64 13] w fun e w' => e = .returned (.int .u32 (iv (rr v 13))) ∧ w' = w := turn_same v 13 (by decide) (by decide) w
theorem turn17 (v : BitVec 32) (w : World) : Calls Tryd.prog 62 #[.int .u32 (iv v), .int .i64 17] w fun e w' => e = .returned (.int .u32 (iv (rr v 17))) ∧ w' = w := turn_same v 17 (by decide) (by decide) w
theorem turn18 (v : BitVec 32) (w : World) : Calls Tryd.prog 62 #[.int .u32 (iv v), .int .i64 18] w fun e w' => e = .returned (.int .u32 (iv (rr v 18))) ∧ w' = w := turn_same v 18 (by decide) (by decide) w
theorem turn19 (v : BitVec 32) (w : World) : Calls Tryd.prog 62 #[.int .u32 (iv v), .int .i64 19] w fun e w' => e = .returned (.int .u32 (iv (rr v 19))) ∧ w' = w := turn_same v 19 (by decide) (by decide) w
theorem turn22 (v : BitVec 32) (w : World) : Calls Tryd.prog 62 #[.int .u32 (iv v), .int .i64 22] w fun e w' => e = .returned (.int .u32 (iv (rr v 22))) ∧ w' = w := turn_same v 22 (by decide) (by decide) w
theorem turn25 (v : BitVec 32) (w : World) : Calls Tryd.prog 62 #[.int .u32 (iv v), .int .i64 25] w fun e w' => e = .returned (.int .u32 (iv (rr v 25))) ∧ w' = w := turn_same v 25 (by decide) (by decide) w
theorem wnext_ref (u v x y : BitVec 32) : ((((rr y 17 ^^^ rr y 19) ^^^ (y >>> 10)) + v) + ((rr x 7 ^^^ rr x 18) ^^^ (x >>> 3))) + u = ((u + v) + sig0 x) + sig1 y := by
 unfold sig0 sig1
 ac_rfl
def oneR (k w : BitVec 32) (s : H8) : BitVec 32 := (((s.h + ((rr s.e 6 ^^^ rr s.e 11) ^^^ rr s.e 25)) + ((s.e &&& s.f) ^^^ ((s.e ^^^ BitVec.allOnes 32) &&& s.g))) + k) + w
def twoR (s : H8) : BitVec 32 := ((rr s.a 2 ^^^ rr s.a 13) ^^^ rr s.a 22) + (((s.a &&& s.b) ^^^ (s.a &&& s.c)) ^^^ (s.b &&& s.c))
theorem oneR_eq (k w : BitVec 32) (s : H8) : oneR k w s = one k w s := by unfold oneR one; rw [ch_eq]
theorem twoR_eq (s : H8) : twoR s = two s := by unfold twoR two; rw [maj_eq]
theorem rs_ref (ws : List (BitVec 32)) (t : Nat) (s : H8) : rs ws (t + 1) s = ⟨oneR (KT.getD t 0) (ws.getD t 0) (rs ws t s) + twoR (rs ws t s), (rs ws t s).a, (rs ws t s).b, (rs ws t s).c, (rs ws t s).d + oneR (KT.getD t 0) (ws.getD t 0) (rs ws t s), (rs ws t s).e, (rs ws t s).f, (rs ws t s).g⟩ := by
 rw [oneR_eq, twoR_eq, rs, round]
theorem add8_take (s r : H8) (i : Nat) (h : i < 8) : (add8 s r).l.take (i + 1) = (add8 s r).l.take i ++ [s.l.getD i 0 + r.l.getD i 0] := by
 match i, h with
 | 0, _ => rfl
 | 1, _ => rfl
 | 2, _ => rfl
 | 3, _ => rfl
 | 4, _ => rfl
 | 5, _ => rfl
 | 6, _ => rfl
 | 7, _ => rfl
 | n + 8, h => exact absurd h (by omega)
theorem add8_len (s r : H8) (i : Nat) (h : i ≤ 8) : ((add8 s r).l.take i).length = i := by rw [List.length_take]; exact Nat.min_eq_left h
set_option maxHeartbeats 16000000 in
set_option maxRecDepth 100000 in
theorem rblock_walk (s : H8) (l : List UInt8) (hl : l.length = 64) (A1 : Option Addr) (c1 : Nat) (A2 : Option Addr) (c2 : Nat) (A : Option Addr) (c : Nat) (w : World) (hH : Kd.C (Kd.int .u32) w A1 8 (ivs s.l)) (hK : Kd.C (Kd.int .u32) w A2 64 (ivs KT)) (hr : Kd.C (Kd.int .u8) w A 64 (iB l)) :
  Calls Tryd.prog 55 #[.slice A1 8 c1, .slice A2 64 c2, .slice A 64 c] w fun e w' => ∃ B d, e = .returned (.slice B 8 d) ∧ 8 ≤ d ∧ Kd.C (Kd.int .u32) w' B 8 (ivs (blk s l).l) ∧ Below w.heap.size w w' := by
 have HR0 := sqA hr
 have HH := sqA hH
 have HKK := sqA hK
 clear hr hH hK
 go_enter Tryd.func55, Tryd.ntmps55
 go_wp2_with (first | ((with_reducible refine gate_dst (N := 7) rfl ?_); refine sqo (N := 7) (cs := (arr [])) (t := 93) ?_; intro g7 hg7 w2 hbox hb; have HX2 := sqA hbox; have HB2 := sqA hb; have HG7 : Aside0 (w.heap.size ≤ g7) := ⟨by rw [hg7]; exact Nat.le_refl _⟩; clear hg7 hbox hb))
 go_loopg [8] 16 (fun kq v8 w' => ∃ (i : Nat), v8 = .int .i64 (i : Int) ∧ Aside0 (i + kq = 16) ∧ Aside0 (w'.heap[g7]? = some (.cells (arr (wl l i)) 93 (0, 0))) ∧ Aside0 (Below w.heap.size w w'))
 case atStart => exact ⟨0, rfl, ⟨by omega⟩, HX2, HB2⟩
 case round =>
  obtain ⟨i, rfl, HI, HXi, HBi⟩ := hrel
  have hi := HI.out
  by_cases h16 : i < 16
  ·
   obtain ⟨k1, rfl⟩ : ∃ k1, gk = k1 + 1 := ⟨gk - 1, by omega⟩
   have hat : i < 64 := by omega
   have hlt : decide ((i : Int) < 16) = true := decide_eq_true (by omega)
   have hil : (i : Int) < 64 := by omega
   have HI1 : Aside0 (i + 1 + k1 = 16) := ⟨by omega⟩
   have HAT := sqA hat
   clear HI
   have HBd := sqA (below_drew HBi.out)
   obtain ⟨ad, e101, xs⟩ := atB HR0.out (by decide)
   cases e101
   obtain ⟨p0, hp0⟩ : ∃ p : Nat, p = 4 * i := ⟨_, rfl⟩
   obtain ⟨p1, hp1⟩ : ∃ p : Nat, p = 4 * i + 1 := ⟨_, rfl⟩
   obtain ⟨p2, hp2⟩ : ∃ p : Nat, p = 4 * i + 2 := ⟨_, rfl⟩
   obtain ⟨p3, hp3⟩ : ∃ p : Nat, p = 4 * i + 3 := ⟨_, rfl⟩
   have HP := sqA (And.intro hp0 (And.intro hp1 (And.intro hp2 hp3)))
   have j0 : (p0 : Int) < 64 := by omega
   have j1 : (p1 : Int) < 64 := by omega
   have j2 : (p2 : Int) < 64 := by omega
   have j3 : (p3 : Int) < 64 := by omega
   have x0 := xs _ HBd.out p0 (by omega)
   have x1 := xs _ HBd.out p1 (by omega)
   have x2 := xs _ HBd.out p2 (by omega)
   have x3 := xs _ HBd.out p3 (by omega)
   have q0 : IntKind.i64.wrap (4 * (i : Int)) = (p0 : Int) := by rw [wrapI]; unfold wrap64; omega
   have q1 : IntKind.i64.wrap ((p0 : Int) + 1) = (p1 : Int) := by rw [wrapI]; unfold wrap64; omega
   have q2 : IntKind.i64.wrap ((p0 : Int) + 2) = (p2 : Int) := by rw [wrapI]; unfold wrap64; omega
   have q3 : IntKind.i64.wrap ((p0 : Int) + 3) = (p3 : Int) := by rw [wrapI]; unfold wrap64; omega
   obtain ⟨b0, hb0⟩ : ∃ b, b = byteV (l.getD p0 0) := ⟨_, rfl⟩
   rw [← hb0] at x0
   obtain ⟨b1, hb1⟩ : ∃ b, b = byteV (l.getD p1 0) := ⟨_, rfl⟩
   rw [← hb1] at x1
   obtain ⟨b2, hb2⟩ : ∃ b, b = byteV (l.getD p2 0) := ⟨_, rfl⟩
   rw [← hb2] at x2
   obtain ⟨b3, hb3⟩ : ∃ b, b = byteV (l.getD p3 0) := ⟨_, rfl⟩
   rw [← hb3] at x3
   have HV : Aside0 (wnext l (wl l i) = be4w b0 b1 b2 b3) := ⟨by
    unfold wnext be4
    rw [wl_len, if_pos h16, hb0, hb1, hb2, hb3, hp0, hp1, hp2, hp3]⟩
   have hXd : wr.drew.heap[g7]? = some (.cells (arr (wl l i)) 93 (0, 0)) := HXi.out
   have HXd := sqA hXd
   have xc := (blk_cell hXd i).trans (arr_zero (by rw [wl_len]; exact Nat.le_refl _) hat)
   have xf := blk_frozen hXd i
   have HBD := sqA (below_drew HBi.out)
   clear xs hp0 hp1 hp2 hp3 hb0 hb1 hb2 hb3 hXd
   go_wp2
   go_still_tail 35, (by kernel_rfl)
   change wpList _ _ _ _ _ wr.drew
   generalize wr.drew = wd at *
   go_wp2_with (first | ((with_reducible refine gate_store (t := 89) (p := 58) (v := .tmp 57) rfl ?_); refine sqp (w1 := (wd.setCell ⟨g7, i, none⟩ (.int .u32 (iv (be4w b0 b1 b2 b3))))) ?_; intro w4 hw4; have HW4 := sqA hw4; clear hw4))
   go_roundg k1
   case measure => omega
   case rel =>
    refine ⟨i + 1, by first | rfl | (simp; done), HI1, ⟨?_⟩, ⟨?_⟩⟩
    ·
     rw [HW4.out, wl, HV.out]
     have := blk_set HXd.out i (.int .u32 (iv (be4w b0 b1 b2 b3)))
     rw [← arr_set (by rw [wl_len]; exact HAT.out), wl_len]
     exact this
    ·
     rw [HW4.out]
     exact Below.setCell HBD.out HG7.out _
  ·
   obtain rfl : gk = 0 := by omega
   obtain rfl : i = 16 := by omega
   have hge : decide (((16 : Nat) : Int) < 16) = false := by decide
   have HX16 := HXi
   have HB16 := HBi
   clear HI HXi HBi h16
   go_wp2
   go_loopg [9] 48 (fun kq v9 w' => ∃ (i : Nat), v9 = .int .i64 (i : Int) ∧ Aside0 (i + kq = 64) ∧ Aside0 (16 ≤ i) ∧ Aside0 (w'.heap[g7]? = some (.cells (arr (wl l i)) 93 (0, 0))) ∧ Aside0 (Below w.heap.size w w'))
   case atStart => exact ⟨16, rfl, ⟨by omega⟩, ⟨by omega⟩, HX16, HB16⟩
   case round =>
    obtain ⟨i, rfl, HI, H16, HXi, HBi⟩ := hrel
    have hi := HI.out
    have h16 : ¬ i < 16 := by have := H16.out; omega
    by_cases hat : i < 64
    ·
     obtain ⟨k1, rfl⟩ : ∃ k1, gk = k1 + 1 := ⟨gk - 1, by omega⟩
     have hlt : decide ((i : Int) < 64) = true := decide_eq_true (by omega)
     have hil : (i : Int) < 64 := by omega
     have HI1 : Aside0 (i + 1 + k1 = 64) := ⟨by omega⟩
     have HAT := sqA hat
     clear HI
     have HBd := sqA (below_drew HBi.out)
     have hlen := wl_len l i
     have HLEN := sqA hlen
     obtain ⟨x, hx⟩ : ∃ x, x = (wl l i).getD (i - 15) 0 := ⟨_, rfl⟩
     obtain ⟨y, hy⟩ : ∃ y, y = (wl l i).getD (i - 2) 0 := ⟨_, rfl⟩
     obtain ⟨u, hu⟩ : ∃ u, u = (wl l i).getD (i - 16) 0 := ⟨_, rfl⟩
     obtain ⟨v, hv⟩ : ∃ v, v = (wl l i).getD (i - 7) 0 := ⟨_, rfl⟩
     have HV : Aside0 (wnext l (wl l i) = ((u + v) + sig0 x) + sig1 y) := ⟨by
      unfold wnext
      rw [hlen, if_neg h16, ← hx, ← hy, ← hu, ← hv]⟩
     obtain ⟨p15, hp15⟩ : ∃ p : Nat, p = i - 15 := ⟨_, rfl⟩
     obtain ⟨p2, hp2⟩ : ∃ p : Nat, p = i - 2 := ⟨_, rfl⟩
     obtain ⟨p16, hp16⟩ : ∃ p : Nat, p = i - 16 := ⟨_, rfl⟩
     obtain ⟨p7, hp7⟩ : ∃ p : Nat, p = i - 7 := ⟨_, rfl⟩
     have j15 : (p15 : Int) < 64 := by omega
     have j2 : (p2 : Int) < 64 := by omega
     have j16 : (p16 : Int) < 64 := by omega
     have j7 : (p7 : Int) < 64 := by omega
     have q15 : IntKind.i64.wrap ((i : Int) - 15) = (p15 : Int) := by rw [wrapI]; unfold wrap64; omega
     have q2 : IntKind.i64.wrap ((i : Int) - 2) = (p2 : Int) := by rw [wrapI]; unfold wrap64; omega
     have q16 : IntKind.i64.wrap ((i : Int) - 16) = (p16 : Int) := by rw [wrapI]; unfold wrap64; omega
     have q7 : IntKind.i64.wrap ((i : Int) - 7) = (p7 : Int) := by rw [wrapI]; unfold wrap64; omega
     have hXd : wr.drew.heap[g7]? = some (.cells (arr (wl l i)) 93 (0, 0)) := HXi.out
     have x15 : wr.drew.cell? ⟨g7, p15, none⟩ = some (.int .u32 (iv x)) := by rw [hx, hp15]; exact (blk_cell hXd _).trans (arr_get (by omega))
     have x2 : wr.drew.cell? ⟨g7, p2, none⟩ = some (.int .u32 (iv y)) := by rw [hy, hp2]; exact (blk_cell hXd _).trans (arr_get (by omega))
     have hXe : wr.drew.drew.heap[g7]? = some (.cells (arr (wl l i)) 93 (0, 0)) := HXi.out
     have HXe := sqA hXe
     have x16 : wr.drew.drew.cell? ⟨g7, p16, none⟩ = some (.int .u32 (iv u)) := by rw [hu, hp16]; exact (blk_cell hXe _).trans (arr_get (by omega))
     have x7 : wr.drew.drew.cell? ⟨g7, p7, none⟩ = some (.int .u32 (iv v)) := by rw [hv, hp7]; exact (blk_cell hXe _).trans (arr_get (by omega))
     have xc := (blk_cell hXe i).trans (arr_zero (by omega) hat)
     have xf := blk_frozen hXe i
     have HBD := sqA (below_drew HBd.out)
     clear hp15 hp2 hp16 hp7 hx hy hu hv hXd hXe hlen
     go_wp2
     go_still (by kernel_rfl)
     go_wp2
     change Code.wp Tryd.prog _ _ _ wr.drew
     generalize wr.drew = wd at *
     refine wp_region_still_tail 29 (by kernel_rfl) (by kernel_rfl) ?_
     simp only [List.take_succ_cons, List.take_zero, List.drop_succ_cons, List.drop_zero]
     repeat still_step
     still_call (turn17 _ _)
     repeat still_step
     still_call (turn19 _ _)
     repeat still_step
     still_call (turn7 _ _)
     repeat still_step
     still_call (turn18 _ _)
     repeat still_step
     refine wpStill_nil ?_
     change wpList _ _ _ _ _ wd.drew
     generalize wd.drew = we at *
     go_wp2_with (first | ((with_reducible refine gate_store (t := 89) (p := 99) (v := .tmp 98) rfl ?_); refine sqp (w1 := (we.setCell ⟨g7, i, none⟩ (.int .u32 (iv (((((rr y 17 ^^^ rr y 19) ^^^ (y >>> 10)) + v) + ((rr x 7 ^^^ rr x 18) ^^^ (x >>> 3))) + u))))) ?_; intro w4 hw4; have HW4 := sqA hw4; clear hw4))
     go_roundg k1
     case measure => omega
     case rel =>
      refine ⟨i + 1, by first | rfl | (simp; done), HI1, ⟨by have := H16.out; omega⟩, ⟨?_⟩, ⟨?_⟩⟩
      ·
       rw [HW4.out, wl, HV.out, wnext_ref]
       have := blk_set HXe.out i (.int .u32 (iv (((u + v) + sig0 x) + sig1 y)))
       rw [← arr_set (by rw [wl_len]; exact HAT.out), wl_len]
       exact this
      ·
       rw [HW4.out]
       exact Below.setCell HBD.out HG7.out _
    ·
     obtain rfl : gk = 0 := by omega
     obtain rfl : i = 64 := by omega
     have hge : decide (((64 : Nat) : Int) < 64) = false := by decide
     have HX64 := HXi
     have HB64 := HBi
     clear HI HXi HBi h16 hat
     have hAH := Kd.R_nil (Kd.int .u32) 89 wr w.heap.size (fun _ => True)
     clear hAH
     go_wp2_with (first | ((with_reducible refine gate_builtin (b := .append) (xs := #[.const (.slice none 0 0), .tmp 100]) rfl ?_); at_builtin; refine Kd.R_append_rows (Kd.int .u32) (Rr := (Kd.int .u32).K wr) (w0 := w) w.heap.size rfl (.const (.slice none 0 0)) (.tmp 100) 73 89 (.int .u32 0) 4 rfl Tryd.underlying73 (by kernel_rfl) rfl (by decide) (by decide) (.slice none 0 0) [] (ivs s.l) A1 8 c1 (fun _ => True) (fun _ => False) rfl rfl (Kd.R_nil _ _ _ _ _) (Kd.C_below HH.out HB64.out) (fun _ _ h => h) (fun _ hk => hk.elim) (fun _ _ => trivial) HB64.out HB64.out.size (by decide) ?_; intro v1 w9 hr9 hb9 hg9 hat9; rw [List.nil_append] at hr9; have HX9 := sqA (blk_grown HX64.out hg9 (fun h => by cases h)); have HB9 := sqA hb9; obtain ⟨A9, c9, rfl, hc9, hC9⟩ := Kd.R_reads hr9; (have hl9 : (ivs s.l).length = 8 := rfl); (rw [hl9] at hC9 ⊢); have HC9 := sqA hC9; clear hr9 hb9 hg9 hat9 hc9 hC9 hl9))
     go_loopg [12, 13] 64 (fun kq v12 v13 w' => ∃ (t : Nat) (B : Option Addr) (d : Nat) (r : H8), v13 = .int .i64 (t : Int) ∧ v12 = .slice B 8 d ∧ Aside0 (t + kq = 64) ∧ Aside0 (r = rs (wl l 64) t s) ∧ Aside0 (Kd.C (Kd.int .u32) w' B 8 (ivs r.l)) ∧ Aside0 (w'.heap[g7]? = some (.cells (arr (wl l 64)) 93 (0, 0))) ∧ Aside0 (Below w.heap.size w w'))
     case atStart => exact ⟨0, A9, c9, s, rfl, rfl, ⟨by omega⟩, ⟨rfl⟩, HC9, HX9, HB9⟩
     case round =>
      obtain ⟨t, B, d, r, rfl, rfl, HI, HRr, HCr, HXr, HBr⟩ := hrel
      have hi := HI.out
      by_cases hat : t < 64
      ·
       obtain ⟨k1, rfl⟩ : ∃ k1, gk = k1 + 1 := ⟨gk - 1, by omega⟩
       have hlt : decide ((t : Int) < 64) = true := decide_eq_true (by omega)
       have hil : (t : Int) < 64 := by omega
       have HI1 : Aside0 (t + 1 + k1 = 64) := ⟨by omega⟩
       have HAT := sqA hat
       clear HI
       obtain ⟨ad, rfl, xs⟩ := atW HCr.out (by decide)
       obtain ⟨ad2, rfl, xs2⟩ := atW HKK.out (by decide)
       obtain ⟨k, hke⟩ : ∃ k, k = KT.getD t 0 := ⟨_, rfl⟩
       obtain ⟨x, hxe⟩ : ∃ x, x = (wl l 64).getD t 0 := ⟨_, rfl⟩
       have HRN : Aside0 (rs (wl l 64) (t + 1) s = ⟨((((r.h + ((rr r.e 6 ^^^ rr r.e 11) ^^^ rr r.e 25)) + ((r.e &&& r.f) ^^^ ((r.e ^^^ BitVec.allOnes 32) &&& r.g))) + k) + x) + (((rr r.a 2 ^^^ rr r.a 13) ^^^ rr r.a 22) + (((r.a &&& r.b) ^^^ (r.a &&& r.c)) ^^^ (r.b &&& r.c))), r.a, r.b, r.c, r.d + ((((r.h + ((rr r.e 6 ^^^ rr r.e 11) ^^^ rr r.e 25)) + ((r.e &&& r.f) ^^^ ((r.e ^^^ BitVec.allOnes 32) &&& r.g))) + k) + x), r.e, r.f, r.g⟩) := ⟨by rw [rs_ref, ← hke, ← hxe, ← HRr.out]; rfl⟩
       have y0 : wr.drew.cell? ad = some (.int .u32 (iv r.a)) := xs _ (below_drew (Below.refl _ _)) 0 (by decide)
       have y4 : wr.drew.cell? ⟨ad.block, ad.off + 4, none⟩ = some (.int .u32 (iv r.e)) := xs _ (below_drew (Below.refl _ _)) 4 (by decide)
       have z5 : wr.drew.drew.cell? ⟨ad.block, ad.off + 5, none⟩ = some (.int .u32 (iv r.f)) := xs _ (below_drew (below_drew (Below.refl _ _))) 5 (by decide)
       have z6 : wr.drew.drew.cell? ⟨ad.block, ad.off + 6, none⟩ = some (.int .u32 (iv r.g)) := xs _ (below_drew (below_drew (Below.refl _ _))) 6 (by decide)
       have z7 : wr.drew.drew.cell? ⟨ad.block, ad.off + 7, none⟩ = some (.int .u32 (iv r.h)) := xs _ (below_drew (below_drew (Below.refl _ _))) 7 (by decide)
       have p1 : wr.drew.drew.drew.cell? ⟨ad.block, ad.off + 1, none⟩ = some (.int .u32 (iv r.b)) := xs _ (below_drew (below_drew (below_drew (Below.refl _ _)))) 1 (by decide)
       have p2 : wr.drew.drew.drew.cell? ⟨ad.block, ad.off + 2, none⟩ = some (.int .u32 (iv r.c)) := xs _ (below_drew (below_drew (below_drew (Below.refl _ _)))) 2 (by decide)
       have q0 : wr.drew.drew.drew.drew.cell? ad = some (.int .u32 (iv r.a)) := xs _ (below_drew (below_drew (below_drew (below_drew (Below.refl _ _))))) 0 (by decide)
       have q1 : wr.drew.drew.drew.drew.cell? ⟨ad.block, ad.off + 1, none⟩ = some (.int .u32 (iv r.b)) := xs _ (below_drew (below_drew (below_drew (below_drew (Below.refl _ _))))) 1 (by decide)
       have q2 : wr.drew.drew.drew.drew.cell? ⟨ad.block, ad.off + 2, none⟩ = some (.int .u32 (iv r.c)) := xs _ (below_drew (below_drew (below_drew (below_drew (Below.refl _ _))))) 2 (by decide)
       have q3 : wr.drew.drew.drew.drew.cell? ⟨ad.block, ad.off + 3, none⟩ = some (.int .u32 (iv r.d)) := xs _ (below_drew (below_drew (below_drew (below_drew (Below.refl _ _))))) 3 (by decide)
       have q4 : wr.drew.drew.drew.drew.cell? ⟨ad.block, ad.off + 4, none⟩ = some (.int .u32 (iv r.e)) := xs _ (below_drew (below_drew (below_drew (below_drew (Below.refl _ _))))) 4 (by decide)
       have q5 : wr.drew.drew.drew.drew.cell? ⟨ad.block, ad.off + 5, none⟩ = some (.int .u32 (iv r.f)) := xs _ (below_drew (below_drew (below_drew (below_drew (Below.refl _ _))))) 5 (by decide)
       have q6 : wr.drew.drew.drew.drew.cell? ⟨ad.block, ad.off + 6, none⟩ = some (.int .u32 (iv r.g)) := xs _ (below_drew (below_drew (below_drew (below_drew (Below.refl _ _))))) 6 (by decide)
       have hk : wr.drew.drew.cell? (ad2.add t) = some (.int .u32 (iv k)) := by rw [hke]; exact xs2 _ (below_drew (below_drew HBr.out)) t hat
       have hw : wr.drew.drew.cell? ⟨g7, t, none⟩ = some (.int .u32 (iv x)) := by rw [hxe]; exact (blk_cell (show wr.drew.drew.heap[g7]? = _ from HXr.out) t).trans (arr_get (by rw [wl_len]; exact hat))
       have HBd : Aside0 (Below w.heap.size w wr.drew.drew.drew.drew) := ⟨below_drew (below_drew (below_drew (below_drew HBr.out)))⟩
       have HXd : Aside0 (wr.drew.drew.drew.drew.heap[g7]? = some (.cells (arr (wl l 64)) 93 (0, 0))) := HXr
       clear hke hxe HRr xs xs2
       go_wp2
       go_still (by kernel_rfl)
       go_wp2
       change Code.wp Tryd.prog _ _ _ wr.drew
       generalize wr.drew = wd at *
       refine wp_region_still_lit (by kernel_rfl) (by kernel_rfl) ?_
       repeat still_step
       still_call (turn6 _ _)
       repeat still_step
       still_call (turn11 _ _)
       repeat still_step
       still_call (turn25 _ _)
       repeat still_step
       refine wpStill_nil ?_
       change Exit.then _ _ _ _ wd.drew
       generalize wd.drew = we at *
       go_wp2
       refine wp_region_still_lit (by kernel_rfl) (by kernel_rfl) ?_
       repeat still_step
       still_call (turn2 _ _)
       repeat still_step
       still_call (turn13 _ _)
       repeat still_step
       still_call (turn22 _ _)
       repeat still_step
       refine wpStill_nil ?_
       change Exit.then _ _ _ _ we.drew
       generalize we.drew = wf at *
       go_wp2
       go_still_tail 26, (by kernel_rfl)
       change wpList _ _ _ _ _ wf.drew
       generalize wf.drew = wz at *
       go_wp2_with (first | ((with_reducible refine gate_dst (N := 200) rfl ?_); refine Kd.R_lit (Kd.int .u32) (w0 := w) w.heap.size 89 rfl (N := 200) rfl (xs := ivs [((((r.h + ((rr r.e 6 ^^^ rr r.e 11) ^^^ rr r.e 25)) + ((r.e &&& r.f) ^^^ ((r.e ^^^ BitVec.allOnes 32) &&& r.g))) + k) + x) + (((rr r.a 2 ^^^ rr r.a 13) ^^^ rr r.a 22) + (((r.a &&& r.b) ^^^ (r.a &&& r.c)) ^^^ (r.b &&& r.c))), r.a, r.b, r.c, r.d + ((((r.h + ((rr r.e 6 ^^^ rr r.e 11) ^^^ rr r.e 25)) + ((r.e &&& r.f) ^^^ ((r.e ^^^ BitVec.allOnes 32) &&& r.g))) + k) + x), r.e, r.f, r.g]) (inner := [.int .u32 (iv (((((r.h + ((rr r.e 6 ^^^ rr r.e 11) ^^^ rr r.e 25)) + ((r.e &&& r.f) ^^^ ((r.e ^^^ BitVec.allOnes 32) &&& r.g))) + k) + x) + (((rr r.a 2 ^^^ rr r.a 13) ^^^ rr r.a 22) + (((r.a &&& r.b) ^^^ (r.a &&& r.c)) ^^^ (r.b &&& r.c))))), .int .u32 (iv (r.a)), .int .u32 (iv (r.b)), .int .u32 (iv (r.c)), .int .u32 (iv (r.d + ((((r.h + ((rr r.e 6 ^^^ rr r.e 11) ^^^ rr r.e 25)) + ((r.e &&& r.f) ^^^ ((r.e ^^^ BitVec.allOnes 32) &&& r.g))) + k) + x))), .int .u32 (iv (r.e)), .int .u32 (iv (r.f)), .int .u32 (iv (r.g))]) (okp := fun _ => False) (ok := fun _ => True) ?hr ?hrep (fun _ _ => trivial) trivial HBd.out HBd.out.size (by show 8 ≤ _; decide) ?_; (case hr => first | (go_simp; done) | (go_simp; rfl)); (case hrep => exact Kd.reps_scalar (enc := Value.int .u32) (ivs [((((r.h + ((rr r.e 6 ^^^ rr r.e 11) ^^^ rr r.e 25)) + ((r.e &&& r.f) ^^^ ((r.e ^^^ BitVec.allOnes 32) &&& r.g))) + k) + x) + (((rr r.a 2 ^^^ rr r.a 13) ^^^ rr r.a 22) + (((r.a &&& r.b) ^^^ (r.a &&& r.c)) ^^^ (r.b &&& r.c))), r.a, r.b, r.c, r.d + ((((r.h + ((rr r.e 6 ^^^ rr r.e 11) ^^^ rr r.e 25)) + ((r.e &&& r.f) ^^^ ((r.e ^^^ BitVec.allOnes 32) &&& r.g))) + k) + x), r.e, r.f, r.g])); intro v9 w9 hr9 hb9 hg9 hat9; have HX9r := sqA (blk_grown HXd.out hg9 (fun h => by cases h)); have HB9r := sqA hb9; obtain ⟨Az, cz, rfl, hcz, hCz⟩ := Kd.R_reads hr9; have HCz : Aside0 (Kd.C (Kd.int .u32) w9 Az 8 (ivs (H8.mk (((((r.h + ((rr r.e 6 ^^^ rr r.e 11) ^^^ rr r.e 25)) + ((r.e &&& r.f) ^^^ ((r.e ^^^ BitVec.allOnes 32) &&& r.g))) + k) + x) + (((rr r.a 2 ^^^ rr r.a 13) ^^^ rr r.a 22) + (((r.a &&& r.b) ^^^ (r.a &&& r.c)) ^^^ (r.b &&& r.c)))) r.a r.b r.c (r.d + ((((r.h + ((rr r.e 6 ^^^ rr r.e 11) ^^^ rr r.e 25)) + ((r.e &&& r.f) ^^^ ((r.e ^^^ BitVec.allOnes 32) &&& r.g))) + k) + x)) r.e r.f r.g).l)) := ⟨hCz⟩; (have hlz : (ivs [((((r.h + ((rr r.e 6 ^^^ rr r.e 11) ^^^ rr r.e 25)) + ((r.e &&& r.f) ^^^ ((r.e ^^^ BitVec.allOnes 32) &&& r.g))) + k) + x) + (((rr r.a 2 ^^^ rr r.a 13) ^^^ rr r.a 22) + (((r.a &&& r.b) ^^^ (r.a &&& r.c)) ^^^ (r.b &&& r.c))), r.a, r.b, r.c, r.d + ((((r.h + ((rr r.e 6 ^^^ rr r.e 11) ^^^ rr r.e 25)) + ((r.e &&& r.f) ^^^ ((r.e ^^^ BitVec.allOnes 32) &&& r.g))) + k) + x), r.e, r.f, r.g]).length = 8 := rfl); (rw [hlz]); clear hr9 hb9 hg9 hat9 hcz hCz hlz))
       go_roundg k1
       case measure => omega
       case rel => exact ⟨t + 1, Az, cz, H8.mk (((((r.h + ((rr r.e 6 ^^^ rr r.e 11) ^^^ rr r.e 25)) + ((r.e &&& r.f) ^^^ ((r.e ^^^ BitVec.allOnes 32) &&& r.g))) + k) + x) + (((rr r.a 2 ^^^ rr r.a 13) ^^^ rr r.a 22) + (((r.a &&& r.b) ^^^ (r.a &&& r.c)) ^^^ (r.b &&& r.c)))) r.a r.b r.c (r.d + ((((r.h + ((rr r.e 6 ^^^ rr r.e 11) ^^^ rr r.e 25)) + ((r.e &&& r.f) ^^^ ((r.e ^^^ BitVec.allOnes 32) &&& r.g))) + k) + x)) r.e r.f r.g, by first | rfl | (simp; done), rfl, HI1, ⟨HRN.out.symm⟩, HCz, HX9r, HB9r⟩
      ·
       obtain rfl : gk = 0 := by omega
       obtain rfl : t = 64 := by omega
       have hge : decide (((64 : Nat) : Int) < 64) = false := by decide
       have HRB : Aside0 (blk s l = add8 s r) := ⟨by rw [HRr.out]; rfl⟩
       clear HI HRr hat HXr
       obtain ⟨w8, rfl⟩ : ∃ w8, w8 = wr := ⟨wr, rfl⟩
       go_wp2
       go_loopg [18, 19] 8 (fun kq v18 v19 w' => ∃ (i : Nat), v19 = .int .i64 (i : Int) ∧ Aside0 (i + kq = 8) ∧ Aside0 (Kd.R (Kd.int .u32) 89 w' w8.heap.size (fun _ => True) v18 (ivs ((add8 s r).l.take i))) ∧ Aside0 (Below w8.heap.size w8 w'))
       case atStart => exact ⟨0, rfl, ⟨by omega⟩, ⟨Kd.R_nil _ _ _ _ _⟩, ⟨Below.refl _ _⟩⟩
       case round =>
        obtain ⟨i, rfl, HI, HRi, HBi⟩ := hrel
        have hi := HI.out
        by_cases hat : i < 8
        ·
         obtain ⟨k1, rfl⟩ : ∃ k1, gk = k1 + 1 := ⟨gk - 1, by omega⟩
         have hlt : decide ((i : Int) < 8) = true := decide_eq_true (by omega)
         have hil : (i : Int) < 8 := by omega
         have HI1 : Aside0 (i + 1 + k1 = 8) := ⟨by omega⟩
         have HAT := sqA hat
         obtain ⟨ad1, rfl, xs1⟩ := atW HH.out (by decide)
         obtain ⟨adr, rfl, xsr⟩ := atW HCr.out (by decide)
         have SOF : Aside0 (∀ w', Below w8.heap.size w8 w' → w'.cell? (ad1.add i) = some (.int .u32 (iv (s.l.getD i 0))) ∧ w'.cell? (adr.add i) = some (.int .u32 (iv (r.l.getD i 0)))) := ⟨fun w' hb => ⟨xs1 _ (below_step HBr.out hb) i hat, xsr _ hb i hat⟩⟩
         have HSN : Aside0 (ivs ((add8 s r).l.take (i + 1)) = ivs ((add8 s r).l.take i) ++ [iv (s.l.getD i 0 + r.l.getD i 0)]) := ⟨by rw [add8_take s r i hat, ivs_snoc]⟩
         have HLN : Aside0 ((ivs ((add8 s r).l.take i)).length = i) := ⟨by rw [ivs_len, add8_len s r i (by omega)]⟩
         generalize s.l.getD i 0 = sv at *
         generalize r.l.getD i 0 = rv at *
         clear HI xs1 xsr
         go_wp2
         refine start_ (n := 13) (S := fun w' => w'.cell? (ad1.add i) = some (.int .u32 (iv sv)) ∧ w'.cell? (adr.add i) = some (.int .u32 (iv rv))) (ds := []) #[false, false, false, false, false, false, false, false, false, false, false, false, false] (by kernel_rfl) rfl rfl (SOF.out _ (below_drew HBi.out)) (fun hHeld => ?_)
         refine pure_ (i := 0) (N := some 205) (v := ?_) (a' := ?_) #[true, false, false, false, false, false, false, false, false, false, false, false, false] rfl rfl (by kernel_rfl) (fun _ _ _ h => h) (Or.inl ⟨by rfl, ?_⟩) ?_ ?_
         rotate_left
         ·
          intro w'
          go_simp
          with_reducible rfl
         rotate_left
         ·
          simp only [Act.put, List.setIfInBounds_toArray, List.set_cons_zero, List.set_cons_succ, i64_w, i32_w]
          rfl
         refine pure_ (i := 1) (N := some 206) (v := ?_) (a' := ?_) #[true, true, false, false, false, false, false, false, false, false, false, false, false] rfl rfl (by kernel_rfl) (fun _ _ _ h => h) (Or.inl ⟨by rfl, ?_⟩) ?_ ?_
         rotate_left
         ·
          intro w'
          go_simp
          with_reducible rfl
         rotate_left
         ·
          simp only [Act.put, List.setIfInBounds_toArray, List.set_cons_zero, List.set_cons_succ, i64_w, i32_w]
          rfl
         refine pure_ (i := 2) (N := some 207) (v := ?_) (a' := ?_) #[true, true, true, false, false, false, false, false, false, false, false, false, false] rfl rfl (by kernel_rfl) (fun _ _ _ h => h) (Or.inl ⟨by rfl, ?_⟩) ?_ ?_
         rotate_left
         ·
          intro w'
          go_simp
          with_reducible rfl
         rotate_left
         ·
          simp only [Act.put, List.setIfInBounds_toArray, List.set_cons_zero, List.set_cons_succ, i64_w, i32_w]
          rfl
         refine pure_ (i := 3) (N := some 208) (v := ?_) (a' := ?_) #[true, true, true, true, false, false, false, false, false, false, false, false, false] rfl rfl (by kernel_rfl) (fun _ _ _ h => h) (Or.inl ⟨by rfl, ?_⟩) ?_ ?_
         rotate_left
         ·
          intro w'
          go_simp
          with_reducible rfl
         rotate_left
         ·
          simp only [Act.put, List.setIfInBounds_toArray, List.set_cons_zero, List.set_cons_succ, i64_w, i32_w]
          rfl
         refine take_ (i := 4) (N := some 209) (v := ?_) (a' := ?_) #[true, true, true, true, true, false, false, false, false, false, false, false, false] rfl rfl (by kernel_rfl) (fun _ _ _ h => h) (Or.inl ⟨by rfl, ?_⟩) hHeld ?_ ?_
         rotate_left
         ·
          rintro w' ⟨s0, s1⟩
          go_simp
          with_reducible rfl
         rotate_left
         ·
          simp only [Act.put, List.setIfInBounds_toArray, List.set_cons_zero, List.set_cons_succ, i64_w, i32_w]
          rfl
         refine pure_ (i := 5) (N := some 210) (v := ?_) (a' := ?_) #[true, true, true, true, true, true, false, false, false, false, false, false, false] rfl rfl (by kernel_rfl) (fun _ _ _ h => h) (Or.inl ⟨by rfl, ?_⟩) ?_ ?_
         rotate_left
         ·
          intro w'
          go_simp
          with_reducible rfl
         rotate_left
         ·
          simp only [Act.put, List.setIfInBounds_toArray, List.set_cons_zero, List.set_cons_succ, i64_w, i32_w]
          rfl
         refine pure_ (i := 6) (N := some 211) (v := ?_) (a' := ?_) #[true, true, true, true, true, true, true, false, false, false, false, false, false] rfl rfl (by kernel_rfl) (fun _ _ _ h => h) (Or.inl ⟨by rfl, ?_⟩) ?_ ?_
         rotate_left
         ·
          intro w'
          go_simp
          with_reducible rfl
         rotate_left
         ·
          simp only [Act.put, List.setIfInBounds_toArray, List.set_cons_zero, List.set_cons_succ, i64_w, i32_w]
          rfl
         refine pure_ (i := 7) (N := some 212) (v := ?_) (a' := ?_) #[true, true, true, true, true, true, true, true, false, false, false, false, false] rfl rfl (by kernel_rfl) (fun _ _ _ h => h) (Or.inl ⟨by rfl, ?_⟩) ?_ ?_
         rotate_left
         ·
          intro w'
          go_simp
          with_reducible rfl
         rotate_left
         ·
          simp only [Act.put, List.setIfInBounds_toArray, List.set_cons_zero, List.set_cons_succ, i64_w, i32_w]
          rfl
         refine take_ (i := 8) (N := some 213) (v := ?_) (a' := ?_) #[true, true, true, true, true, true, true, true, true, false, false, false, false] rfl rfl (by kernel_rfl) (fun _ _ _ h => h) (Or.inl ⟨by rfl, ?_⟩) hHeld ?_ ?_
         rotate_left
         ·
          rintro w' ⟨s0, s1⟩
          go_simp
          with_reducible rfl
         rotate_left
         ·
          simp only [Act.put, List.setIfInBounds_toArray, List.set_cons_zero, List.set_cons_succ, i64_w, i32_w]
          rfl
         refine pure_ (i := 9) (N := some 214) (v := ?_) (a' := ?_) #[true, true, true, true, true, true, true, true, true, true, false, false, false] rfl rfl (by kernel_rfl) (fun _ _ _ h => h) (Or.inl ⟨by rfl, ?_⟩) ?_ ?_
         rotate_left
         ·
          intro w'
          go_simp
          with_reducible rfl
         rotate_left
         ·
          simp only [Act.put, List.setIfInBounds_toArray, List.set_cons_zero, List.set_cons_succ, i64_w, i32_w]
          rfl
         refine one_ (i := 10) (N := some 215) #[true, true, true, true, true, true, true, true, true, true, true, false, false] rfl rfl (by kernel_rfl) (by decide) (fun K hK => ?_)
         go_simp
         refine hK.out _ _ (SOF.out _ (below_alloc (below_drew HBi.out) _)) (fun hHeld => ?_)
         clear hK K
         refine norm_ (a' := ?_) ?_ ?_
         rotate_left
         ·
          first | (show Act.put _ (some 215) _ = _; simp only [Act.put, List.setIfInBounds_toArray, List.set_cons_zero, List.set_cons_succ, i64_w, i32_w]; rfl) | rfl
         refine one_ (i := 11) (N := some 216) #[true, true, true, true, true, true, true, true, true, true, true, true, false] rfl rfl (by kernel_rfl) (by decide) (fun K hK => ?_)
         refine Kd.R_append_rows_step (Kd.int .u32) (Rr := fun x cs => cs = [Value.int .u32 x]) (w0 := w8) w8.heap.size rfl (.tmp 205) (.tmp 215) 73 89 (.int .u32 0) 4 rfl Tryd.underlying73 (by kernel_rfl) rfl (by decide) (by decide) u18 (ivs ((add8 s r).l.take i)) [iv (sv + rv)] (some ⟨_, 0, none⟩) 1 1 (fun _ => True) (fun _ => False) rfl rfl (Kd.R_below HRi.out (below_alloc (below_drew (Below.refl _ _)) _)) (word1_C _ _) (fun _ _ h => h) (fun _ hk => hk.elim) (fun _ _ => trivial) (below_alloc (below_drew HBi.out) _) (Below.size (B := w8.heap.size) (below_alloc (below_drew HBi.out) _)) (by rw [HLN.out]; have := HAT.out; omega) ?_
         intro v1 w9 hr9 hb9 hg9 hat9
         rw [← HSN.out] at hr9
         have HR9z := sqA hr9
         have HB9z := sqA hb9
         clear hr9 hb9 hg9 hat9
         refine hK.out _ _ (SOF.out _ HB9z.out) (fun hHeld => ?_)
         clear hK K
         refine norm_ (a' := ?_) ?_ ?_
         rotate_left
         ·
          first | (show Act.put _ (some 216) _ = _; simp only [Act.put, List.setIfInBounds_toArray, List.set_cons_zero, List.set_cons_succ, i64_w, i32_w]; rfl) | rfl
         refine pure_ (i := 12) (N := some 18) (v := ?_) (a' := ?_) #[true, true, true, true, true, true, true, true, true, true, true, true, true] rfl rfl (by kernel_rfl) (fun _ _ _ h => h) (Or.inl ⟨by rfl, ?_⟩) ?_ ?_
         rotate_left
         ·
          intro w'
          go_simp
          with_reducible rfl
         rotate_left
         ·
          simp only [Act.put, List.setIfInBounds_toArray, List.set_cons_zero, List.set_cons_succ, i64_w, i32_w]
          rfl
         refine done_ (by kernel_rfl) ?_
         go_wp2
         go_roundg k1
         case measure => omega
         case rel => exact ⟨i + 1, by first | rfl | (simp; done), HI1, HR9z, HB9z⟩
        ·
         obtain rfl : gk = 0 := by omega
         obtain rfl : i = 8 := by omega
         have hge : decide (((8 : Nat) : Int) < 8) = false := by decide
         have hre : Kd.R (Kd.int .u32) 89 wr w8.heap.size (fun _ => True) u18 (ivs (add8 s r).l) := HRi.out
         obtain ⟨Ae, ce, rfl, hce, hCe⟩ := Kd.R_reads hre
         have hle : (ivs (add8 s r).l).length = 8 := rfl
         rw [hle] at hce hCe ⊢
         have HCe := sqA hCe
         clear hre hCe hle HRi HI
         go_wp2
         go_ret
         exact ⟨Ae, ce, rfl, hce, by rw [HRB.out]; exact HCe.out, below_step HBr.out HBi.out⟩
end Go.Proofs.YtifpomknkjegeaaDoor.Sha
namespace Go.Proofs.YtifpomknkjegeaaDoor.Sha
open Go.RowKit Go.Proofs.YtifpomknkjegeaaDoor.PAll Go.Proofs.YtifpomknkjegeaaDoorW.PrintWords Go.Proofs.YtifpomknkjegeaaDoorW.PrintLast Go.Proofs.YtifpomknkjegeaaDoorW.PrintMore SG
set_option linter.unusedVariables false
set_option linter.unusedSimpArgs false
def GR (W : World) (base : Nat) (v : Value) (xs : List Int) : Prop :=
 ∃ g cap cur fr, v = .slice (some ⟨g, 0, none⟩) xs.length cap ∧ base ≤ g ∧ W.heap[g]? = some (.cells cur 5 fr) ∧ xs.length ≤ cap ∧ cur.size = cap ∧ (cap ≤ fr.1 ∨ fr.2 = 0) ∧ cur.toList.take xs.length = xs.map (Value.int .u8)
theorem GR_of_BR {W : World} {base : Nat} {v : Value} {xs : List Int} (h : BRow.BR 5 W base v xs) : GR W base v xs := by
 obtain ⟨g, cap, cur, fr, h1, h2, h3, h4, h5, h6, h7, h8⟩ := h
 exact ⟨g, cap, cur, fr, h1, h2, h3, h4, h6, .inl h7, h8⟩
theorem GR_below {W W1 : World} {base : Nat} {v : Value} {xs : List Int} (h : GR W base v xs) (hb : Below W.heap.size W W1) : GR W1 base v xs := by
 obtain ⟨g, cap, cur, fr, h1, h2, h3, h4⟩ := h
 exact ⟨g, cap, cur, fr, h1, h2, (hb.block g (blk_lt h3)).trans h3, h4⟩
theorem GR_lower {W : World} {b base : Nat} {v : Value} {xs : List Int} (h : GR W base v xs) (hb : b ≤ base) : GR W b v xs := by
 obtain ⟨g, cap, cur, fr, h1, h2, h3⟩ := h
 exact ⟨g, cap, cur, fr, h1, Nat.le_trans hb h2, h3⟩
theorem GR_slice {W : World} {base : Nat} {v : Value} {xs : List Int} (h : GR W base v xs) : ∃ A c, v = .slice A xs.length c ∧ xs.length ≤ c := by
 obtain ⟨g, cap, cur, fr, h1, h2, h3, h4, _⟩ := h
 exact ⟨_, _, h1, h4⟩
theorem GR_C {W : World} {base : Nat} {A : Option Addr} {n c : Nat} {xs : List Int} (h : GR W base (.slice A n c) xs) (hl : xs.length ≤ 9223372036854775807) : Kd.C (Kd.int .u8) W A xs.length xs := by
 obtain ⟨g, cap, cur, fr, h1, h2, h3, h4, h5, h6, h7⟩ := h
 injection h1 with ha hb hc
 subst ha hb hc
 refine Kd.C_of_reads (d := (0 : Int)) (h1 := fun _ => rfl) ⟨rfl, hl, fun _ => ⟨_, rfl, fun j hj => ?_⟩⟩
 rw [add_plain, cell_of_row W g j cur 5 fr h3]
 have h8 : cur.toList[j]? = (xs.map (Value.int .u8))[j]? := by rw [← h7, List.getElem?_take, if_pos hj]
 rw [Array.getElem?_toList] at h8
 rw [h8]
 simp [List.getElem?_map, List.getElem?_eq_getElem hj, List.getD_eq_getElem?_getD]
set_option maxRecDepth 100000 in
theorem GR_append1 (W : World) (base : Nat) (v : Value) (xs : List Int) (x : Int) (ty : TypeId) (g2 : Nat) (h : GR W base v xs) (hb : base ≤ W.heap.size) (hx : W.heap[g2]? = some (.cells #[.int .u8 x] 5 (0, 0))) (hl : xs.length ≤ 1000000000) :
  ∃ v1 w1, (Builtin.append_ #[54, 54] ty #[v, .slice (some ⟨g2, 0, none⟩) 1 1]).run Tryd.prog W = .ok v1 w1 ∧ GR w1 base v1 (xs ++ [x]) ∧ Below base W w1 := by
 have hinfo : (Tryd.prog.info? 5).map (fun i => (i.zero, i.size, i.bytes)) = some (some (.int .u8 0), 1, 1) := by kernel_rfl
 obtain ⟨i0, hi, hzz⟩ := Option.map_eq_some_iff.1 hinfo
 simp only [Prod.mk.injEq] at hzz
 obtain ⟨hz0, hz1, hz2⟩ := hzz
 obtain ⟨g, cap, cur, fr, rfl, h2, h3, h4, h5, h6, h7⟩ := h
 have hs : Src Tryd.prog i0.size 54 (.slice (some ⟨g2, 0, none⟩) 1 1) 1 [.int .u8 x] W := by
  rw [hz1]
  refine Src.ofSlice W Tryd.underlying54 ⟨g2, 0, none⟩ 1 1 [.int .u8 x] rfl (fun j u hj => ?_) (fun u hu => ?_)
  ·
   match j, hj with
   | 0, hj =>
    injection hj with hj
    subst hj
    exact (cell_of_row W g2 0 _ 5 (0, 0) hx).trans rfl
  ·
   rw [List.mem_singleton] at hu
   subst hu
   rfl
 by_cases hroom : xs.length + 1 ≤ cap
 ·
  have hcur : xs.length < cur.size := by omega
  have hrun := run_append_room_src (P := Tryd.prog) W 54 54 ty 5 i0 Tryd.underlying54 hi g 0 xs.length cap _ 1 _ hs hroom (fun j hj => by
    have hj0 : j = 0 := by simpa using hj
    subst hj0
    rw [hz1, cell_of_row W g _ cur 5 fr h3, Array.getElem?_eq_getElem (by omega)]
    rfl) (fun j hj => by
    have hj0 : j = 0 := by simpa using hj
    subst hj0
    rw [hz1]
    obtain ⟨lo, hi'⟩ := fr
    simp only [World.frozen?, h3, Bool.and_eq_false_iff, decide_eq_false_iff_not]
    rcases h6 with h6 | h6
    ·
     left
     have h6' : cap ≤ lo := h6
     omega
    ·
     right
     have h6' : hi' = 0 := h6
     omega)
  refine ⟨_, _, hrun, ⟨g, cap, cur.setIfInBounds xs.length (.int .u8 x), fr, ?_, h2, ?_, ?_, ?_, h6, ?_⟩, ?_⟩
  ·
   simp
  ·
   show (W.heap.modify g _)[g]? = _
   rw [BRow.modify_at _ _ _ _ h3]
   simp [hz1]
  ·
   simp; omega
  ·
   simpa using h5
  ·
   rw [List.length_append, List.length_singleton, Array.toList_setIfInBounds, List.map_append, ← h7]
   have hlt : xs.length < (cur.toList.set xs.length (Value.int .u8 x)).length := by rw [List.length_set, Array.length_toList]; omega
   rw [List.take_add_one, List.getElem?_eq_getElem hlt, List.getElem_set_self, List.take_set_of_le (Nat.le_refl _)]
   rfl
  ·
   show Below base W (W.setCells g (0 + xs.length * i0.size) [.int .u8 x])
   exact Below.setCell (p := ⟨g, _, none⟩) (Below.refl _ _ |>.mono hb |> fun h => h) h2 _
 ·
  have hold : (Builtin.firstCells i0.size xs.length (.slice (some ⟨g, 0, none⟩) xs.length cap)).run Tryd.prog W.drew = .ok (xs.map (Value.int .u8)).toArray W.drew := by
   rw [hz1]
   refine run_firstCells_some W.drew 1 _ ⟨g, 0, none⟩ _ _ _ (by simp) (fun j u hj => ?_)
   rw [add_plain, cell_of_row W.drew g j cur 5 fr h3]
   have h8 : cur.toList[j]? = some u := by
    rw [← h7, List.getElem?_take] at hj
    split at hj
    ·
     exact hj
    ·
     cases hj
   rw [Array.getElem?_toList] at h8
   exact h8
  have hrun := run_append_grow_src (P := Tryd.prog) W 54 54 ty 5 i0 (.int .u8 0) Tryd.underlying54 hi hz0 (some ⟨g, 0, none⟩) xs.length cap _ hold _ 1 _ hs (by omega) (by omega) (by rw [hz2]; exact growslice_fits (by omega) (by omega))
  have hge : xs.length + 1 ≤ grownCap W (xs.length + 1) cap 5 := grownCap_ge W (xs.length + 1) cap 5
  refine ⟨_, _, hrun, ⟨W.heap.size, grownCap W (xs.length + 1) cap 5, _, (0, 0), by simp, hb, heap_alloc_new W.drew _, by simpa using hge, ?_, .inr rfl, ?_⟩, ?_⟩
  ·
   simp [Builtin.zeroCells, Value.cells]
   omega
  ·
   rw [Array.toList_append]
   exact (List.take_left' (by simp)).trans (by simp)
  ·
   exact (below_alloc (below_drew (Below.refl W.heap.size W)) _).mono hb
end Go.Proofs.YtifpomknkjegeaaDoor.Sha
namespace Go.Proofs.YtifpomknkjegeaaDoor.Sha
open Go.RowKit Go.Proofs.YtifpomknkjegeaaDoor.PAll Go.Proofs.YtifpomknkjegeaaDoorW.PrintWords Go.Proofs.YtifpomknkjegeaaDoorW.PrintLast Go.Proofs.YtifpomknkjegeaaDoorW.PrintMore SG
set_option linter.unusedVariables false
set_option linter.unusedSimpArgs false
attribute [local go_sem] all_u8 all_u32 all_u64 wrapU addU shlU24 shlU16 shlU8 shrU24 shrU16 shrU8 shrU3 shrU10 orU xorU andU
theorem GR_app {ops : Array Oper} {rest : List Oper} {o : Oper} {a : Act} {Q : Exit → Act → World → Prop} {W : World} (hgd : o.guard = none) (s x : Operand) (ho : o.op = .call { callee := .builtin .append, args := #[s, x], argTypes := #[54, 54] })
  (base : Nat) (v : Value) (xs : List Int) (b : Int) (g2 : Nat) (hs : a.eval s = v) (hx : a.eval x = .slice (some ⟨g2, 0, none⟩) 1 1) (HG : GR W base v xs) (hb : base ≤ W.heap.size) (hc : W.heap[g2]? = some (.cells #[.int .u8 b] 5 (0, 0))) (hl : xs.length ≤ 1000000000)
  (h : ∀ v1 w1, GR w1 base v1 (xs ++ [b]) → Below base W w1 → wpList Tryd.prog ops Q rest (a.put o.dst v1) w1) :
  wpList Tryd.prog ops Q (o :: rest) a W := by
 obtain ⟨v1, w1, hrun, h1, h2⟩ := GR_append1 W base v xs b o.type g2 HG hb hc hl
 refine wpList_plain hgd fun K hK => ?_
 unfold Oper.wp
 simp [execOp, ho, resolve, invoke, builtin, hs, hx, hrun, Result.andThen]
 exact hK _ _ (h v1 w1 h1 h2)
theorem bytesOf_iB (l : List UInt8) : bytesOf (mk l) = iB l := rfl
def padded (l : List UInt8) : List UInt8 := l ++ padF (l.length % 64) l.length
def withF (l : List UInt8) : List UInt8 := (blks F0 (padded l) ((padded l).length / 64)).l.flatMap out4
theorem padF_len (r n : Nat) : (padF r n).length = 9 + (119 - r) % 64 := by
 have : (be8 (8 * n)).length = 8 := rfl
 simp [padF, this]
 omega
theorem padded_len (l : List UInt8) : (padded l).length = 64 * ((padded l).length / 64) := by
 unfold padded
 rw [List.length_append, padF_len]
 omega
theorem pre_eq (l : List UInt8) : iB l ++ [(128 : Int)] ++ List.replicate ((119 - l.length % 64) % 64) 0 ++ iB (be8 (8 * l.length)) = iB (padded l) := by
 simp [iB, padded, padF]
theorem chunk_C {w : World} {ad : Addr} {b : List UInt8} {N : Nat} (h : Kd.C (Kd.int .u8) w (some ad) N (iB b)) (hN : N = b.length) (p : Nat) (hp : p + 64 ≤ N) : Kd.C (Kd.int .u8) w (some (ad.add p)) 64 (iB ((b.drop p).take 64)) := by
 subst hN
 have h1 : CB w (some (ad.add p)) (b.drop p) := CB_drop h p (by omega)
 have h2 := CB_take h1 64 (by rw [List.length_drop]; omega)
 have h3 : ((b.drop p).take 64).length = 64 := by rw [List.length_take, List.length_drop]; omega
 unfold CB at h2
 rwa [h3] at h2
theorem chunk_len {b : List UInt8} {N : Nat} (hN : N = b.length) (p : Nat) (hp : p + 64 ≤ N) : ((b.drop p).take 64).length = 64 := by rw [List.length_take, List.length_drop]; omega
theorem tm64 (N : Nat) : Int.tmod (N : Int) 64 = ((N % 64 : Nat) : Int) := rfl
theorem em64 (N : Nat) : (N : Int) % 64 = ((N % 64 : Nat) : Int) := by omega
set_option maxHeartbeats 16000000 in
set_option maxRecDepth 100000 in
theorem with_walk (l : List UInt8) (hl : l.length ≤ 1000000) (A1 : Option Addr) (c1 : Nat) (A2 : Option Addr) (c2 : Nat) (w : World) (hH : Kd.C (Kd.int .u32) w A1 8 (ivs F0.l)) (hK : Kd.C (Kd.int .u32) w A2 64 (ivs KT)) :
  Calls Tryd.prog 39 #[.agg #[.slice A1 8 c1, .slice A2 64 c2], .string (mk l)] w fun e w' => e = .returned (.string (mk (withF l))) ∧ Below w.heap.size w w' := by
 have HH := sqA hH
 have HKK := sqA hK
 have HL := sqA hl
 clear hH hK
 go_enter Tryd.func39, Tryd.ntmps39
 go_wp2_with (first | ((with_reducible refine gate_dst (N := 2) rfl ?_); refine sqo (N := 2) (cs := #[.slice A1 8 c1, .slice A2 64 c2]) (t := 75) ?_; intro g2 hg2 w2 hbox hb; have HX2 := sqA hbox; have HB2 := sqA hb; have HG2 : Aside0 (w.heap.size ≤ g2) := ⟨by rw [hg2]; exact Nat.le_refl _⟩; clear hg2 hbox hb) | ((with_reducible refine gate_dst (N := 13) rfl ?_); refine BRow.BR_conv (w0 := w2) w2.heap.size 5 rfl (N := 13) rfl 9 54 (.tmp 12) rfl (mk l) rfl Tryd.underlying9 Tryd.underlying54 Tryd.underlying5 (by rw [mk_size]; omega) (Below.refl _ _) (Nat.le_refl _) ?_; intro v13 w13 hr hb hg hat; rw [bytesOf_iB] at hr; have HR13 := sqA (GR_of_BR hr); have HB13 := sqA hb; clear hr hb hg hat) | ((with_reducible refine gate_builtin (b := .append) (xs := #[.tmp 13, .tmp 14]) rfl ?_); at_builtin; refine GR_app rfl (.tmp 13) (.tmp 14) rfl w2.heap.size v13 (iB l) 128 w13.heap.size rfl rfl (GR_below HR13.out (below_alloc (Below.refl _ _) _)) (below_alloc HB13.out _).size (heap_alloc_new w13 _) (by rw [iB_length]; omega) ?_; intro v9 w9 hr9 hb9; have HR9 := sqA hr9; have HB9 : Aside0 (Below w2.heap.size w2 w9) := ⟨(below_alloc HB13.out _).trans hb9⟩; clear hr9 hb9))
 have HR0 : Aside0 (GR w9 w2.heap.size v9 (iB l ++ [(128 : Int)] ++ List.replicate 0 0)) := ⟨by simpa using HR9.out⟩
 have HZ : Aside0 ((119 - l.length % 64) % 64 ≤ 63) := ⟨by omega⟩
 clear HR9
 go_loopg [5] ((119 - l.length % 64) % 64) (fun kq v5 w' => ∃ z, Aside0 (z + kq = (119 - l.length % 64) % 64) ∧ Aside0 (GR w' w2.heap.size v5 (iB l ++ [(128 : Int)] ++ List.replicate z 0)) ∧ Aside0 (Below w2.heap.size w2 w'))
 case atStart => exact ⟨0, ⟨by omega⟩, HR0, HB9⟩
 case round =>
  obtain ⟨z, HI, HRz, HBz⟩ := hrel
  have hi := HI.out
  obtain ⟨Az, cz, hv, hcz⟩ := GR_slice HRz.out
  have hlen : (iB l ++ [(128 : Int)] ++ List.replicate z 0).length = l.length + 1 + z := by simp [iB_length]; omega
  rw [hlen] at hv hcz
  obtain ⟨N, hN⟩ : ∃ N, N = l.length + 1 + z := ⟨_, rfl⟩
  rw [← hN] at hv hcz
  subst hv
  have t1 := tm64 N
  have t2 := em64 N
  by_cases hat : gk = 0
  ·
   subst hat
   have hz : ((((N % 64 : Nat) : Int)) != 56) = false := by simp; omega
   have hzz : z = (119 - l.length % 64) % 64 := by omega
   obtain ⟨n, hn⟩ : ∃ n, n = l.length := ⟨_, rfl⟩
   have hsz : ((mk l).size : Int) = (n : Int) := by rw [mk_size, hn]
   have hn6 : n ≤ 1000000 := by omega
   obtain ⟨P, hP⟩ : ∃ P, P = l ++ 0x80 :: List.replicate z 0 := ⟨_, rfl⟩
   have HPi : Aside0 (iB l ++ [(128 : Int)] ++ List.replicate z 0 = iB P) := ⟨by rw [hP]; simp [iB]⟩
   have HPL : Aside0 (P.length ≤ 1000100) := ⟨by rw [hP]; simp; omega⟩
   have HPP : Aside0 (P ++ be8 (8 * n) = padded l) := ⟨by rw [hP, hn, hzz]; simp [padded, padF]⟩
   have HRp : Aside0 (GR wr w2.heap.size (.slice Az N cz) (iB P)) := ⟨by rw [← HPi.out]; exact HRz.out⟩
   have hw1 : IntKind.u64.wrap (n : Int) = (n : Int) := by rw [IntKind.wrap_u64]; omega
   have hw2 : IntKind.u64.wrap ((n : Int) * 8) = (n : Int) * 8 := by rw [IntKind.wrap_u64]; omega
   generalize N % 64 = r at *
   clear HI hN hlen hi hzz hP HRz HPi hn
   go_wp2
   clear hw1 hw2 t1 t2 hz hsz hcz
   go_loopg [5, 7] 8 (fun kq v5 v7 w' => v7 = .int .i64 ((kq : Int) - 1) ∧ Aside0 (kq ≤ 8) ∧ Aside0 (GR w' w2.heap.size v5 (iB (P ++ (be8 (8 * n)).take (8 - kq)))) ∧ Aside0 (Below w2.heap.size w2 w'))
   case atStart => exact ⟨by first | rfl | (simp; done), ⟨by omega⟩, ⟨by simpa using HRp.out⟩, HBz⟩
   case round =>
    obtain ⟨rfl, HI, HRi, HBi⟩ := hrel
    have hi := HI.out
    rcases gk with _ | k1
    ·
     have hge : decide (((0 : Nat) : Int) - 1 ≥ 0) = false := by decide
     have hpad : P ++ (be8 (8 * n)).take (8 - 0) = padded l := HPP.out
     have hr0 := HRi.out
     rw [hpad] at hr0
     obtain ⟨A4, c4, rfl, hc4⟩ := GR_slice hr0
     have hlenP : (iB (padded l)).length = (padded l).length := iB_length _
     have hPl6 : (padded l).length ≤ 1000200 := by
      rw [← hpad, List.length_append, List.length_take]
      have h1 := HPL.out
      have h2 : (be8 (8 * n)).length = 8 := rfl
      omega
     have hC4 := GR_C hr0 (by rw [hlenP]; omega)
     rw [hlenP] at hc4 hC4 ⊢
     obtain ⟨J, hJ⟩ : ∃ J, J = (padded l).length / 64 := ⟨_, rfl⟩
     have hJN : (padded l).length = 64 * J := by rw [hJ]; exact padded_len l
     have HWF : Aside0 (withF l = (blks F0 (padded l) J).l.flatMap out4) := ⟨by rw [hJ]; rfl⟩
     obtain ⟨M, hM⟩ : ∃ M, M = (padded l).length := ⟨_, rfl⟩
     rw [← hM] at hc4 hC4 hPl6 hJN ⊢
     have HM := sqA hM
     have HC4 := sqA hC4
     have HMJ := sqA hJN
     have HM6 := sqA hPl6
     have HB0 := sqA (below_step HB2.out HBi.out)
     have HX := sqA (blk_below HX2.out HBi.out)
     have x0 : wr.cell? ⟨g2, 0, none⟩ = some (.slice A1 8 c1) := (blk_cell HX.out 0).trans rfl
     have HHi := sqA (Kd.C_below HH.out HB0.out)
     have HKi := sqA (Kd.C_below HKK.out HB0.out)
     obtain ⟨wb, rfl⟩ : ∃ wb, wb = wr := ⟨wr, rfl⟩
     clear hr0 hpad hlenP hJ hM HRi HI hC4 hPl6
     go_wp2
     clear x0
     go_loopg [8, 9] J (fun kq v8 v9 w' => ∃ (j : Nat) (p : Nat) (A8 : Option Addr) (c8 : Nat), v9 = .int .i64 (p : Int) ∧ v8 = .slice A8 8 c8 ∧ Aside0 (p = 64 * j) ∧ Aside0 (j + kq = J) ∧ Aside0 (Kd.C (Kd.int .u32) w' A8 8 (ivs (blks F0 (padded l) j).l)) ∧ Aside0 (Below wb.heap.size wb w'))
     case atStart => exact ⟨0, 0, A1, c1, rfl, rfl, ⟨rfl⟩, ⟨by omega⟩, HHi, ⟨Below.refl _ _⟩⟩
     case round =>
      obtain ⟨j, p, A8, c8, rfl, rfl, HP, HI, HC8, HBj⟩ := hrel
      have hi := HI.out
      have hp := HP.out
      by_cases hat : j < J
      ·
       obtain ⟨k1, rfl⟩ : ∃ k1, gk = k1 + 1 := ⟨gk - 1, by omega⟩
       have hlt : decide ((p : Int) < (M : Int)) = true := decide_eq_true (by omega)
       have hpM : p < M := by omega
       have HI1 : Aside0 (j + 1 + k1 = J) := ⟨by omega⟩
       have HPM : Aside0 (p + 64 ≤ M) := ⟨by omega⟩
       obtain ⟨q, hq⟩ : ∃ q, q = p + 64 := ⟨_, rfl⟩
       have HQ : Aside0 (q = 64 * (j + 1)) := ⟨by omega⟩
       have hqw : IntKind.i64.wrap ((p : Int) + 64) = (q : Int) := by rw [IntKind.wrap_i64, hq]; have := HM6.out; omega
       have hqw2 : wrap64 ((p : Int) + 64) = (q : Int) := by unfold wrap64; rw [hq]; have := HM6.out; omega
       have hq1 : (p : Int) ≤ (q : Int) := by omega
       have hq2 : (q : Int) ≤ (c4 : Int) := by omega
       have HQP : Aside0 (q - p = 64) := ⟨by omega⟩
       have HNE : Aside0 (¬ c4 = p) := ⟨by have := HPM.out; omega⟩
       have HBK : Aside0 (blks F0 (padded l) (j + 1) = blk (blks F0 (padded l) j) (((padded l).drop p).take 64)) := ⟨by rw [hp]; rfl⟩
       have HXj := sqA (blk_below HX.out HBj.out)
       have SOF : Aside0 (∀ w', Below wb.heap.size wb w' → w'.cell? ⟨g2, 0, none⟩ = some (.slice A1 8 c1) ∧ w'.cell? ⟨g2, 1, none⟩ = some (.slice A2 64 c2)) := ⟨fun w' hb => ⟨(blk_cell (blk_below HX.out hb) 0).trans rfl, (blk_cell (blk_below HX.out hb) 1).trans rfl⟩⟩
       obtain ⟨ad4, rfl, _⟩ := atB HC4.out (by have := HPM.out; omega)
       clear HI HP hi hp hat hJN hq
       go_wp2
       refine start_ (n := 10) (S := fun w' => w'.cell? ⟨g2, 0, none⟩ = some (.slice A1 8 c1) ∧ w'.cell? ⟨g2, 1, none⟩ = some (.slice A2 64 c2)) (ds := []) #[false, false, false, false, false, false, false, false, false, false] (by kernel_rfl) rfl rfl (SOF.out _ (below_drew HBj.out)) (fun hHeld => ?_)
       refine pure_ (i := 0) (N := some 48) (v := ?_) (a' := ?_) #[true, false, false, false, false, false, false, false, false, false] rfl rfl (by kernel_rfl) (fun _ _ _ h => h) (Or.inl ⟨by rfl, ?_⟩) ?_ ?_
       rotate_left
       ·
        intro w'
        go_simp
        with_reducible rfl
       rotate_left
       ·
        simp only [Act.put, List.setIfInBounds_toArray, List.set_cons_zero, List.set_cons_succ, i64_w, i32_w]
        rfl
       refine pure_ (i := 1) (N := some 49) (v := ?_) (a' := ?_) #[true, true, false, false, false, false, false, false, false, false] rfl rfl (by kernel_rfl) (fun _ _ _ h => h) (Or.inl ⟨by rfl, ?_⟩) ?_ ?_
       rotate_left
       ·
        intro w'
        go_simp
        with_reducible rfl
       rotate_left
       ·
        simp only [Act.put, List.setIfInBounds_toArray, List.set_cons_zero, List.set_cons_succ, i64_w, i32_w]
        rfl
       refine take_ (i := 2) (N := some 50) (v := ?_) (a' := ?_) #[true, true, true, false, false, false, false, false, false, false] rfl rfl (by kernel_rfl) (fun _ _ _ h => h) (Or.inl ⟨by rfl, ?_⟩) hHeld ?_ ?_
       rotate_left
       ·
        rintro w' ⟨s0, s1⟩
        go_simp
        with_reducible rfl
       rotate_left
       ·
        simp only [Act.put, List.setIfInBounds_toArray, List.set_cons_zero, List.set_cons_succ, i64_w, i32_w]
        rfl
       refine pure_ (i := 3) (N := some 51) (v := ?_) (a' := ?_) #[true, true, true, true, false, false, false, false, false, false] rfl rfl (by kernel_rfl) (fun _ _ _ h => h) (Or.inl ⟨by rfl, ?_⟩) ?_ ?_
       rotate_left
       ·
        intro w'
        go_simp
        with_reducible rfl
       rotate_left
       ·
        simp only [Act.put, List.setIfInBounds_toArray, List.set_cons_zero, List.set_cons_succ, i64_w, i32_w]
        rfl
       refine pure_ (i := 4) (N := some 52) (v := ?_) (a' := ?_) #[true, true, true, true, true, false, false, false, false, false] rfl rfl (by kernel_rfl) (fun _ _ _ h => h) (Or.inl ⟨by rfl, ?_⟩) ?_ ?_
       rotate_left
       ·
        intro w'
        go_simp
        with_reducible rfl
       rotate_left
       ·
        simp only [Act.put, List.setIfInBounds_toArray, List.set_cons_zero, List.set_cons_succ, i64_w, i32_w]
        rfl
       refine pure_ (i := 5) (N := some 53) (v := ?_) (a' := ?_) #[true, true, true, true, true, true, false, false, false, false] rfl rfl (by kernel_rfl) (fun _ _ _ h => h) (Or.inl ⟨by rfl, ?_⟩) ?_ ?_
       rotate_left
       ·
        intro w'
        go_simp
        with_reducible rfl
       rotate_left
       ·
        simp only [Act.put, List.setIfInBounds_toArray, List.set_cons_zero, List.set_cons_succ, i64_w, i32_w]
        rfl
       refine pure_ (i := 6) (N := some 54) (v := ?_) (a' := ?_) #[true, true, true, true, true, true, true, false, false, false] rfl rfl (by kernel_rfl) (fun _ _ _ h => h) (Or.inl ⟨by rfl, ?_⟩) ?_ ?_
       rotate_left
       ·
        intro w'
        go_simp
        with_reducible rfl
       rotate_left
       ·
        simp only [Act.put, List.setIfInBounds_toArray, List.set_cons_zero, List.set_cons_succ, i64_w, i32_w]
        rfl
       refine pure_ (i := 7) (N := some 55) (v := ?_) (a' := ?_) #[true, true, true, true, true, true, true, true, false, false] rfl rfl (by kernel_rfl) (fun _ _ _ h => h) (Or.inl ⟨by rfl, ?_⟩) ?_ ?_
       rotate_left
       ·
        intro w'
        go_simp
        with_reducible rfl
       rotate_left
       ·
        simp only [Act.put, List.setIfInBounds_toArray, List.set_cons_zero, List.set_cons_succ, i64_w, i32_w]
        rfl
       refine one_ (i := 8) (N := some 56) #[true, true, true, true, true, true, true, true, true, false] rfl rfl (by kernel_rfl) (by decide) (fun K hK => ?_)
       go_simp
       go_at_call 55
       rw [if_neg HNE.out, HQP.out]
       refine (rblock_walk _ _ (chunk_len HM.out p HPM.out) _ _ _ _ _ _ _ (Kd.C_below HC8.out (below_drew (Below.refl _ _))) (Kd.C_below HKi.out (below_drew HBj.out)) (chunk_C (Kd.C_below HC4.out (below_drew HBj.out)) HM.out p HPM.out)).mono ?_
       rintro e w9 ⟨B9, d9, rfl, hd9, hC9, hb9⟩
       rw [← HBK.out] at hC9
       have HC9 := sqA hC9
       have HB9j := sqA (below_step (below_drew HBj.out) hb9)
       clear hC9 hb9 hd9
       refine hK.out _ _ (SOF.out _ HB9j.out) (fun hHeld => ?_)
       clear hK K
       refine norm_ (a' := ?_) ?_ ?_
       rotate_left
       ·
        first | (show Act.put _ (some 56) _ = _; simp only [Act.put, List.setIfInBounds_toArray, List.set_cons_zero, List.set_cons_succ, i64_w, i32_w]; rfl) | rfl
       refine pure_ (i := 9) (N := some 8) (v := ?_) (a' := ?_) #[true, true, true, true, true, true, true, true, true, true] rfl rfl (by kernel_rfl) (fun _ _ _ h => h) (Or.inl ⟨by rfl, ?_⟩) ?_ ?_
       rotate_left
       ·
        intro w'
        go_simp
        with_reducible rfl
       rotate_left
       ·
        simp only [Act.put, List.setIfInBounds_toArray, List.set_cons_zero, List.set_cons_succ, i64_w, i32_w]
        rfl
       refine done_ (by kernel_rfl) ?_
       go_wp2
       go_roundg k1
       case measure => omega
       case rel => exact ⟨j + 1, q, B9, d9, by first | rfl | (simp; done), rfl, HQ, HI1, HC9, HB9j⟩
      ·
       obtain rfl : gk = 0 := by omega
       obtain rfl : j = J := by omega
       have hlt : decide ((p : Int) < (M : Int)) = false := decide_eq_false (by omega)
       have hpM : ¬ p < M := by omega
       obtain ⟨r, hr⟩ : ∃ r, r = blks F0 (padded l) j := ⟨_, rfl⟩
       have HRE := sqA hr
       rw [← hr] at HC8
       obtain ⟨ad8, rfl, xs⟩ := atW HC8.out (by decide)
       have XS := sqA xs
       have HXj := sqA (blk_below HX.out HBj.out)
       obtain ⟨wc, rfl⟩ : ∃ wc, wc = wr := ⟨wr, rfl⟩
       clear HI HP hi hp hat hJN hr xs
       go_wp2
       go_loopg [10, 11] 8 (fun kq v10 v11 w' => ∃ (i : Nat), v11 = .int .i64 (i : Int) ∧ Aside0 (i + kq = 8) ∧ Aside0 ((Kd.int .u8).R 5 w' wc.heap.size (fun _ => True) v10 (iB ((r.l.take i).flatMap out4))) ∧ Aside0 (Below wc.heap.size wc w'))
       case atStart => exact ⟨0, rfl, ⟨by omega⟩, ⟨Kd.R_nil _ _ _ _ _⟩, ⟨Below.refl _ _⟩⟩
       case round =>
        obtain ⟨i, rfl, HI, HRi, HBi5⟩ := hrel
        have hi := HI.out
        by_cases hat : i < 8
        ·
         obtain ⟨k1, rfl⟩ : ∃ k1, gk = k1 + 1 := ⟨gk - 1, by omega⟩
         have hlt : decide ((i : Int) < 8) = true := decide_eq_true (by omega)
         have hil : (i : Int) < 8 := by omega
         have HI1 : Aside0 (i + 1 + k1 = 8) := ⟨by omega⟩
         obtain ⟨x, hx⟩ : ∃ x, x = r.l.getD i 0 := ⟨_, rfl⟩
         have SOF : Aside0 (∀ w', Below wc.heap.size wc w' → w'.cell? (ad8.add i) = some (.int .u32 (iv x)) ∧ w'.cell? ⟨g2, 1, none⟩ = some (.slice A2 64 c2)) := ⟨fun w' hb => ⟨by rw [hx]; exact XS.out _ hb i hat, (blk_cell (blk_below HXj.out hb) 1).trans rfl⟩⟩
         have HT4 : Aside0 ((r.l.take (i + 1)).flatMap out4 = (r.l.take i).flatMap out4 ++ out4 x) := ⟨by
          rw [← flat4, hx]
          congr 1
          rw [List.take_add_one, List.getD_eq_getElem?_getD]
          have h8 : i < r.l.length := hat
          rw [List.getElem?_eq_getElem h8]
          rfl⟩
         have HL4 : Aside0 ((iB ((r.l.take i).flatMap out4)).length ≤ 100) := ⟨by
          rw [iB_length, flat4_len, List.length_take]
          omega⟩
         clear HI hx hi
         go_wp2
         refine start_ (n := 27) (S := fun w' => w'.cell? (ad8.add i) = some (.int .u32 (iv x)) ∧ w'.cell? ⟨g2, 1, none⟩ = some (.slice A2 64 c2)) (ds := []) #[false, false, false, false, false, false, false, false, false, false, false, false, false, false, false, false, false, false, false, false, false, false, false, false, false, false, false] (by kernel_rfl) rfl rfl (SOF.out _ (below_drew HBi5.out)) (fun hHeld => ?_)
         refine pure_ (i := 0) (N := some 61) (v := ?_) (a' := ?_) #[true, false, false, false, false, false, false, false, false, false, false, false, false, false, false, false, false, false, false, false, false, false, false, false, false, false, false] rfl rfl (by kernel_rfl) (fun _ _ _ h => h) (Or.inl ⟨by rfl, ?_⟩) ?_ ?_
         rotate_left
         ·
          intro w'
          go_simp
          with_reducible rfl
         rotate_left
         ·
          simp only [Act.put, List.setIfInBounds_toArray, List.set_cons_zero, List.set_cons_succ, i64_w, i32_w]
          rfl
         refine pure_ (i := 1) (N := some 62) (v := ?_) (a' := ?_) #[true, true, false, false, false, false, false, false, false, false, false, false, false, false, false, false, false, false, false, false, false, false, false, false, false, false, false] rfl rfl (by kernel_rfl) (fun _ _ _ h => h) (Or.inl ⟨by rfl, ?_⟩) ?_ ?_
         rotate_left
         ·
          intro w'
          go_simp
          with_reducible rfl
         rotate_left
         ·
          simp only [Act.put, List.setIfInBounds_toArray, List.set_cons_zero, List.set_cons_succ, i64_w, i32_w]
          rfl
         refine pure_ (i := 2) (N := some 63) (v := ?_) (a' := ?_) #[true, true, true, false, false, false, false, false, false, false, false, false, false, false, false, false, false, false, false, false, false, false, false, false, false, false, false] rfl rfl (by kernel_rfl) (fun _ _ _ h => h) (Or.inl ⟨by rfl, ?_⟩) ?_ ?_
         rotate_left
         ·
          intro w'
          go_simp
          with_reducible rfl
         rotate_left
         ·
          simp only [Act.put, List.setIfInBounds_toArray, List.set_cons_zero, List.set_cons_succ, i64_w, i32_w]
          rfl
         refine pure_ (i := 3) (N := some 64) (v := ?_) (a' := ?_) #[true, true, true, true, false, false, false, false, false, false, false, false, false, false, false, false, false, false, false, false, false, false, false, false, false, false, false] rfl rfl (by kernel_rfl) (fun _ _ _ h => h) (Or.inl ⟨by rfl, ?_⟩) ?_ ?_
         rotate_left
         ·
          intro w'
          go_simp
          with_reducible rfl
         rotate_left
         ·
          simp only [Act.put, List.setIfInBounds_toArray, List.set_cons_zero, List.set_cons_succ, i64_w, i32_w]
          rfl
         refine take_ (i := 4) (N := some 65) (v := ?_) (a' := ?_) #[true, true, true, true, true, false, false, false, false, false, false, false, false, false, false, false, false, false, false, false, false, false, false, false, false, false, false] rfl rfl (by kernel_rfl) (fun _ _ _ h => h) (Or.inl ⟨by rfl, ?_⟩) hHeld ?_ ?_
         rotate_left
         ·
          rintro w' ⟨s0, s1⟩
          go_simp
          with_reducible rfl
         rotate_left
         ·
          simp only [Act.put, List.setIfInBounds_toArray, List.set_cons_zero, List.set_cons_succ, i64_w, i32_w]
          rfl
         refine pure_ (i := 5) (N := some 66) (v := ?_) (a' := ?_) #[true, true, true, true, true, true, false, false, false, false, false, false, false, false, false, false, false, false, false, false, false, false, false, false, false, false, false] rfl rfl (by kernel_rfl) (fun _ _ _ h => h) (Or.inl ⟨by rfl, ?_⟩) ?_ ?_
         rotate_left
         ·
          intro w'
          go_simp
          with_reducible rfl
         rotate_left
         ·
          simp only [Act.put, List.setIfInBounds_toArray, List.set_cons_zero, List.set_cons_succ, i64_w, i32_w]
          rfl
         refine pure_ (i := 6) (N := some 67) (v := ?_) (a' := ?_) #[true, true, true, true, true, true, true, false, false, false, false, false, false, false, false, false, false, false, false, false, false, false, false, false, false, false, false] rfl rfl (by kernel_rfl) (fun _ _ _ h => h) (Or.inl ⟨by rfl, ?_⟩) ?_ ?_
         rotate_left
         ·
          intro w'
          go_simp
          with_reducible rfl
         rotate_left
         ·
          simp only [Act.put, List.setIfInBounds_toArray, List.set_cons_zero, List.set_cons_succ, i64_w, i32_w]
          rfl
         refine pure_ (i := 7) (N := some 68) (v := ?_) (a' := ?_) #[true, true, true, true, true, true, true, true, false, false, false, false, false, false, false, false, false, false, false, false, false, false, false, false, false, false, false] rfl rfl (by kernel_rfl) (fun _ _ _ h => h) (Or.inl ⟨by rfl, ?_⟩) ?_ ?_
         rotate_left
         ·
          intro w'
          go_simp
          with_reducible rfl
         rotate_left
         ·
          simp only [Act.put, List.setIfInBounds_toArray, List.set_cons_zero, List.set_cons_succ, i64_w, i32_w]
          rfl
         refine pure_ (i := 8) (N := some 69) (v := ?_) (a' := ?_) #[true, true, true, true, true, true, true, true, true, false, false, false, false, false, false, false, false, false, false, false, false, false, false, false, false, false, false] rfl rfl (by kernel_rfl) (fun _ _ _ h => h) (Or.inl ⟨by rfl, ?_⟩) ?_ ?_
         rotate_left
         ·
          intro w'
          go_simp
          with_reducible rfl
         rotate_left
         ·
          simp only [Act.put, List.setIfInBounds_toArray, List.set_cons_zero, List.set_cons_succ, i64_w, i32_w]
          rfl
         refine pure_ (i := 9) (N := some 70) (v := ?_) (a' := ?_) #[true, true, true, true, true, true, true, true, true, true, false, false, false, false, false, false, false, false, false, false, false, false, false, false, false, false, false] rfl rfl (by kernel_rfl) (fun _ _ _ h => h) (Or.inl ⟨by rfl, ?_⟩) ?_ ?_
         rotate_left
         ·
          intro w'
          go_simp
          with_reducible rfl
         rotate_left
         ·
          simp only [Act.put, List.setIfInBounds_toArray, List.set_cons_zero, List.set_cons_succ, i64_w, i32_w]
          rfl
         refine take_ (i := 10) (N := some 71) (v := ?_) (a' := ?_) #[true, true, true, true, true, true, true, true, true, true, true, false, false, false, false, false, false, false, false, false, false, false, false, false, false, false, false] rfl rfl (by kernel_rfl) (fun _ _ _ h => h) (Or.inl ⟨by rfl, ?_⟩) hHeld ?_ ?_
         rotate_left
         ·
          rintro w' ⟨s0, s1⟩
          go_simp
          with_reducible rfl
         rotate_left
         ·
          simp only [Act.put, List.setIfInBounds_toArray, List.set_cons_zero, List.set_cons_succ, i64_w, i32_w]
          rfl
         refine pure_ (i := 11) (N := some 72) (v := ?_) (a' := ?_) #[true, true, true, true, true, true, true, true, true, true, true, true, false, false, false, false, false, false, false, false, false, false, false, false, false, false, false] rfl rfl (by kernel_rfl) (fun _ _ _ h => h) (Or.inl ⟨by rfl, ?_⟩) ?_ ?_
         rotate_left
         ·
          intro w'
          go_simp
          with_reducible rfl
         rotate_left
         ·
          simp only [Act.put, List.setIfInBounds_toArray, List.set_cons_zero, List.set_cons_succ, i64_w, i32_w]
          rfl
         refine pure_ (i := 12) (N := some 73) (v := ?_) (a' := ?_) #[true, true, true, true, true, true, true, true, true, true, true, true, true, false, false, false, false, false, false, false, false, false, false, false, false, false, false] rfl rfl (by kernel_rfl) (fun _ _ _ h => h) (Or.inl ⟨by rfl, ?_⟩) ?_ ?_
         rotate_left
         ·
          intro w'
          go_simp
          with_reducible rfl
         rotate_left
         ·
          simp only [Act.put, List.setIfInBounds_toArray, List.set_cons_zero, List.set_cons_succ, i64_w, i32_w]
          rfl
         refine pure_ (i := 13) (N := some 74) (v := ?_) (a' := ?_) #[true, true, true, true, true, true, true, true, true, true, true, true, true, true, false, false, false, false, false, false, false, false, false, false, false, false, false] rfl rfl (by kernel_rfl) (fun _ _ _ h => h) (Or.inl ⟨by rfl, ?_⟩) ?_ ?_
         rotate_left
         ·
          intro w'
          go_simp
          with_reducible rfl
         rotate_left
         ·
          simp only [Act.put, List.setIfInBounds_toArray, List.set_cons_zero, List.set_cons_succ, i64_w, i32_w]
          rfl
         refine pure_ (i := 14) (N := some 75) (v := ?_) (a' := ?_) #[true, true, true, true, true, true, true, true, true, true, true, true, true, true, true, false, false, false, false, false, false, false, false, false, false, false, false] rfl rfl (by kernel_rfl) (fun _ _ _ h => h) (Or.inl ⟨by rfl, ?_⟩) ?_ ?_
         rotate_left
         ·
          intro w'
          go_simp
          with_reducible rfl
         rotate_left
         ·
          simp only [Act.put, List.setIfInBounds_toArray, List.set_cons_zero, List.set_cons_succ, i64_w, i32_w]
          rfl
         refine pure_ (i := 15) (N := some 76) (v := ?_) (a' := ?_) #[true, true, true, true, true, true, true, true, true, true, true, true, true, true, true, true, false, false, false, false, false, false, false, false, false, false, false] rfl rfl (by kernel_rfl) (fun _ _ _ h => h) (Or.inl ⟨by rfl, ?_⟩) ?_ ?_
         rotate_left
         ·
          intro w'
          go_simp
          with_reducible rfl
         rotate_left
         ·
          simp only [Act.put, List.setIfInBounds_toArray, List.set_cons_zero, List.set_cons_succ, i64_w, i32_w]
          rfl
         refine take_ (i := 16) (N := some 77) (v := ?_) (a' := ?_) #[true, true, true, true, true, true, true, true, true, true, true, true, true, true, true, true, true, false, false, false, false, false, false, false, false, false, false] rfl rfl (by kernel_rfl) (fun _ _ _ h => h) (Or.inl ⟨by rfl, ?_⟩) hHeld ?_ ?_
         rotate_left
         ·
          rintro w' ⟨s0, s1⟩
          go_simp
          with_reducible rfl
         rotate_left
         ·
          simp only [Act.put, List.setIfInBounds_toArray, List.set_cons_zero, List.set_cons_succ, i64_w, i32_w]
          rfl
         refine pure_ (i := 17) (N := some 78) (v := ?_) (a' := ?_) #[true, true, true, true, true, true, true, true, true, true, true, true, true, true, true, true, true, true, false, false, false, false, false, false, false, false, false] rfl rfl (by kernel_rfl) (fun _ _ _ h => h) (Or.inl ⟨by rfl, ?_⟩) ?_ ?_
         rotate_left
         ·
          intro w'
          go_simp
          with_reducible rfl
         rotate_left
         ·
          simp only [Act.put, List.setIfInBounds_toArray, List.set_cons_zero, List.set_cons_succ, i64_w, i32_w]
          rfl
         refine pure_ (i := 18) (N := some 79) (v := ?_) (a' := ?_) #[true, true, true, true, true, true, true, true, true, true, true, true, true, true, true, true, true, true, true, false, false, false, false, false, false, false, false] rfl rfl (by kernel_rfl) (fun _ _ _ h => h) (Or.inl ⟨by rfl, ?_⟩) ?_ ?_
         rotate_left
         ·
          intro w'
          go_simp
          with_reducible rfl
         rotate_left
         ·
          simp only [Act.put, List.setIfInBounds_toArray, List.set_cons_zero, List.set_cons_succ, i64_w, i32_w]
          rfl
         refine pure_ (i := 19) (N := some 80) (v := ?_) (a' := ?_) #[true, true, true, true, true, true, true, true, true, true, true, true, true, true, true, true, true, true, true, true, false, false, false, false, false, false, false] rfl rfl (by kernel_rfl) (fun _ _ _ h => h) (Or.inl ⟨by rfl, ?_⟩) ?_ ?_
         rotate_left
         ·
          intro w'
          go_simp
          with_reducible rfl
         rotate_left
         ·
          simp only [Act.put, List.setIfInBounds_toArray, List.set_cons_zero, List.set_cons_succ, i64_w, i32_w]
          rfl
         refine pure_ (i := 20) (N := some 81) (v := ?_) (a' := ?_) #[true, true, true, true, true, true, true, true, true, true, true, true, true, true, true, true, true, true, true, true, true, false, false, false, false, false, false] rfl rfl (by kernel_rfl) (fun _ _ _ h => h) (Or.inl ⟨by rfl, ?_⟩) ?_ ?_
         rotate_left
         ·
          intro w'
          go_simp
          with_reducible rfl
         rotate_left
         ·
          simp only [Act.put, List.setIfInBounds_toArray, List.set_cons_zero, List.set_cons_succ, i64_w, i32_w]
          rfl
         refine pure_ (i := 21) (N := some 82) (v := ?_) (a' := ?_) #[true, true, true, true, true, true, true, true, true, true, true, true, true, true, true, true, true, true, true, true, true, true, false, false, false, false, false] rfl rfl (by kernel_rfl) (fun _ _ _ h => h) (Or.inl ⟨by rfl, ?_⟩) ?_ ?_
         rotate_left
         ·
          intro w'
          go_simp
          with_reducible rfl
         rotate_left
         ·
          simp only [Act.put, List.setIfInBounds_toArray, List.set_cons_zero, List.set_cons_succ, i64_w, i32_w]
          rfl
         refine take_ (i := 22) (N := some 83) (v := ?_) (a' := ?_) #[true, true, true, true, true, true, true, true, true, true, true, true, true, true, true, true, true, true, true, true, true, true, true, false, false, false, false] rfl rfl (by kernel_rfl) (fun _ _ _ h => h) (Or.inl ⟨by rfl, ?_⟩) hHeld ?_ ?_
         rotate_left
         ·
          rintro w' ⟨s0, s1⟩
          go_simp
          with_reducible rfl
         rotate_left
         ·
          simp only [Act.put, List.setIfInBounds_toArray, List.set_cons_zero, List.set_cons_succ, i64_w, i32_w]
          rfl
         refine pure_ (i := 23) (N := some 84) (v := ?_) (a' := ?_) #[true, true, true, true, true, true, true, true, true, true, true, true, true, true, true, true, true, true, true, true, true, true, true, true, false, false, false] rfl rfl (by kernel_rfl) (fun _ _ _ h => h) (Or.inl ⟨by rfl, ?_⟩) ?_ ?_
         rotate_left
         ·
          intro w'
          go_simp
          with_reducible rfl
         rotate_left
         ·
          simp only [Act.put, List.setIfInBounds_toArray, List.set_cons_zero, List.set_cons_succ, i64_w, i32_w]
          rfl
         refine one_ (i := 24) (N := some 85) #[true, true, true, true, true, true, true, true, true, true, true, true, true, true, true, true, true, true, true, true, true, true, true, true, true, false, false] rfl rfl (by kernel_rfl) (by decide) (fun K hK => ?_)
         go_simp
         refine hK.out _ _ (SOF.out _ (below_alloc (below_drew HBi5.out) _)) (fun hHeld => ?_)
         clear hK K
         refine norm_ (a' := ?_) ?_ ?_
         rotate_left
         ·
          first | (show Act.put _ (some 85) _ = _; simp only [Act.put, List.setIfInBounds_toArray, List.set_cons_zero, List.set_cons_succ, i64_w, i32_w]; rfl) | rfl
         refine one_ (i := 25) (N := some 86) #[true, true, true, true, true, true, true, true, true, true, true, true, true, true, true, true, true, true, true, true, true, true, true, true, true, true, false] rfl rfl (by kernel_rfl) (by decide) (fun K hK => ?_)
         refine Kd.R_append_rows_step (Kd.int .u8) (Rr := fun x cs => cs = [Value.int .u8 x]) (w0 := wc) wc.heap.size rfl (.tmp 61) (.tmp 85) 54 5 (.int .u8 0) 1 rfl Tryd.underlying54 (by kernel_rfl) rfl (by decide) (by decide) u10 (iB ((r.l.take i).flatMap out4)) (iB (out4 x)) (some ⟨_, 0, none⟩) 4 4 (fun _ => True) (fun _ => False) rfl rfl (Kd.R_below HRi.out (below_alloc (below_drew (Below.refl _ _)) _)) (out4_C _ x) (fun _ _ h => h) (fun _ hk => hk.elim) (fun _ _ => trivial) (below_alloc (below_drew HBi5.out) _) (Below.size (B := wc.heap.size) (below_alloc (below_drew HBi5.out) _)) (by have := HL4.out; omega) ?_
         intro v69 w69 hr69 hb69 hg69 hat69
         have HR69 := sqA hr69
         have HB69 := sqA hb69
         clear hr69 hb69 hg69 hat69
         refine hK.out _ _ (SOF.out _ HB69.out) (fun hHeld => ?_)
         clear hK K
         refine norm_ (a' := ?_) ?_ ?_
         rotate_left
         ·
          first | (show Act.put _ (some 86) _ = _; simp only [Act.put, List.setIfInBounds_toArray, List.set_cons_zero, List.set_cons_succ, i64_w, i32_w]; rfl) | rfl
         refine pure_ (i := 26) (N := some 10) (v := ?_) (a' := ?_) #[true, true, true, true, true, true, true, true, true, true, true, true, true, true, true, true, true, true, true, true, true, true, true, true, true, true, true] rfl rfl (by kernel_rfl) (fun _ _ _ h => h) (Or.inl ⟨by rfl, ?_⟩) ?_ ?_
         rotate_left
         ·
          intro w'
          go_simp
          with_reducible rfl
         rotate_left
         ·
          simp only [Act.put, List.setIfInBounds_toArray, List.set_cons_zero, List.set_cons_succ, i64_w, i32_w]
          rfl
         refine done_ (by kernel_rfl) ?_
         go_wp2
         go_roundg k1
         case measure => omega
         case rel => exact ⟨i + 1, by first | rfl | (simp; done), HI1, ⟨by rw [HT4.out, iB_append]; exact HR69.out⟩, HB69⟩
        ·
         obtain rfl : gk = 0 := by omega
         obtain rfl : i = 8 := by omega
         have hge : decide (((8 : Nat) : Int) < 8) = false := by decide
         have ht8 : r.l.take 8 = r.l := rfl
         have hr0 := HRi.out
         rw [ht8] at hr0
         obtain ⟨A6, c6, rfl, hc6, hC6⟩ := Kd.R_reads hr0
         have cv := Kd.C_string (P := Tryd.prog) (src := 54) (dst := 9) (e := 5) Tryd.underlying54 Tryd.underlying5 Tryd.underlying9 (c := c6) hC6
         rw [str_iB] at cv
         generalize (iB (r.l.flatMap out4)).length = pl2 at *
         have HRS : Aside0 (mk (r.l.flatMap out4) = mk (withF l)) := ⟨by rw [HWF.out, HRE.out]⟩
         rw [HRS.out] at cv
         clear HRi hr0 hC6 ht8 HI
         go_wp2
         go_ret
         exact ⟨rfl, below_step HB0.out (below_step HBj.out HBi5.out)⟩
    ·
     have hge : decide (((k1 + 1 : Nat) : Int) - 1 ≥ 0) = true := decide_eq_true (by omega)
     have HLi : Aside0 ((iB (P ++ (be8 (8 * n)).take (8 - (k1 + 1)))).length ≤ 1000000000) := ⟨by
      rw [iB_length, List.length_append, List.length_take]
      have h1 := HPL.out
      have h2 : (be8 (8 * n)).length = 8 := rfl
      omega⟩
     clear HI
     go_wp2_with (first | ((with_reducible refine gate_builtin (b := .append) (xs := #[.tmp 31, .tmp 38]) rfl ?_); at_builtin; refine GR_app rfl (.tmp 31) (.tmp 38) rfl w2.heap.size u5 (iB (P ++ (be8 (8 * n)).take (8 - (k1 + 1)))) ((n : Int) * 8 / 2 ^ (8 * k1) % 256) wr.heap.size rfl rfl (GR_below HRi.out (below_alloc (Below.refl _ _) _)) (below_alloc HBi.out _).size (heap_alloc_new wr _) HLi.out ?_; intro v44 w44 hr9 hb9; have HR44 := sqA hr9; have HB44 : Aside0 (Below w2.heap.size w2 w44) := ⟨(below_alloc HBi.out _).trans hb9⟩; clear hr9 hb9))
     go_roundg k1
     case measure => omega
     case rel =>
      refine ⟨by first | rfl | (simp; done), ⟨by omega⟩, ⟨?_⟩, HB44⟩
      rw [be8_take _ k1 (by omega), ← List.append_assoc, iB_append]
      have : iB [by8 (8 * n) k1] = [(n : Int) * 8 / 2 ^ (8 * k1) % 256] := by
       show [((by8 (8 * n) k1).toNat : Int)] = _
       rw [by8_int]
      rw [this]
      exact HR44.out
  ·
   obtain ⟨k1, rfl⟩ : ∃ k1, gk = k1 + 1 := ⟨gk - 1, by omega⟩
   have hz : ((((N % 64 : Nat) : Int)) != 56) = true := by simp; omega
   have HNz := sqA hN
   have HI1 : Aside0 (z + 1 + k1 = (119 - l.length % 64) % 64) := ⟨by omega⟩
   have HLz : Aside0 ((iB l ++ [(128 : Int)] ++ List.replicate z 0).length ≤ 1000000000) := ⟨by rw [hlen]; omega⟩
   generalize N % 64 = r at *
   clear HI hN hlen hi
   go_wp2_with (first | ((with_reducible refine gate_builtin (b := .append) (xs := #[.tmp 20, .tmp 21]) rfl ?_); at_builtin; refine GR_app rfl (.tmp 20) (.tmp 21) rfl w2.heap.size (.slice Az N cz) (iB l ++ [(128 : Int)] ++ List.replicate z 0) 0 wr.heap.size rfl rfl (GR_below HRz.out (below_alloc (Below.refl _ _) _)) (below_alloc HBz.out _).size (heap_alloc_new wr _) HLz.out ?_; intro v10 w10 hr9 hb9; have HR10 := sqA hr9; have HB10 : Aside0 (Below w2.heap.size w2 w10) := ⟨(below_alloc HBz.out _).trans hb9⟩; clear hr9 hb9))
   go_roundg k1
   case measure => omega
   case rel => exact ⟨z + 1, HI1, ⟨by rw [List.replicate_succ', ← List.append_assoc]; exact HR10.out⟩, HB10⟩
end Go.Proofs.YtifpomknkjegeaaDoor.Sha
namespace Go.Proofs.YtifpomknkjegeaaDoor.Sha
open Go.RowKit Go.Proofs.YtifpomknkjegeaaDoor.PAll Go.Proofs.YtifpomknkjegeaaDoorW.PrintWords Go.Proofs.YtifpomknkjegeaaDoorW.PrintLast Go.Proofs.YtifpomknkjegeaaDoorW.PrintMore SG
set_option linter.unusedVariables false
set_option linter.unusedSimpArgs false
theorem blks_left (s : H8) (a b : List UInt8) (q : Nat) (h : 64 * q ≤ a.length) : blks s (a ++ b) q = blks s a q := by
 induction q with
 | zero => rfl
 | succ q ih =>
  rw [blks, blks, ih (by omega), List.drop_append_of_le_length (by omega), List.take_append_of_le_length (by rw [List.length_drop]; omega)]
theorem blks_right (s : H8) (a b : List UInt8) (q j : Nat) (h : a.length = 64 * q) : blks s (a ++ b) (q + j) = blks (blks s a q) b j := by
 induction j with
 | zero => exact blks_left s a b q (by omega)
 | succ j ih =>
  show blk (blks s (a ++ b) (q + j)) (((a ++ b).drop (64 * (q + j))).take 64) = blk (blks (blks s a q) b j) ((b.drop (64 * j)).take 64)
  rw [ih, show 64 * (q + j) = a.length + 64 * j by omega, List.drop_append]
  congr 2
  rw [List.drop_of_length_le (by omega), List.nil_append, Nat.add_sub_cancel_left]
theorem withF_shaF (l : List UInt8) : withF l = shaF l := by
 have hq : 64 * (l.length / 64) ≤ l.length := by omega
 have hw : (l.drop (64 * (l.length / 64))).length = l.length % 64 := by rw [List.length_drop]; omega
 have ht : (l.take (64 * (l.length / 64))).length = 64 * (l.length / 64) := by rw [List.length_take]; omega
 have e1 : padded l = l.take (64 * (l.length / 64)) ++ (l.drop (64 * (l.length / 64)) ++ padF (l.length % 64) l.length) := by
  rw [← List.append_assoc, List.take_append_drop]
  rfl
 have e2 : (padded l).length / 64 = l.length / 64 + (l.drop (64 * (l.length / 64)) ++ padF (l.length % 64) l.length).length / 64 := by
  rw [e1, List.length_append, ht]
  omega
 have e3 : blks F0 (l.take (64 * (l.length / 64))) (l.length / 64) = blks F0 l (l.length / 64) := by
  have := blks_left F0 (l.take (64 * (l.length / 64))) (l.drop (64 * (l.length / 64))) (l.length / 64) (by omega)
  rw [List.take_append_drop] at this
  exact this.symm
 have e4 : blks F0 (padded l) ((padded l).length / 64) = blks (blks F0 l (l.length / 64)) (l.drop (64 * (l.length / 64)) ++ padF (l.length % 64) l.length) ((l.drop (64 * (l.length / 64)) ++ padF (l.length % 64) l.length).length / 64) := by
  rw [e2, e1, blks_right _ _ _ _ _ ht, e3]
 unfold withF shaF sumF
 rw [e4, hw]
set_option maxHeartbeats 4000000 in
set_option maxRecDepth 100000 in
theorem rsum (l : List UInt8) (hl : l.length ≤ 1000000) (w : World) : Calls Tryd.prog 19 #[.string (mk l)] w fun e w' => e = .returned (.string (mk (shaF l))) ∧ Below w.heap.size w w' := by
 have HL := sqA hl
 clear hl
 go_enter Tryd.func19, Tryd.ntmps19
 go_wp2_with (first | ((with_reducible refine gate_callee (f := 40) rfl ?_); refine goesL_ (some 3) rfl rfl Tryd.func40 (by kernel_rfl) rfl #[] rfl sqm ?_; (with_reducible refine (table_walk _).mono ?_); rintro e w1 ⟨A, c, A2, c2, rfl, _, _, hH, hK, hb⟩; refine ⟨_, rfl, ?_⟩; have HH := sqA hH; have HK := sqA hK; have HB1 := sqA hb; clear hH hK hb) | ((with_reducible refine gate_callee (f := 39) rfl ?_); refine goesL_ (some 5) rfl rfl Tryd.func39 (by kernel_rfl) rfl #[.agg #[.slice A 8 c, .slice A2 64 c2], .string (mk l)] rfl sqm ?_; (with_reducible refine (with_walk l HL.out A c A2 c2 _ HH.out HK.out).mono ?_); rintro e w2 ⟨rfl, hb⟩; refine ⟨_, rfl, ?_⟩; rw [withF_shaF]; have HB2 := sqA (below_step HB1.out hb); clear hb))
 go_ret
 exact ⟨rfl, HB2.out⟩
end Go.Proofs.YtifpomknkjegeaaDoor.Sha
