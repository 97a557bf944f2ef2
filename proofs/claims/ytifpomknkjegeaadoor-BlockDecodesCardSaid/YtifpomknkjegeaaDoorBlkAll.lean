/- Contracts of functions that the law runs, for every input: BlkA, BlkB, BlkC, BlkD, BlkE, BlkF, BlkG, BlkH, BlkI, BlkJ, BlkK, BlkQ, LaidA; no condition. -/
import Derived.Test.YtifpomknkjegeaaDoorShaAll
import Derived.Test.YtifpomknkjegeaaDoorBFunC
import Derived.Test.YtifpomknkjegeaaDoorPAllx7
import Derived.Test.YtifpomknkjegeaaDoorPAllx12
import Derived.Test.YtifpomknkjegeaaDoorPAllx13
import Derived.Test.YtifpomknkjegeaaDoorPAllx10
import Derived.Deep.RegionLaw
import Derived.Deep.RegionHeld
import Derived.Deep.RegionHeld3
import Derived.Test.YtifpomknkjegeaaDoorBRow
import Derived.Test.YtifpomknkjegeaaDoorPAllx20
import Derived.Test.YtifpomknkjegeaaDoorPAllx16
import Derived.Test.YtifpomknkjegeaaDoorPAllx35
import Derived.Test.YtifpomknkjegeaaDoorPAllx25
import Derived.Test.YtifpomknkjegeaaDoorPAllx52
import Derived.Test.YtifpomknkjegeaaDoorPAllx2
import Derived.Test.YtifpomknkjegeaaDoorRows
import Derived.Test.YtifpomknkjegeaaDoorPlain
import Derived.ProofKit
import Derived.LaidMore
import Derived.OpenShut
import Derived.Stop.Joined
namespace Go.Proofs.YtifpomknkjegeaaDoor.Bk
open Go.RowKit Go.Proofs.YtifpomknkjegeaaDoor.PAll Go.Proofs.YtifpomknkjegeaaDoorW.PrintWords Go.Proofs.YtifpomknkjegeaaDoorW.PrintLast Go.Proofs.YtifpomknkjegeaaDoorW.PrintMore SG
set_option linter.unusedVariables false
set_option linter.unusedSimpArgs false
def cR (x : S53) : Array Value := #[.int .i64 x.f0, .int .i64 x.f1, .int .i64 x.f2.f0, .int .i64 x.f2.f1, .string x.f2.f2, .string x.f2.f3]
def sm (o r : S53) : Bool := o.f0 == r.f0 && o.f1 == r.f1
theorem rd53 {l : List S53} {i : Nat} (h : i < l.length) : rd_T53 l (i : Int) = l[i] := by
 unfold rd_T53
 rw [Int.toNat_natCast, List.getD_eq_getElem?_getD, List.getElem?_eq_getElem h, Option.getD_some]
theorem at53 {w : World} {A : Option Addr} {n : Nat} {l : List S53} (hC : Kd.C k53 w A n l) (hn : n = l.length) {i : Nat} (hi : i < l.length) : ∃ ad, A = some ad ∧ ∀ w', Below w.heap.size w w' → w'.cell? (ad.add (i * 6)) = some (.int .i64 l[i].f0) ∧ w'.cell? ⟨(ad.add (i * 6)).block, (ad.add (i * 6)).off + 1, none⟩ = some (.int .i64 l[i].f1) ∧ w'.cell? ⟨(ad.add (i * 6)).block, (ad.add (i * 6)).off + 2, none⟩ = some (.int .i64 l[i].f2.f0) ∧ w'.cell? ⟨(ad.add (i * 6)).block, (ad.add (i * 6)).off + 3, none⟩ = some (.int .i64 l[i].f2.f1) ∧ w'.cell? ⟨(ad.add (i * 6)).block, (ad.add (i * 6)).off + 4, none⟩ = some (.string l[i].f2.f2) ∧ w'.cell? ⟨(ad.add (i * 6)).block, (ad.add (i * 6)).off + 5, none⟩ = some (.string l[i].f2.f3) := by
 obtain ⟨ad, e, _⟩ := at_T53 hC (i : Int) (by omega) (by omega)
 refine ⟨ad, e, fun w' hb => ?_⟩
 obtain ⟨ad', e', x⟩ := at_T53 (Kd.C_below hC hb) (i : Int) (by omega) (by omega)
 rw [e] at e'
 injection e' with e'
 subst e'
 rw [rd53 hi, Int.toNat_natCast] at x
 exact x
set_option maxHeartbeats 8000000 in
set_option maxRecDepth 100000 in
theorem lit_walk (o r : S53) (g : Nat) (w : World) (hg : w.heap[g]? = some (.cells (cR r) 53 (0, 0))) :
  Calls Tryd.prog 49 #[.agg (cR o), .pointer (some ⟨g, 0, none⟩)] w fun e w' => e = .returned (.bool (sm o r)) ∧ Below w.heap.size w w' := by
 have HG := sqA hg
 clear hg
 unfold sm
 unfold cR
 by_cases h0 : o.f0 = r.f0
 ·
  have e0 : (o.f0 == r.f0) = true := by simpa using h0
  clear h0
  go_enter Tryd.func49, Tryd.ntmps49
  go_wp2_with (first | ((with_reducible refine gate_dst (N := 2) rfl ?_); refine sqo (N := 2) (cs := #[.int .i64 o.f0, .int .i64 o.f1, .int .i64 o.f2.f0, .int .i64 o.f2.f1, .string o.f2.f2, .string o.f2.f3]) (t := 53) ?_; intro g2 hg2 w2 hbox2 hb2; have x0 : w2.cell? ⟨g2, 0, none⟩ = some (.int .i64 o.f0) := (blk_cell hbox2 0).trans rfl; have x1 : w2.cell? ⟨g2, 1, none⟩ = some (.int .i64 o.f1) := (blk_cell hbox2 1).trans rfl; have hgr := blk_below HG.out hb2; have y0 : w2.cell? ⟨g, 0, none⟩ = some (.int .i64 r.f0) := (blk_cell hgr 0).trans rfl; have y1 : w2.cell? ⟨g, 1, none⟩ = some (.int .i64 r.f1) := (blk_cell hgr 1).trans rfl; have HB2 := sqA hb2; clear hg2 hbox2 hb2 hgr))
  go_ret
  exact ⟨by rw [e0]; rfl, HB2.out⟩
 ·
  have e0 : (o.f0 == r.f0) = false := by simpa using h0
  clear h0
  go_enter Tryd.func49, Tryd.ntmps49
  go_wp2_with (first | ((with_reducible refine gate_dst (N := 2) rfl ?_); refine sqo (N := 2) (cs := #[.int .i64 o.f0, .int .i64 o.f1, .int .i64 o.f2.f0, .int .i64 o.f2.f1, .string o.f2.f2, .string o.f2.f3]) (t := 53) ?_; intro g2 hg2 w2 hbox2 hb2; have x0 : w2.cell? ⟨g2, 0, none⟩ = some (.int .i64 o.f0) := (blk_cell hbox2 0).trans rfl; have x1 : w2.cell? ⟨g2, 1, none⟩ = some (.int .i64 o.f1) := (blk_cell hbox2 1).trans rfl; have hgr := blk_below HG.out hb2; have y0 : w2.cell? ⟨g, 0, none⟩ = some (.int .i64 r.f0) := (blk_cell hgr 0).trans rfl; have y1 : w2.cell? ⟨g, 1, none⟩ = some (.int .i64 r.f1) := (blk_cell hgr 1).trans rfl; have HB2 := sqA hb2; clear hg2 hbox2 hb2 hgr))
  go_ret
  exact ⟨by rw [e0]; rfl, HB2.out⟩
theorem w64q (n : Nat) (h : n ≤ 1000000) : wrap64 ((n : Int) + 1) = ((n + 1 : Nat) : Int) := by
 unfold wrap64
 omega
set_option maxHeartbeats 8000000 in
set_option maxRecDepth 100000 in
theorem index_walk (A : Option Addr) (n c : Nat) (l : List S53) (r : S53) (g : Nat) (w : World) (hn : n = l.length) (hC : Kd.C k53 w A n l) (hm : n ≤ 1000) (hg : w.heap[g]? = some (.cells (cR r) 53 (0, 0))) :
  Calls Tryd.prog 59 #[.slice A n c, .func (.func 49) #[] #[.pointer (some ⟨g, 0, none⟩)]] w fun e w' => ∃ x : Int, e = .returned (.int .i64 x) ∧ decide (0 ≤ x) = l.any (fun o => sm o r) ∧ Below w.heap.size w w' := by
 have HG := sqA hg
 have HC := sqA hC
 have HN := sqA hn
 clear hg hC hn
 go_enter Tryd.func59, Tryd.ntmps59
 go_wp2
 go_loopg [8] n (fun kq v8 w' => ∃ (i : Nat), v8 = .int .i64 (i : Int) ∧ Aside0 (i + kq = n) ∧ Aside0 ((l.take i).any (fun o => sm o r) = false) ∧ Aside0 (Below w.heap.size w w'))
 case atStart => exact ⟨0, rfl, ⟨by omega⟩, ⟨rfl⟩, ⟨Below.refl _ _⟩⟩
 case round =>
  obtain ⟨i, rfl, HI, HA, HBi⟩ := hrel
  have hi := HI.out
  by_cases hat : i < n
  ·
   obtain ⟨k1, rfl⟩ : ∃ k1, gk = k1 + 1 := ⟨gk - 1, by omega⟩
   have hlt : decide ((i : Int) < (n : Int)) = true := decide_eq_true (by omega)
   have hil : i < l.length := by rw [← HN.out]; exact hat
   obtain ⟨ad, e101, sof⟩ := at53 HC.out HN.out hil
   cases e101
   obtain ⟨x0, x1, x2, x3, x4, x5⟩ := sof _ HBi.out
   have HT : Aside0 (l.take (i + 1) = l.take i ++ [l[i]]) := ⟨by rw [List.take_add_one, List.getElem?_eq_getElem hil]; rfl⟩
   have HIN : Aside0 (l[i] ∈ l) := ⟨List.getElem_mem hil⟩
   generalize l[i] = o at *
   clear sof HI
   cases hs : sm o r with
   | false =>
    have HS := sqA hs
    clear hs
    go_wp2_with (first | (go_at_call 49; refine (lit_walk o r g _ (blk_below HG.out HBi.out)).mono ?_; rintro e w2 ⟨rfl, hb⟩; rw [HS.out]; have HB2 := sqA (below_step HBi.out hb); clear hb))
    go_roundg k1
    case measure => omega
    case rel => exact ⟨i + 1, by first | rfl | (simp; done), ⟨by omega⟩, ⟨by rw [HT.out, List.any_append, HA.out]; simp [HS.out]⟩, HB2⟩
   | true =>
    have HS := sqA hs
    clear hs
    go_wp2_with (first | (go_at_call 49; refine (lit_walk o r g _ (blk_below HG.out HBi.out)).mono ?_; rintro e w2 ⟨rfl, hb⟩; rw [HS.out]; have HB2 := sqA (below_step HBi.out hb); clear hb))
    go_ret
    refine ⟨_, rfl, ?_, HB2.out⟩
    rw [decide_eq_true (by omega)]
    exact (List.any_eq_true.2 ⟨o, HIN.out, HS.out⟩).symm
  ·
   obtain rfl : gk = 0 := by omega
   have hge : decide ((i : Int) < (n : Int)) = false := decide_eq_false (by omega)
   have HT : Aside0 (l.take i = l) := ⟨List.take_of_length_le (by have := HN.out; omega)⟩
   clear HI
   go_wp2
   go_ret
   refine ⟨_, rfl, ?_, HBi.out⟩
   rw [← HT.out, HA.out]
   rfl
set_option maxHeartbeats 8000000 in
set_option maxRecDepth 100000 in
theorem contains_walk (A : Option Addr) (n c : Nat) (l : List S53) (r : S53) (g : Nat) (w : World) (hn : n = l.length) (hC : Kd.C k53 w A n l) (hm : n ≤ 1000) (hg : w.heap[g]? = some (.cells (cR r) 53 (0, 0))) :
  Calls Tryd.prog 48 #[.slice A n c, .func (.func 49) #[] #[.pointer (some ⟨g, 0, none⟩)]] w fun e w' => e = .returned (.bool (l.any (fun o => sm o r))) ∧ Below w.heap.size w w' := by
 have HG := sqA hg
 have HC := sqA hC
 have HN := sqA hn
 clear hg hC hn
 go_enter Tryd.func48, Tryd.ntmps48
 go_wp2_with (first | ((with_reducible refine gate_callee (f := 59) rfl ?_); refine goesL_ (some 7) rfl rfl Tryd.func59 (by kernel_rfl) rfl #[.slice A n c, .func (.func 49) #[] #[.pointer (some ⟨g, 0, none⟩)]] rfl sqm ?_; (with_reducible refine (index_walk A n c l r g _ HN.out HC.out hm HG.out).mono ?_); rintro e w1 ⟨x, rfl, hx, hb⟩; refine ⟨_, rfl, ?_⟩; have HX := sqA hx; have HB1 := sqA hb; clear hx hb))
 go_ret
 refine ⟨?_, HB1.out⟩
 rw [← HX.out]
 rfl
end Go.Proofs.YtifpomknkjegeaaDoor.Bk
namespace Go.Proofs.YtifpomknkjegeaaDoor.Bk
open Go.RowKit Go.Proofs.YtifpomknkjegeaaDoor.PAll Go.Proofs.YtifpomknkjegeaaDoorW.PrintWords Go.Proofs.YtifpomknkjegeaaDoorW.PrintLast Go.Proofs.YtifpomknkjegeaaDoorW.PrintMore SG Go.Proofs.YtifpomknkjegeaaDoor.BFun
set_option linter.unusedVariables false
set_option linter.unusedSimpArgs false
def dup (l : List S53) : Prop := ∃ i, ∃ h : i < l.length, (l.take i).any (fun o => sm o l[i]) = true
def set6 (w : World) (g : Nat) (x : S53) : World := (((((w.setCell ⟨g, 0, none⟩ (.int .i64 x.f0)).setCell ⟨g, 1, none⟩ (.int .i64 x.f1)).setCell ⟨g, 2, none⟩ (.int .i64 x.f2.f0)).setCell ⟨g, 3, none⟩ (.int .i64 x.f2.f1)).setCell ⟨g, 4, none⟩ (.string x.f2.f2)).setCell ⟨g, 5, none⟩ (.string x.f2.f3)
theorem set6_blk {w : World} {g : Nat} {a b c d e f : Value} (h : w.heap[g]? = some (.cells #[a, b, c, d, e, f] 53 (0, 0))) (x : S53) : (set6 w g x).heap[g]? = some (.cells (cR x) 53 (0, 0)) := by
 simpa [set6, cR] using blk_set (blk_set (blk_set (blk_set (blk_set (blk_set h 0 (.int .i64 x.f0)) 1 (.int .i64 x.f1)) 2 (.int .i64 x.f2.f0)) 3 (.int .i64 x.f2.f1)) 4 (.string x.f2.f2)) 5 (.string x.f2.f3)
theorem set6_below {w w' : World} {g B : Nat} (h : Below B w w') (hg : B ≤ g) (x : S53) : Below B w (set6 w' g x) := by
 unfold set6
 exact Below.setCell (Below.setCell (Below.setCell (Below.setCell (Below.setCell (Below.setCell h hg _) hg _) hg _) hg _) hg _) hg _
theorem k53_take {w : World} {A : Option Addr} {n : Nat} {l : List S53} (h : Kd.C k53 w A n l) (hn : n = l.length) (i : Nat) (hi : i ≤ l.length) : Kd.C k53 w A i (l.take i) := by
 subst hn
 have := Kd.C_take h hi
 rw [List.length_take, Nat.min_eq_left hi] at this
 exact this
set_option maxHeartbeats 8000000 in
set_option maxRecDepth 100000 in
theorem twice_walk (A : Option Addr) (n c : Nat) (l : List S53) (w : World) (hn : n = l.length) (hC : Kd.C k53 w A n l) (hnc : n ≤ c) (hm : n ≤ 1000) :
  Calls Tryd.prog 29 #[.slice A n c] w fun e w' => ∃ b, e = .returned (.bool b) ∧ (b = true ↔ dup l) ∧ Below w.heap.size w w' := by
 have hmf : ∀ (fn : Fn) (first cap : Array Value) (w : World), (Instr.makeFunc fn first cap).run Tryd.prog w = .ok (.func fn first cap) w := fun _ _ _ _ => rfl
 have HC := sqA hC
 have HN := sqA hn
 clear hC hn
 go_enter Tryd.func29, Tryd.ntmps29
 go_wp2
 go_loopg [7] n (fun kq v7 w' => ∃ (i : Nat), v7 = .int .i64 (i : Int) ∧ Aside0 (i + kq = n) ∧ Aside0 (∀ j, j < i → ∀ h : j < l.length, (l.take j).any (fun o => sm o l[j]) = false) ∧ Aside0 (Below w.heap.size w w'))
 case atStart => exact ⟨0, rfl, ⟨by omega⟩, ⟨fun j h => absurd h (by omega)⟩, ⟨Below.refl _ _⟩⟩
 case round =>
  obtain ⟨i, rfl, HI, HA, HBi⟩ := hrel
  have hi := HI.out
  by_cases hat : i < n
  ·
   obtain ⟨k1, rfl⟩ : ∃ k1, gk = k1 + 1 := ⟨gk - 1, by omega⟩
   have hlt : decide ((i : Int) < (n : Int)) = true := decide_eq_true (by omega)
   have hil : i < l.length := by rw [← HN.out]; exact hat
   obtain ⟨ad, e101, sof⟩ := at53 HC.out HN.out hil
   cases e101
   obtain ⟨x0, x1, x2, x3, x4, x5⟩ := sof _ HBi.out
   have hic : (i : Int) ≤ (c : Int) := by omega
   obtain ⟨b, hb⟩ : ∃ b, b = (l.take i).any (fun o => sm o l[i]) := ⟨_, rfl⟩
   have HBB : Aside0 (b = (l.take i).any (fun o => sm o l[i])) := ⟨hb⟩
   have HCT := sqA (k53_take HC.out HN.out i (Nat.le_of_lt hil))
   have HLT : Aside0 (i = (l.take i).length) := ⟨by rw [List.length_take, Nat.min_eq_left (Nat.le_of_lt hil)]⟩
   obtain ⟨r, hr⟩ : ∃ r, r = l[i] := ⟨_, rfl⟩
   rw [← hr] at x0 x1 x2 x3 x4 x5
   have HRE := sqA hr
   clear sof HI hb hr
   have WALK : Aside0 ((l.take i).any (fun o => sm o r) = b) := ⟨by rw [HBB.out, HRE.out]⟩
   cases b with
   | false =>
    go_wp2_with (first | ((with_reducible refine gate_dst (N := 4) rfl ?_); refine sqo (N := 4) (cs := #[.int .i64 0, .int .i64 0, .int .i64 0, .int .i64 0, .string ⟨#[]⟩, .string ⟨#[]⟩]) (t := 53) ?_; intro g hg w3 hbox hb; have HG3 := sqA hbox; have HGE := sqA (show wr.heap.size ≤ g by rw [hg]; exact Nat.le_refl _); have HB3 := sqA hb; have b0 : w3.cell? ⟨g, 0, none⟩ = some (.int .i64 0) := (blk_cell hbox 0).trans rfl; have bz0 : w3.frozen? ⟨g, 0, none⟩ = false := blk_frozen hbox 0; have b1 : w3.cell? ⟨g, 1, none⟩ = some (.int .i64 0) := (blk_cell hbox 1).trans rfl; have bz1 : w3.frozen? ⟨g, 1, none⟩ = false := blk_frozen hbox 1; have b2 : w3.cell? ⟨g, 2, none⟩ = some (.int .i64 0) := (blk_cell hbox 2).trans rfl; have bz2 : w3.frozen? ⟨g, 2, none⟩ = false := blk_frozen hbox 2; have b3 : w3.cell? ⟨g, 3, none⟩ = some (.int .i64 0) := (blk_cell hbox 3).trans rfl; have bz3 : w3.frozen? ⟨g, 3, none⟩ = false := blk_frozen hbox 3; have b4 : w3.cell? ⟨g, 4, none⟩ = some (.string ⟨#[]⟩) := (blk_cell hbox 4).trans rfl; have bz4 : w3.frozen? ⟨g, 4, none⟩ = false := blk_frozen hbox 4; have b5 : w3.cell? ⟨g, 5, none⟩ = some (.string ⟨#[]⟩) := (blk_cell hbox 5).trans rfl; have bz5 : w3.frozen? ⟨g, 5, none⟩ = false := blk_frozen hbox 5; clear hg hbox hb) | ((with_reducible refine gate_store (t := 53) (p := 4) (v := .tmp 11) rfl ?_); refine sqp (w1 := (set6 w3 g r)) ?_; intro w4 hw4; have hg4 : w4.heap[g]? = some (.cells (cR r) 53 (0, 0)) := (by rw [hw4]; exact set6_blk HG3.out r); have HG4 := sqA hg4; have HB4 : Aside0 (Below w.heap.size w w4) := ⟨(by rw [hw4]; exact below_step HBi.out (set6_below HB3.out HGE.out r))⟩; clear hw4 hg4) | ((with_reducible refine gate_callee (f := 48) rfl ?_); refine goesL_ (some 16) rfl rfl Tryd.func48 (by kernel_rfl) rfl #[.slice (some ad) i c, .func (.func 49) #[] #[.pointer (some ⟨g, 0, none⟩)]] rfl sqm ?_; (with_reducible refine (contains_walk (some ad) i c (l.take i) r g _ HLT.out (Kd.C_below HCT.out HB4.out) (by omega) HG4.out).mono ?_); rintro e w5 ⟨rfl, hb⟩; refine ⟨_, rfl, ?_⟩; rw [WALK.out]; have HB5 := sqA (below_step HB4.out hb); clear hb))
    go_roundg k1
    case measure => omega
    case rel =>
     refine ⟨i + 1, by first | rfl | (simp; done), ⟨by omega⟩, ⟨fun j hj h => ?_⟩, HB5⟩
     by_cases hji : j = i
     ·
      subst hji
      exact HBB.out.symm
     ·
      exact HA.out j (by omega) h
   | true =>
    go_wp2_with (first | ((with_reducible refine gate_dst (N := 4) rfl ?_); refine sqo (N := 4) (cs := #[.int .i64 0, .int .i64 0, .int .i64 0, .int .i64 0, .string ⟨#[]⟩, .string ⟨#[]⟩]) (t := 53) ?_; intro g hg w3 hbox hb; have HG3 := sqA hbox; have HGE := sqA (show wr.heap.size ≤ g by rw [hg]; exact Nat.le_refl _); have HB3 := sqA hb; have b0 : w3.cell? ⟨g, 0, none⟩ = some (.int .i64 0) := (blk_cell hbox 0).trans rfl; have bz0 : w3.frozen? ⟨g, 0, none⟩ = false := blk_frozen hbox 0; have b1 : w3.cell? ⟨g, 1, none⟩ = some (.int .i64 0) := (blk_cell hbox 1).trans rfl; have bz1 : w3.frozen? ⟨g, 1, none⟩ = false := blk_frozen hbox 1; have b2 : w3.cell? ⟨g, 2, none⟩ = some (.int .i64 0) := (blk_cell hbox 2).trans rfl; have bz2 : w3.frozen? ⟨g, 2, none⟩ = false := blk_frozen hbox 2; have b3 : w3.cell? ⟨g, 3, none⟩ = some (.int .i64 0) := (blk_cell hbox 3).trans rfl; have bz3 : w3.frozen? ⟨g, 3, none⟩ = false := blk_frozen hbox 3; have b4 : w3.cell? ⟨g, 4, none⟩ = some (.string ⟨#[]⟩) := (blk_cell hbox 4).trans rfl; have bz4 : w3.frozen? ⟨g, 4, none⟩ = false := blk_frozen hbox 4; have b5 : w3.cell? ⟨g, 5, none⟩ = some (.string ⟨#[]⟩) := (blk_cell hbox 5).trans rfl; have bz5 : w3.frozen? ⟨g, 5, none⟩ = false := blk_frozen hbox 5; clear hg hbox hb) | ((with_reducible refine gate_store (t := 53) (p := 4) (v := .tmp 11) rfl ?_); refine sqp (w1 := (set6 w3 g r)) ?_; intro w4 hw4; have hg4 : w4.heap[g]? = some (.cells (cR r) 53 (0, 0)) := (by rw [hw4]; exact set6_blk HG3.out r); have HG4 := sqA hg4; have HB4 : Aside0 (Below w.heap.size w w4) := ⟨(by rw [hw4]; exact below_step HBi.out (set6_below HB3.out HGE.out r))⟩; clear hw4 hg4) | ((with_reducible refine gate_callee (f := 48) rfl ?_); refine goesL_ (some 16) rfl rfl Tryd.func48 (by kernel_rfl) rfl #[.slice (some ad) i c, .func (.func 49) #[] #[.pointer (some ⟨g, 0, none⟩)]] rfl sqm ?_; (with_reducible refine (contains_walk (some ad) i c (l.take i) r g _ HLT.out (Kd.C_below HCT.out HB4.out) (by omega) HG4.out).mono ?_); rintro e w5 ⟨rfl, hb⟩; refine ⟨_, rfl, ?_⟩; rw [WALK.out]; have HB5 := sqA (below_step HB4.out hb); clear hb))
    go_ret
    exact ⟨true, rfl, ⟨fun _ => ⟨i, by rw [← HN.out]; exact hat, HBB.out.symm⟩, fun _ => rfl⟩, HB5.out⟩
  ·
   obtain rfl : gk = 0 := by omega
   have hge : decide ((i : Int) < (n : Int)) = false := decide_eq_false (by omega)
   have HIN : Aside0 (l.length ≤ i) := ⟨by have := HN.out; omega⟩
   clear HI
   go_wp2
   go_ret
   refine ⟨false, rfl, ⟨(fun h => by cases h), ?_⟩, HBi.out⟩
   rintro ⟨j, hj, h⟩
   rw [HA.out j (Nat.lt_of_lt_of_le hj HIN.out) hj] at h
   cases h
def okQ (r : S53) : Prop := (0 ≤ r.f0 ∧ r.f0 ≤ 15) ∧ (0 ≤ r.f1 ∧ r.f1 < 2147483648) ∧ okC r.f2.f0 r.f2.f1 r.f2.f2.size r.f2.f3.size
open Classical in
noncomputable def eQ (r : S53) : Int := if okQ r then 0 else 1
theorem eQ_pos {r : S53} (h : okQ r) : eQ r = 0 := if_pos h
theorem eQ_neg {r : S53} (h : ¬ okQ r) : eQ r = 1 := if_neg h
theorem chkQ (r : S53) (h : r.f2.f2.size + r.f2.f3.size ≤ 9223372036854775807) : pool_Check.f r.f0 r.f1 r.f2.f0 r.f2.f1 r.f2.f2 r.f2.f3 = some (eQ r) := by
 obtain ⟨a, b, k, e, n, x⟩ := r
 obtain ⟨n, rfl⟩ := ex_mk n
 obtain ⟨x, rfl⟩ := ex_mk x
 show pool_Check.f a b k e (mk n) (mk x) = _
 have h2 : n.length + x.length ≤ 9223372036854775807 := by simpa only [mk_size] using h
 unfold pool_Check.f eQ okQ
 rw [chkC k e n x h2]
 simp only [mk_size, Option.bind_some]
 by_cases h1 : a < 0
 ·
  rw [if_pos h1, if_neg (by omega)]
 ·
  rw [if_neg h1]
  by_cases h2 : a > 15
  ·
   rw [if_pos h2, if_neg (by omega)]
  ·
   rw [if_neg h2]
   by_cases h3 : b < 0
   ·
    rw [if_pos h3, if_neg (by omega)]
   ·
    rw [if_neg h3]
    by_cases h4 : b ≥ 2147483648
    ·
     rw [if_pos h4, if_neg (by omega)]
    ·
     rw [if_neg h4]
     by_cases h5 : okC k e n.length x.length
     ·
      rw [if_pos h5, if_pos ⟨⟨by omega, by omega⟩, ⟨by omega, by omega⟩, h5⟩]
     ·
      rw [if_neg h5, if_neg (fun h => h5 h.2.2)]
theorem checkQ (r : S53) (h : r.f2.f2.size + r.f2.f3.size ≤ 9223372036854775807) (w : World) : Calls Tryd.prog 30 #[.agg (cR r)] w fun e w' => e = .returned (.int .i64 (eQ r)) ∧ Below w.heap.size w w' :=
 pool_Check.calls _ _ _ _ _ _ _ w (chkQ r h)
def okB (h : Int) (p : ByteArray) (l : List S53) : Prop := (0 ≤ h ∧ h ≤ 64) ∧ p.size = 32 ∧ l.length ≤ 8 ∧ ¬ dup l ∧ ∀ r ∈ l, okQ r
open Classical in
noncomputable def eB (h : Int) (p : ByteArray) (l : List S53) : Int := if okB h p l then 0 else 1
theorem eB_pos {h : Int} {p : ByteArray} {l : List S53} (hk : okB h p l) : eB h p l = 0 := if_pos hk
theorem eB_neg {h : Int} {p : ByteArray} {l : List S53} (hk : ¬ okB h p l) : eB h p l = 1 := if_neg hk
def shortQ (l : List S53) : Prop := ∀ r ∈ l, r.f2.f2.size + r.f2.f3.size ≤ 1000000
def cB (h : Int) (p : ByteArray) (A : Option Addr) (n c : Nat) : Array Value := #[.int .i64 h, .string p, .slice A n c]
end Go.Proofs.YtifpomknkjegeaaDoor.Bk
namespace Go.Proofs.YtifpomknkjegeaaDoor.Bk
open Go.RowKit Go.Proofs.YtifpomknkjegeaaDoor.PAll Go.Proofs.YtifpomknkjegeaaDoorW.PrintWords Go.Proofs.YtifpomknkjegeaaDoorW.PrintLast Go.Proofs.YtifpomknkjegeaaDoorW.PrintMore SG Go.Proofs.YtifpomknkjegeaaDoor.BFun
set_option linter.unusedVariables false
set_option linter.unusedSimpArgs false
set_option maxHeartbeats 16000000 in
set_option maxRecDepth 100000 in
theorem check_walk (h : Int) (p : ByteArray) (A : Option Addr) (n c : Nat) (l : List S53) (w : World) (hn : n = l.length) (hC : Kd.C k53 w A n l) (hnc : n ≤ c) (hm : n ≤ 1000) (hs : shortQ l) :
  Calls Tryd.prog 12 #[.agg (cB h p A n c)] w fun e w' => e = .returned (.int .i64 (eB h p l)) ∧ Below w.heap.size w w' := by
 have HC := sqA hC
 have HN := sqA hn
 have HS := sqA hs
 clear hC hn hs
 unfold cB
 by_cases h1 : h < 0
 ·
  have t1 : decide (h < 0) = true := decide_eq_true h1
  have HF : Aside0 (¬ okB h p l) := ⟨fun hk => by have := hk.1.1; omega⟩
  rw [eB_neg HF.out]
  go_enter Tryd.func12, Tryd.ntmps12
  go_wp2_with (first | ((with_reducible refine gate_dst (N := 1) rfl ?_); refine sqo (N := 1) (cs := #[.int .i64 h, .string p, .slice A n c]) (t := 24) ?_; intro gb hgb wb hboxb hbb; have HGB := sqA hboxb; have HBB := sqA hbb; obtain ⟨y0, yz0, y1, yz1, y2, yz2⟩ := sq3 hboxb; clear hgb hboxb hbb))
  go_ret
  exact ⟨rfl, HBB.out⟩
 have t1 : decide (h < 0) = false := decide_eq_false h1
 by_cases h2 : 64 < h
 ·
  have t2 : decide (64 < h) = true := decide_eq_true h2
  have HF : Aside0 (¬ okB h p l) := ⟨fun hk => by have := hk.1.2; omega⟩
  rw [eB_neg HF.out]
  go_enter Tryd.func12, Tryd.ntmps12
  go_wp2_with (first | ((with_reducible refine gate_dst (N := 1) rfl ?_); refine sqo (N := 1) (cs := #[.int .i64 h, .string p, .slice A n c]) (t := 24) ?_; intro gb hgb wb hboxb hbb; have HGB := sqA hboxb; have HBB := sqA hbb; obtain ⟨y0, yz0, y1, yz1, y2, yz2⟩ := sq3 hboxb; clear hgb hboxb hbb))
  go_ret
  exact ⟨rfl, HBB.out⟩
 have t2 : decide (64 < h) = false := decide_eq_false h2
 by_cases h3 : ¬ p.size = 32
 ·
  have t3 : ((p.size : Int) != 32) = true := by simp; omega
  have HF : Aside0 (¬ okB h p l) := ⟨fun hk => h3 hk.2.1⟩
  rw [eB_neg HF.out]
  clear h3
  go_enter Tryd.func12, Tryd.ntmps12
  go_wp2_with (first | ((with_reducible refine gate_dst (N := 1) rfl ?_); refine sqo (N := 1) (cs := #[.int .i64 h, .string p, .slice A n c]) (t := 24) ?_; intro gb hgb wb hboxb hbb; have HGB := sqA hboxb; have HBB := sqA hbb; obtain ⟨y0, yz0, y1, yz1, y2, yz2⟩ := sq3 hboxb; clear hgb hboxb hbb))
  go_ret
  exact ⟨rfl, HBB.out⟩
 have h3 : p.size = 32 := Classical.not_not.1 h3
 have t3 : ((p.size : Int) != 32) = false := by simp; omega
 have HP3 := sqA h3
 clear h3
 by_cases h4 : 8 < n
 ·
  have t4 : decide (8 < (n : Int)) = true := decide_eq_true (by omega)
  have HF : Aside0 (¬ okB h p l) := ⟨fun hk => by have := hk.2.2.1; have := HN.out; omega⟩
  rw [eB_neg HF.out]
  go_enter Tryd.func12, Tryd.ntmps12
  go_wp2_with (first | ((with_reducible refine gate_dst (N := 1) rfl ?_); refine sqo (N := 1) (cs := #[.int .i64 h, .string p, .slice A n c]) (t := 24) ?_; intro gb hgb wb hboxb hbb; have HGB := sqA hboxb; have HBB := sqA hbb; obtain ⟨y0, yz0, y1, yz1, y2, yz2⟩ := sq3 hboxb; clear hgb hboxb hbb))
  go_ret
  exact ⟨rfl, HBB.out⟩
 have t4 : decide (8 < (n : Int)) = false := decide_eq_false (by omega)
 by_cases h5 : dup l
 ·
  have HF : Aside0 (¬ okB h p l) := ⟨fun hk => hk.2.2.2.1 h5⟩
  rw [eB_neg HF.out]
  have HD := sqA h5
  clear h5
  go_enter Tryd.func12, Tryd.ntmps12
  go_wp2_with (first | ((with_reducible refine gate_dst (N := 1) rfl ?_); refine sqo (N := 1) (cs := #[.int .i64 h, .string p, .slice A n c]) (t := 24) ?_; intro gb hgb wb hboxb hbb; have HGB := sqA hboxb; have HBB := sqA hbb; obtain ⟨y0, yz0, y1, yz1, y2, yz2⟩ := sq3 hboxb; clear hgb hboxb hbb) | ((refine (twice_walk A n c l _ HN.out (Kd.C_below HC.out HBB.out) hnc (by omega)).mono ?_); rintro e wt ⟨bt, rfl, hbt, hb⟩; have HBT := sqA hbt; have HBW := sqA (below_step HBB.out hb); have hgb2 := blk_below HGB.out hb; have zz2 : wt.cell? ⟨gb, 2, none⟩ = some (.slice A n c) := (blk_cell hgb2 2).trans rfl; clear hbt hb hgb2; obtain rfl := HBT.out.2 HD.out))
  go_ret
  exact ⟨rfl, HBW.out⟩
 have HD := sqA h5
 clear h5
 go_enter Tryd.func12, Tryd.ntmps12
 go_wp2_with (first | ((with_reducible refine gate_dst (N := 1) rfl ?_); refine sqo (N := 1) (cs := #[.int .i64 h, .string p, .slice A n c]) (t := 24) ?_; intro gb hgb wb hboxb hbb; have HGB := sqA hboxb; have HBB := sqA hbb; obtain ⟨y0, yz0, y1, yz1, y2, yz2⟩ := sq3 hboxb; clear hgb hboxb hbb) | ((refine (twice_walk A n c l _ HN.out (Kd.C_below HC.out HBB.out) hnc (by omega)).mono ?_); rintro e wt ⟨bt, rfl, hbt, hb⟩; have HBT := sqA hbt; have HBW := sqA (below_step HBB.out hb); have hgb2 := blk_below HGB.out hb; have zz2 : wt.cell? ⟨gb, 2, none⟩ = some (.slice A n c) := (blk_cell hgb2 2).trans rfl; clear hbt hb hgb2; obtain rfl : bt = false := Bool.eq_false_iff.2 (fun h => HD.out (HBT.out.1 h))))
 clear zz2
 go_loopg [33] n (fun kq v33 w' => ∃ (i : Nat), v33 = .int .i64 (i : Int) ∧ Aside0 (i + kq = n) ∧ Aside0 (∀ r ∈ l.take i, okQ r) ∧ Aside0 (Below w.heap.size w w'))
 case atStart => exact ⟨0, rfl, ⟨by omega⟩, ⟨fun r hr => by simp at hr⟩, HBW⟩
 case round =>
  obtain ⟨i, rfl, HI, HA, HBi⟩ := hrel
  have hi := HI.out
  by_cases hat : i < n
  ·
   obtain ⟨k1, rfl⟩ : ∃ k1, gk = k1 + 1 := ⟨gk - 1, by omega⟩
   have hlt : decide ((i : Int) < (n : Int)) = true := decide_eq_true (by omega)
   have hil : i < l.length := by rw [← HN.out]; exact hat
   obtain ⟨ad, e101, sof⟩ := at53 HC.out HN.out hil
   cases e101
   obtain ⟨x0, x1, x2, x3, x4, x5⟩ := sof _ HBi.out
   have HT : Aside0 (l.take (i + 1) = l.take i ++ [l[i]]) := ⟨by rw [List.take_add_one, List.getElem?_eq_getElem hil]; rfl⟩
   have HIN : Aside0 (l[i] ∈ l) := ⟨List.getElem_mem hil⟩
   have HSQ : Aside0 (l[i].f2.f2.size + l[i].f2.f3.size ≤ 9223372036854775807) := ⟨by have := HS.out l[i] (List.getElem_mem hil); omega⟩
   generalize l[i] = r at *
   clear sof HI
   by_cases hq : okQ r
   ·
    have HQ := sqA hq
    clear hq
    go_wp2_with (first | ((with_reducible refine gate_dst (N := 4) rfl ?_); refine sqo (N := 4) (cs := #[.int .i64 0, .int .i64 0, .int .i64 0, .int .i64 0, .string ⟨#[]⟩, .string ⟨#[]⟩]) (t := 53) ?_; intro g hg w3 hbox hb; have HG3 := sqA hbox; have HGE := sqA (show wr.heap.size ≤ g by rw [hg]; exact Nat.le_refl _); have HB3 := sqA hb; have b0 : w3.cell? ⟨g, 0, none⟩ = some (.int .i64 0) := (blk_cell hbox 0).trans rfl; have bz0 : w3.frozen? ⟨g, 0, none⟩ = false := blk_frozen hbox 0; have b1 : w3.cell? ⟨g, 1, none⟩ = some (.int .i64 0) := (blk_cell hbox 1).trans rfl; have bz1 : w3.frozen? ⟨g, 1, none⟩ = false := blk_frozen hbox 1; have b2 : w3.cell? ⟨g, 2, none⟩ = some (.int .i64 0) := (blk_cell hbox 2).trans rfl; have bz2 : w3.frozen? ⟨g, 2, none⟩ = false := blk_frozen hbox 2; have b3 : w3.cell? ⟨g, 3, none⟩ = some (.int .i64 0) := (blk_cell hbox 3).trans rfl; have bz3 : w3.frozen? ⟨g, 3, none⟩ = false := blk_frozen hbox 3; have b4 : w3.cell? ⟨g, 4, none⟩ = some (.string ⟨#[]⟩) := (blk_cell hbox 4).trans rfl; have bz4 : w3.frozen? ⟨g, 4, none⟩ = false := blk_frozen hbox 4; have b5 : w3.cell? ⟨g, 5, none⟩ = some (.string ⟨#[]⟩) := (blk_cell hbox 5).trans rfl; have bz5 : w3.frozen? ⟨g, 5, none⟩ = false := blk_frozen hbox 5; clear hg hbox hb) | ((with_reducible refine gate_store (t := 53) (p := 4) (v := .tmp 36) rfl ?_); refine sqp (w1 := (set6 w3 g r)) ?_; intro w4 hw4; have hg4 : w4.heap[g]? = some (.cells (cR r) 53 (0, 0)) := (by rw [hw4]; exact set6_blk HG3.out r); have HB4 : Aside0 (Below w.heap.size w w4) := ⟨(by rw [hw4]; exact below_step HBi.out (set6_below HB3.out HGE.out r))⟩; have z0 : w4.cell? ⟨g, 0, none⟩ = some (.int .i64 r.f0) := (blk_cell hg4 0).trans rfl; have zz0 : w4.frozen? ⟨g, 0, none⟩ = false := blk_frozen hg4 0; have z1 : w4.cell? ⟨g, 1, none⟩ = some (.int .i64 r.f1) := (blk_cell hg4 1).trans rfl; have zz1 : w4.frozen? ⟨g, 1, none⟩ = false := blk_frozen hg4 1; have z2 : w4.cell? ⟨g, 2, none⟩ = some (.int .i64 r.f2.f0) := (blk_cell hg4 2).trans rfl; have zz2 : w4.frozen? ⟨g, 2, none⟩ = false := blk_frozen hg4 2; have z3 : w4.cell? ⟨g, 3, none⟩ = some (.int .i64 r.f2.f1) := (blk_cell hg4 3).trans rfl; have zz3 : w4.frozen? ⟨g, 3, none⟩ = false := blk_frozen hg4 3; have z4 : w4.cell? ⟨g, 4, none⟩ = some (.string r.f2.f2) := (blk_cell hg4 4).trans rfl; have zz4 : w4.frozen? ⟨g, 4, none⟩ = false := blk_frozen hg4 4; have z5 : w4.cell? ⟨g, 5, none⟩ = some (.string r.f2.f3) := (blk_cell hg4 5).trans rfl; have zz5 : w4.frozen? ⟨g, 5, none⟩ = false := blk_frozen hg4 5; clear hw4 hg4) | ((with_reducible refine gate_callee (f := 30) rfl ?_); refine goesL_ (some 38) rfl rfl Tryd.func30 (by kernel_rfl) rfl #[.agg (cR r)] rfl sqm ?_; (with_reducible refine (checkQ r HSQ.out _).mono ?_); rintro e w5 ⟨rfl, hb⟩; refine ⟨_, rfl, ?_⟩; rw [eQ_pos HQ.out]; have HB5 := sqA (below_step HB4.out hb); clear hb))
    go_roundg k1
    case measure => omega
    case rel =>
     refine ⟨i + 1, by first | rfl | (simp; done), ⟨by omega⟩, ⟨fun x hx => ?_⟩, HB5⟩
     rw [HT.out, List.mem_append, List.mem_singleton] at hx
     rcases hx with hx | rfl
     ·
      exact HA.out x hx
     ·
      exact HQ.out
   ·
    have HQ := sqA hq
    clear hq
    have HF : Aside0 (¬ okB h p l) := ⟨fun hk => HQ.out (hk.2.2.2.2 r HIN.out)⟩
    go_wp2_with (first | ((with_reducible refine gate_dst (N := 4) rfl ?_); refine sqo (N := 4) (cs := #[.int .i64 0, .int .i64 0, .int .i64 0, .int .i64 0, .string ⟨#[]⟩, .string ⟨#[]⟩]) (t := 53) ?_; intro g hg w3 hbox hb; have HG3 := sqA hbox; have HGE := sqA (show wr.heap.size ≤ g by rw [hg]; exact Nat.le_refl _); have HB3 := sqA hb; have b0 : w3.cell? ⟨g, 0, none⟩ = some (.int .i64 0) := (blk_cell hbox 0).trans rfl; have bz0 : w3.frozen? ⟨g, 0, none⟩ = false := blk_frozen hbox 0; have b1 : w3.cell? ⟨g, 1, none⟩ = some (.int .i64 0) := (blk_cell hbox 1).trans rfl; have bz1 : w3.frozen? ⟨g, 1, none⟩ = false := blk_frozen hbox 1; have b2 : w3.cell? ⟨g, 2, none⟩ = some (.int .i64 0) := (blk_cell hbox 2).trans rfl; have bz2 : w3.frozen? ⟨g, 2, none⟩ = false := blk_frozen hbox 2; have b3 : w3.cell? ⟨g, 3, none⟩ = some (.int .i64 0) := (blk_cell hbox 3).trans rfl; have bz3 : w3.frozen? ⟨g, 3, none⟩ = false := blk_frozen hbox 3; have b4 : w3.cell? ⟨g, 4, none⟩ = some (.string ⟨#[]⟩) := (blk_cell hbox 4).trans rfl; have bz4 : w3.frozen? ⟨g, 4, none⟩ = false := blk_frozen hbox 4; have b5 : w3.cell? ⟨g, 5, none⟩ = some (.string ⟨#[]⟩) := (blk_cell hbox 5).trans rfl; have bz5 : w3.frozen? ⟨g, 5, none⟩ = false := blk_frozen hbox 5; clear hg hbox hb) | ((with_reducible refine gate_store (t := 53) (p := 4) (v := .tmp 36) rfl ?_); refine sqp (w1 := (set6 w3 g r)) ?_; intro w4 hw4; have hg4 : w4.heap[g]? = some (.cells (cR r) 53 (0, 0)) := (by rw [hw4]; exact set6_blk HG3.out r); have HB4 : Aside0 (Below w.heap.size w w4) := ⟨(by rw [hw4]; exact below_step HBi.out (set6_below HB3.out HGE.out r))⟩; have z0 : w4.cell? ⟨g, 0, none⟩ = some (.int .i64 r.f0) := (blk_cell hg4 0).trans rfl; have zz0 : w4.frozen? ⟨g, 0, none⟩ = false := blk_frozen hg4 0; have z1 : w4.cell? ⟨g, 1, none⟩ = some (.int .i64 r.f1) := (blk_cell hg4 1).trans rfl; have zz1 : w4.frozen? ⟨g, 1, none⟩ = false := blk_frozen hg4 1; have z2 : w4.cell? ⟨g, 2, none⟩ = some (.int .i64 r.f2.f0) := (blk_cell hg4 2).trans rfl; have zz2 : w4.frozen? ⟨g, 2, none⟩ = false := blk_frozen hg4 2; have z3 : w4.cell? ⟨g, 3, none⟩ = some (.int .i64 r.f2.f1) := (blk_cell hg4 3).trans rfl; have zz3 : w4.frozen? ⟨g, 3, none⟩ = false := blk_frozen hg4 3; have z4 : w4.cell? ⟨g, 4, none⟩ = some (.string r.f2.f2) := (blk_cell hg4 4).trans rfl; have zz4 : w4.frozen? ⟨g, 4, none⟩ = false := blk_frozen hg4 4; have z5 : w4.cell? ⟨g, 5, none⟩ = some (.string r.f2.f3) := (blk_cell hg4 5).trans rfl; have zz5 : w4.frozen? ⟨g, 5, none⟩ = false := blk_frozen hg4 5; clear hw4 hg4) | ((with_reducible refine gate_callee (f := 30) rfl ?_); refine goesL_ (some 38) rfl rfl Tryd.func30 (by kernel_rfl) rfl #[.agg (cR r)] rfl sqm ?_; (with_reducible refine (checkQ r HSQ.out _).mono ?_); rintro e w5 ⟨rfl, hb⟩; refine ⟨_, rfl, ?_⟩; rw [eQ_neg HQ.out]; have HB5 := sqA (below_step HB4.out hb); clear hb))
    go_ret
    exact ⟨by rw [eB_neg HF.out]; rfl, HB5.out⟩
  ·
   obtain rfl : gk = 0 := by omega
   have hge : decide ((i : Int) < (n : Int)) = false := decide_eq_false (by omega)
   have HT : Aside0 (l.take i = l) := ⟨List.take_of_length_le (by have := HN.out; omega)⟩
   have HOK : Aside0 (okB h p l) := ⟨⟨⟨by omega, by omega⟩, HP3.out, by have := HN.out; omega, HD.out, by rw [← HT.out]; exact HA.out⟩⟩
   clear HI
   go_wp2
   go_ret
   exact ⟨by rw [eB_pos HOK.out]; rfl, HBi.out⟩
end Go.Proofs.YtifpomknkjegeaaDoor.Bk
namespace Go.Proofs.YtifpomknkjegeaaDoor.Bk
open Go.RowKit Go.Proofs.YtifpomknkjegeaaDoor.PAll Go.Proofs.YtifpomknkjegeaaDoorW.PrintWords Go.Proofs.YtifpomknkjegeaaDoorW.PrintLast Go.Proofs.YtifpomknkjegeaaDoorW.PrintMore SG Go.Proofs.YtifpomknkjegeaaDoor.BFun Go.Proofs.YtifpomknkjegeaaDoor.Hlp
set_option linter.unusedVariables false
set_option linter.unusedSimpArgs false
theorem toList_len (y : ByteArray) : y.toList.length = y.size := by rw [toList_eq]; rfl
theorem mk_of_toList (y : ByteArray) : mk y.toList = y := by rw [toList_eq, mk_of]
def cmdB (r : S53) : List UInt8 := texts [[u8 r.f2.f0], [u8 r.f2.f1], r.f2.f2.toList, r.f2.f3.toList]
def parts (r : S53) : List (List UInt8) := [[u8 r.f0], SG.four r.f1.toNat, cmdB r]
def encL (h : Int) (p : ByteArray) (l : List S53) : List (List UInt8) := [u8 h] :: p.toList :: l.flatMap parts
theorem cmdB_len (r : S53) : (cmdB r).length = 18 + r.f2.f2.size + r.f2.f3.size := by
 simp only [cmdB, texts_cons, texts_nil, List.length_append, text_length, List.length_cons, List.length_nil, toList_len]
 omega
theorem okQ_short {r : S53} (h : okQ r) : r.f2.f2.size ≤ 16 ∧ r.f2.f3.size ≤ 4096 := by
 have := h.2.2
 unfold okC at this
 omega
theorem encL_len (h : Int) (p : ByteArray) (l : List S53) : (encL h p l).length = 2 + 3 * l.length := by
 have : (l.flatMap parts).length = 3 * l.length := by
  induction l with
  | nil => rfl
  | cons r l ih => rw [List.flatMap_cons, List.length_append, ih]; simp [parts]; omega
 simp only [encL, List.length_cons, this]
 omega
theorem encL_snoc (h : Int) (p : ByteArray) (l : List S53) (r : S53) : encL h p (l ++ [r]) = encL h p l ++ parts r := by simp [encL]
def cK (x : S51) : Array Value := #[.int .i64 x.f0, .int .i64 x.f1, .string x.f2, .string x.f3]
theorem commandC {r : S53} (h : okQ r) (w : World) : Calls Tryd.prog 23 #[.agg (cK r.f2)] w fun e w' => e = .returned (.tuple #[.string (mk (cmdB r)), .int .i64 0]) ∧ Below w.heap.size w w' := by
 have hs := okQ_short h
 obtain ⟨a, b, k, e, n, x⟩ := r
 obtain ⟨n, rfl⟩ := ex_mk n
 obtain ⟨x, rfl⟩ := ex_mk x
 have hs1 : n.length ≤ 16 := by simpa only [mk_size] using hs.1
 have hs2 : x.length ≤ 4096 := by simpa only [mk_size] using hs.2
 obtain ⟨q, hq⟩ := roundsE (E_Command k e n x (by omega) (by omega))
 have hok : okC k e n.length x.length := by simpa only [mk_size] using h.2.2
 unfold cmdA at hq
 rw [if_pos hok] at hq
 have := wire_Command.calls q k e (mk n) (mk x) _ _ w hq
 show Calls Tryd.prog 23 _ w fun e' w' => e' = .returned (.tuple #[.string (mk (texts [[u8 k], [u8 e], (mk n).toList, (mk x).toList])), .int .i64 0]) ∧ _
 rw [mk_toList, mk_toList]
 exact this
theorem fourC (x : Int) (h : 0 ≤ x) (w : World) : Calls Tryd.prog 24 #[.int .i64 x] w fun e w' => e = .returned (.string (mk (SG.four x.toNat))) ∧ Below w.heap.size w w' := by
 obtain ⟨n, rfl⟩ := Int.eq_ofNat_of_zero_le h
 refine block_four.calls _ _ w ?_
 unfold block_four.f
 rw [four_nums]
 rfl
theorem textsC (A : Option Addr) (n c : Nat) (ls : List (List UInt8)) (w : World) (hC : Kd.C Kd.string w A n (ls.map mk)) (hnc : n ≤ c) (hn : ls.length ≤ 100000) (hs : ∀ x ∈ ls, x.length ≤ 100000) : Calls Tryd.prog 25 #[.slice A n c] w fun e w' => e = .returned (.string (mk (texts ls))) ∧ Below w.heap.size w w' := by
 have h1 : n = (ls.map mk).length := hC.1.symm
 subst h1
 obtain ⟨q, hq⟩ := roundsE (E_Texts ls hn hs)
 exact wire_Texts.calls q A c (ls.map mk) _ w hC hnc hq
def encO (h : Int) (p : ByteArray) (l : List S53) : List UInt8 × Int := if (texts (encL h p l)).length > 4096 then ([], 2) else (texts (encL h p l), 0)
open Classical in
noncomputable def encF (h : Int) (p : ByteArray) (l : List S53) : List UInt8 × Int := if okB h p l then encO h p l else ([], 1)
theorem conv1 (W : World) (x : Int) : (Go.convert 54 9 (.slice (some ⟨W.heap.size, 0, none⟩) 1 1)).run Tryd.prog (W.alloc (.cells #[.int .u8 (x % 256)] 5)) = .ok (.string (mk [u8 x])) (W.alloc (.cells #[.int .u8 (x % 256)] 5)) := by
 have hC : Kd.C (Kd.int .u8) (W.alloc (.cells #[.int .u8 (x % 256)] 5)) (some ⟨W.heap.size, 0, none⟩) 1 [x % 256] := by
  refine Kd.C_of_reads (d := 0) ⟨rfl, by decide, fun _ => ⟨_, rfl, fun j hj => ?_⟩⟩
  rw [add_plain]
  refine (cell_of_row _ _ j _ 5 (0, 0) (heap_alloc_new W _)).trans ?_
  match j, hj with
  | 0, _ => rfl
  | j + 1, h => exact absurd h (by omega)
 exact Kd.C_string (P := Tryd.prog) (src := 54) (dst := 9) (e := 5) Tryd.underlying54 Tryd.underlying5 Tryd.underlying9 (c := 1) hC
theorem conv1g (W : World) (k : Nat) (x : Int) (hc : W.cell? ⟨k, 0, none⟩ = some (.int .u8 (IntKind.u8.wrap x))) : (Go.convert 54 9 (.slice (some ⟨k, 0, none⟩) 1 1)).run Tryd.prog W = .ok (.string (mk [u8 x])) W := by
 have hC : Kd.C (Kd.int .u8) W (some ⟨k, 0, none⟩) 1 [x % 256] := by
  refine Kd.C_of_reads (d := 0) ⟨rfl, by decide, fun _ => ⟨_, rfl, fun j hj => ?_⟩⟩
  rw [add_plain]
  match j, hj with
  | 0, _ => rw [hc, IntKind.wrap_u8]; rfl
  | j + 1, h => exact absurd h (by omega)
 exact Kd.C_string (P := Tryd.prog) (src := 54) (dst := 9) (e := 5) Tryd.underlying54 Tryd.underlying5 Tryd.underlying9 (c := 1) hC
theorem cellA (W : World) (v : Value) (t : TypeId) : (W.alloc (.cells #[v] t)).cell? ⟨W.heap.size, 0, none⟩ = some v := (cell_of_row _ _ 0 _ t (0, 0) (heap_alloc_new W _)).trans rfl
theorem conv1d (W : World) (x : Int) : (Go.convert 54 9 (.slice (some ⟨W.heap.size, 0, none⟩) 1 1)).run Tryd.prog (W.alloc (.cells #[.int .u8 (IntKind.u8.wrap x)] 5)).drew = .ok (.string (mk [u8 x])) (W.alloc (.cells #[.int .u8 (IntKind.u8.wrap x)] 5)).drew := conv1g _ _ _ (cellA W _ _)
theorem conv1w (W : World) (x : Int) : (Go.convert 54 9 (.slice (some ⟨W.heap.size, 0, none⟩) 1 1)).run Tryd.prog (W.alloc (.cells #[.int .u8 (IntKind.u8.wrap x)] 5)) = .ok (.string (mk [u8 x])) (W.alloc (.cells #[.int .u8 (IntKind.u8.wrap x)] 5)) := conv1g _ _ _ (cellA W _ _)
theorem conv1b (W : World) (x : Int) {w' : World} (hb : Below (W.alloc (.cells #[.int .u8 (IntKind.u8.wrap x)] 5)).drew.heap.size (W.alloc (.cells #[.int .u8 (IntKind.u8.wrap x)] 5)).drew w') : (Go.convert 54 9 (.slice (some ⟨W.heap.size, 0, none⟩) 1 1)).run Tryd.prog w' = .ok (.string (mk [u8 x])) w' := conv1g _ _ _ (pw_cell_below hb (cellA W _ _))
theorem strs3_C (w : World) (a b c : ByteArray) : Kd.C Kd.string (w.alloc (.cells #[.string a, .string b, .string c] 9)) (some ⟨w.heap.size, 0, none⟩) 3 [a, b, c] := by
 refine Kd.C_of_reads (d := ByteArray.empty) ⟨rfl, by decide, fun _ => ⟨_, rfl, fun j hj => ?_⟩⟩
 rw [add_plain]
 refine (cell_of_row _ _ j _ 9 (0, 0) (heap_alloc_new w _)).trans ?_
 match j, hj with
 | 0, _ => rfl
 | 1, _ => rfl
 | 2, _ => rfl
 | j + 3, h => exact absurd h (by omega)
theorem encL_short {h : Int} {p : ByteArray} {l : List S53} (hk : okB h p l) : ∀ x ∈ encL h p l, x.length ≤ 100000 := by
 intro x hx
 simp only [encL, List.mem_cons, List.mem_flatMap] at hx
 rcases hx with rfl | rfl | ⟨r, hr, hx⟩
 ·
  show 1 ≤ _
  decide
 ·
  rw [toList_len, hk.2.1]
  decide
 ·
  have hs := okQ_short (hk.2.2.2.2 r hr)
  simp only [parts, List.mem_cons, List.not_mem_nil, or_false] at hx
  rcases hx with rfl | rfl | rfl
  ·
   show 1 ≤ _
   decide
  ·
   rw [SG.four_length]
   decide
  ·
   rw [cmdB_len]
   omega
theorem strs3_C1 (w : World) (o : Obj) (a b c : ByteArray) : Kd.C Kd.string ((w.alloc o).alloc (.cells #[.string a, .string b, .string c] 9)) (some ⟨w.heap.size + 1, 0, none⟩) 3 [a, b, c] := by
 have h := strs3_C (w.alloc o) a b c
 have e : (w.alloc o).heap.size = w.heap.size + 1 := by
  show (w.heap.push o).size = _
  simp
 rw [e] at h
 exact h
set_option maxHeartbeats 16000000 in
set_option maxRecDepth 100000 in
theorem encode_walk (h : Int) (p : ByteArray) (A : Option Addr) (n c : Nat) (l : List S53) (w : World) (hn : n = l.length) (hC : Kd.C k53 w A n l) (hnc : n ≤ c) (hm : n ≤ 1000) (hs : shortQ l) :
  Calls Tryd.prog 10 #[.agg (cB h p A n c)] w fun e w' => e = .returned (.tuple #[.string (mk (encF h p l).1), .int .i64 (encF h p l).2]) ∧ Below w.heap.size w w' := by
 have HC := sqA hC
 have HN := sqA hn
 have HS := sqA hs
 clear hC hn hs
 by_cases hk : okB h p l
 ·
  have HK := sqA hk
  have HE : Aside0 (encF h p l = encO h p l) := ⟨by unfold encF; rw [if_pos hk]⟩
  rw [HE.out]
  clear hk
  unfold cB
  have hcv := conv1
  go_enter Tryd.func10, Tryd.ntmps10
  go_wp2_with (first | ((with_reducible refine gate_dst (N := 1) rfl ?_); refine sqo (N := 1) (cs := #[.int .i64 h, .string p, .slice A n c]) (t := 24) ?_; intro gb hgb wb hboxb hbb; have HGB := sqA hboxb; have HBB := sqA hbb; obtain ⟨y0, yz0, y1, yz1, y2, yz2⟩ := sq3 hboxb; clear hgb hboxb hbb) | ((with_reducible refine gate_callee (f := 12) rfl ?_); refine goesL_ (some 12) rfl rfl Tryd.func12 (by kernel_rfl) rfl #[.agg (cB h p A n c)] rfl sqm ?_; (with_reducible refine (check_walk h p A n c l _ HN.out (Kd.C_below HC.out HBB.out) hnc hm HS.out).mono ?_); rintro e w1 ⟨rfl, hb⟩; refine ⟨_, rfl, ?_⟩; rw [eB_pos HK.out]; have HB1 := sqA (below_step HBB.out hb); have HG1 := sqA (blk_below HGB.out hb); have z0 : w1.cell? ⟨gb, 0, none⟩ = some (.int .i64 h) := (blk_cell HG1.out 0).trans rfl; have z1 : w1.cell? ⟨gb, 1, none⟩ = some (.string p) := (blk_cell HG1.out 1).trans rfl; have zz1 := pw_cell_below (below_alloc (Below.refl _ _) (.cells #[.int .u8 (h % 256)] 5)) z1; clear hb) | ((with_reducible refine gate_dst (N := 23) rfl ?_); refine Kd.R_lit Kd.string (w0 := w) w.heap.size 9 rfl (N := 23) rfl (xs := [mk [u8 h], p]) (inner := [.string (mk [u8 h]), .string p]) (okp := fun _ => False) (ok := fun _ => True) ?hr ?hrep (fun _ _ => trivial) trivial (below_alloc HB1.out _) (below_alloc HB1.out (.cells #[.int .u8 (h % 256)] 5)).size (by show 2 ≤ _; decide) ?_; (case hr => first | (go_simp; done) | (go_simp; rfl)); (case hrep => exact Kd.reps_scalar (enc := Value.string) [mk [u8 h], p]); intro v23 w23 hr23 hb23 hg23 hat23; have HR23 := sqA hr23; have HB23 := sqA hb23; have HG23 := sqA (blk_grown (blk_below HG1.out (below_alloc (Below.refl _ _) (.cells #[.int .u8 (h % 256)] 5))) hg23 (fun h => by cases h)); have q2 : w23.cell? ⟨gb, 2, none⟩ = some (.slice A n c) := (blk_cell HG23.out 2).trans rfl; clear hr23 hb23 hg23 hat23))
  have HR0 : Aside0 (Kd.string.R 9 w23 w.heap.size (fun _ => True) v23 ((encL h p (l.take 0)).map mk)) := ⟨by
   have : (encL h p (l.take 0)).map mk = [mk [u8 h], p] := by
    rw [List.take_zero]
    show [mk [u8 h], mk p.toList] = _
    rw [mk_of_toList]
   rw [this]
   exact HR23.out⟩
  clear q2
  go_loopg [5, 27] n (fun kq v5 v27 w' => ∃ (i : Nat), v27 = .int .i64 (i : Int) ∧ Aside0 (i + kq = n) ∧ Aside0 (Kd.string.R 9 w' w.heap.size (fun _ => True) v5 ((encL h p (l.take i)).map mk)) ∧ Aside0 (Below w.heap.size w w'))
  case atStart => exact ⟨0, rfl, ⟨by omega⟩, HR0, HB23⟩
  case round =>
   obtain ⟨i, rfl, HI, HRi, HBi⟩ := hrel
   have hi := HI.out
   by_cases hat : i < n
   ·
    obtain ⟨k1, rfl⟩ : ∃ k1, gk = k1 + 1 := ⟨gk - 1, by omega⟩
    have hlt : decide ((i : Int) < (n : Int)) = true := decide_eq_true (by omega)
    have hil : i < l.length := by rw [← HN.out]; exact hat
    obtain ⟨ad, e101, sof⟩ := at53 HC.out HN.out hil
    cases e101
    obtain ⟨x0, x1, x2, x3, x4, x5⟩ := sof _ HBi.out
    have HT : Aside0 (l.take (i + 1) = l.take i ++ [l[i]]) := ⟨by rw [List.take_add_one, List.getElem?_eq_getElem hil]; rfl⟩
    have HQ : Aside0 (okQ l[i]) := ⟨HK.out.2.2.2.2 _ (List.getElem_mem hil)⟩
    have HL3 : Aside0 (((encL h p (l.take i)).map mk).length ≤ 4000) := ⟨by rw [List.length_map, encL_len, List.length_take]; omega⟩
    generalize l[i] = r at *
    have hq1 := HQ.out.2.1.1
    have HQ1 := sqA hq1
    clear sof HI hq1
    go_upto_region 9 with (first | ((with_reducible refine gate_dst (N := 7) rfl ?_); refine sqo (N := 7) (cs := #[.int .i64 0, .int .i64 0, .int .i64 0, .int .i64 0, .string ⟨#[]⟩, .string ⟨#[]⟩]) (t := 53) ?_; intro g hg w3 hbox hb; have HG3 := sqA hbox; have HGE := sqA (show wr.heap.size ≤ g by rw [hg]; exact Nat.le_refl _); have HB3 := sqA hb; have b0 : w3.cell? ⟨g, 0, none⟩ = some (.int .i64 0) := (blk_cell hbox 0).trans rfl; have bz0 : w3.frozen? ⟨g, 0, none⟩ = false := blk_frozen hbox 0; have b1 : w3.cell? ⟨g, 1, none⟩ = some (.int .i64 0) := (blk_cell hbox 1).trans rfl; have bz1 : w3.frozen? ⟨g, 1, none⟩ = false := blk_frozen hbox 1; have b2 : w3.cell? ⟨g, 2, none⟩ = some (.int .i64 0) := (blk_cell hbox 2).trans rfl; have bz2 : w3.frozen? ⟨g, 2, none⟩ = false := blk_frozen hbox 2; have b3 : w3.cell? ⟨g, 3, none⟩ = some (.int .i64 0) := (blk_cell hbox 3).trans rfl; have bz3 : w3.frozen? ⟨g, 3, none⟩ = false := blk_frozen hbox 3; have b4 : w3.cell? ⟨g, 4, none⟩ = some (.string ⟨#[]⟩) := (blk_cell hbox 4).trans rfl; have bz4 : w3.frozen? ⟨g, 4, none⟩ = false := blk_frozen hbox 4; have b5 : w3.cell? ⟨g, 5, none⟩ = some (.string ⟨#[]⟩) := (blk_cell hbox 5).trans rfl; have bz5 : w3.frozen? ⟨g, 5, none⟩ = false := blk_frozen hbox 5; clear hg hbox hb) | ((with_reducible refine gate_store (t := 53) (p := 7) (v := .tmp 30) rfl ?_); refine sqp (w1 := (set6 w3 g r)) ?_; intro w4 hw4; have hg4 : w4.heap[g]? = some (.cells (cR r) 53 (0, 0)) := (by rw [hw4]; exact set6_blk HG3.out r); have HB4 : Aside0 (Below w.heap.size w w4) := ⟨(by rw [hw4]; exact below_step HBi.out (set6_below HB3.out HGE.out r))⟩; have HBr : Aside0 (Below wr.heap.size wr w4) := ⟨(by rw [hw4]; exact set6_below HB3.out HGE.out r)⟩; have HG4 := sqA hg4; have z0 : w4.cell? ⟨g, 0, none⟩ = some (.int .i64 r.f0) := (blk_cell hg4 0).trans rfl; have zz0 : w4.frozen? ⟨g, 0, none⟩ = false := blk_frozen hg4 0; have z1 : w4.cell? ⟨g, 1, none⟩ = some (.int .i64 r.f1) := (blk_cell hg4 1).trans rfl; have zz1 : w4.frozen? ⟨g, 1, none⟩ = false := blk_frozen hg4 1; have z2 : w4.cell? ⟨g, 2, none⟩ = some (.int .i64 r.f2.f0) := (blk_cell hg4 2).trans rfl; have zz2 : w4.frozen? ⟨g, 2, none⟩ = false := blk_frozen hg4 2; have z3 : w4.cell? ⟨g, 3, none⟩ = some (.int .i64 r.f2.f1) := (blk_cell hg4 3).trans rfl; have zz3 : w4.frozen? ⟨g, 3, none⟩ = false := blk_frozen hg4 3; have z4 : w4.cell? ⟨g, 4, none⟩ = some (.string r.f2.f2) := (blk_cell hg4 4).trans rfl; have zz4 : w4.frozen? ⟨g, 4, none⟩ = false := blk_frozen hg4 4; have z5 : w4.cell? ⟨g, 5, none⟩ = some (.string r.f2.f3) := (blk_cell hg4 5).trans rfl; have zz5 : w4.frozen? ⟨g, 5, none⟩ = false := blk_frozen hg4 5; clear hw4 hg4) | ((with_reducible refine gate_callee (f := 23) rfl ?_); refine goesL_ (some 34) rfl rfl Tryd.func23 (by kernel_rfl) rfl #[.agg (cK r.f2)] rfl sqm ?_; (with_reducible refine (commandC HQ.out _).mono ?_); rintro e w5 ⟨rfl, hb⟩; refine ⟨_, rfl, ?_⟩; have HG5 := sqA (blk_below HG4.out hb); have HR5 := sqA (Kd.R_below HRi.out (below_step HBr.out hb)); have HB5 := sqA (below_step HB4.out hb); clear hb))
    (try simp only [Act.put, List.setIfInBounds_toArray, List.set_cons_zero, List.set_cons_succ])
    have SOF : Aside0 (∀ w', Below w5.heap.size w5 w' → w'.cell? ⟨g, 0, none⟩ = some (.int .i64 r.f0) ∧ w'.cell? ⟨g, 1, none⟩ = some (.int .i64 r.f1)) := ⟨fun w' hb => ⟨(blk_cell (blk_below HG5.out hb) 0).trans rfl, (blk_cell (blk_below HG5.out hb) 1).trans rfl⟩⟩
    have hcd := conv1d
    have hcw := conv1w
    clear hcv
    have f0 : w5.drew.cell? ⟨g, 0, none⟩ = some (.int .i64 r.f0) := (SOF.out _ (below_drew (Below.refl _ _))).1
    have f1 : w5.drew.cell? ⟨g, 1, none⟩ = some (.int .i64 r.f1) := (SOF.out _ (below_drew (Below.refl _ _))).2
    have g1 : ∀ o, (w5.alloc o).drew.cell? ⟨g, 1, none⟩ = some (.int .i64 r.f1) := fun o => (SOF.out _ (below_drew (below_alloc (Below.refl _ _) o))).2
    go_region_law (first | (go_simp; go_at_call 24; refine (fourC r.f1 HQ1.out _).mono ?_; rintro e wq ⟨rfl, hb⟩; (first | (have hcq := conv1b w5 r.f0 hb) | skip); have hbq : Below w5.heap.size w5 wq := below_step (by repeat (first | (with_reducible exact HBq.out) | (with_reducible exact Below.refl _ _) | (with_reducible apply below_alloc) | (with_reducible apply below_drew))) hb; have HBq := sqA hbq; have q0 : wq.cell? ⟨g, 0, none⟩ = some (.int .i64 r.f0) := (SOF.out _ HBq.out).1; clear hb hbq) | (refine Kd.R_append_rows_step Kd.string (Rr := fun x cs => cs = [Value.string x]) (w0 := w5) w.heap.size rfl (.tmp 37) (.tmp 47) 42 9 (.string ⟨#[]⟩) 16 rfl Tryd.underlying42 (by kernel_rfl) rfl (by decide) (by decide) u5 ((encL h p (l.take i)).map mk) ((parts r).map mk) (some ⟨_, 0, none⟩) 3 3 (fun _ => True) (fun _ => False) rfl rfl (Kd.R_below HR5.out ?hb1) (by first | exact strs3_C _ _ _ _ | exact strs3_C1 _ _ _ _ _) (fun _ _ h => h) (fun _ hk => hk.elim) (fun _ _ => trivial) (Below.mono ?hb2 HB5.out.size) (Nat.le_trans HB5.out.size (Below.size (B := w5.heap.size) ?hb3)) (by have := HL3.out; omega) ?_; (case hb1 => exact (by repeat (first | (with_reducible exact HBq.out) | (with_reducible exact Below.refl _ _) | (with_reducible apply below_alloc) | (with_reducible apply below_drew)))); (case hb2 => exact (by repeat (first | (with_reducible exact HBq.out) | (with_reducible exact Below.refl _ _) | (with_reducible apply below_alloc) | (with_reducible apply below_drew)))); (case hb3 => exact (by repeat (first | (with_reducible exact HBq.out) | (with_reducible exact Below.refl _ _) | (with_reducible apply below_alloc) | (with_reducible apply below_drew)))); intro v1 w9 hr9 hb9 hg9 hat9; have HR9 := sqA hr9; have HB9 := sqA (HB5.out.trans hb9); clear hr9 hb9 hg9 hat9))
    all_goals
     go_wp2
     go_roundg k1
     case measure => omega
     case rel => exact ⟨i + 1, by first | rfl | (simp; done), ⟨by omega⟩, ⟨by rw [HT.out, encL_snoc, List.map_append]; exact HR9.out⟩, HB9⟩
   ·
    obtain rfl : gk = 0 := by omega
    have hge : decide ((i : Int) < (n : Int)) = false := decide_eq_false (by omega)
    have HT : Aside0 (l.take i = l) := ⟨List.take_of_length_le (by have := HN.out; omega)⟩
    have hr0 := HRi.out
    rw [HT.out] at hr0
    obtain ⟨A6, c6, rfl, hc6, hC6⟩ := Kd.R_reads hr0
    have HC6 := sqA hC6
    have hshort : ∀ x ∈ encL h p l, x.length ≤ 100000 := encL_short HK.out
    have HSH := sqA hshort
    have hlen : (encL h p l).length ≤ 100000 := by rw [encL_len]; have := HN.out; omega
    have HLN := sqA hlen
    obtain ⟨T, hT⟩ : ∃ T, T = texts (encL h p l) := ⟨_, rfl⟩
    have HTE := sqA hT
    generalize ((encL h p l).map mk).length = pl at *
    clear hr0 HRi hC6 hshort hlen hT HI
    have HE2 : Aside0 (encO h p l = if T.length > 4096 then ([], 2) else (T, 0)) := ⟨by unfold encO; rw [← HTE.out]⟩
    have hsz : (mk T).size = T.length := mk_size T
    by_cases h96 : T.length > 4096
    ·
     have t96 : decide (4096 < ((mk T).size : Int)) = true := by rw [hsz]; exact decide_eq_true (by omega)
     have HE3 : Aside0 (encO h p l = ([], 2)) := ⟨by rw [HE2.out, if_pos h96]⟩
     clear hsz h96
     go_wp2_with (first | ((with_reducible refine gate_callee (f := 25) rfl ?_); refine goesL_ (some 51) rfl rfl Tryd.func25 (by kernel_rfl) rfl #[.slice A6 pl c6] rfl sqm ?_; (with_reducible refine (textsC A6 pl c6 (encL h p l) _ HC6.out hc6 HLN.out HSH.out).mono ?_); rintro e w7 ⟨rfl, hb⟩; refine ⟨_, rfl, ?_⟩; rw [← HTE.out]; have HB7 := sqA (below_step HBi.out hb); clear hb))
     go_ret2
     exact ⟨by rw [HE3.out]; rfl, HB7.out⟩
    ·
     have t96 : decide (4096 < ((mk T).size : Int)) = false := by rw [hsz]; exact decide_eq_false (by omega)
     have HE3 : Aside0 (encO h p l = (T, 0)) := ⟨by rw [HE2.out, if_neg h96]⟩
     clear hsz h96
     go_wp2_with (first | ((with_reducible refine gate_callee (f := 25) rfl ?_); refine goesL_ (some 51) rfl rfl Tryd.func25 (by kernel_rfl) rfl #[.slice A6 pl c6] rfl sqm ?_; (with_reducible refine (textsC A6 pl c6 (encL h p l) _ HC6.out hc6 HLN.out HSH.out).mono ?_); rintro e w7 ⟨rfl, hb⟩; refine ⟨_, rfl, ?_⟩; rw [← HTE.out]; have HB7 := sqA (below_step HBi.out hb); clear hb))
     go_ret2
     exact ⟨by rw [HE3.out]; rfl, HB7.out⟩
 ·
  have HK := sqA hk
  have HE : Aside0 (encF h p l = ([], 1)) := ⟨by unfold encF; rw [if_neg hk]⟩
  rw [HE.out]
  clear hk
  unfold cB
  go_enter Tryd.func10, Tryd.ntmps10
  go_wp2_with (first | ((with_reducible refine gate_dst (N := 1) rfl ?_); refine sqo (N := 1) (cs := #[.int .i64 h, .string p, .slice A n c]) (t := 24) ?_; intro gb hgb wb hboxb hbb; have HGB := sqA hboxb; have HBB := sqA hbb; obtain ⟨y0, yz0, y1, yz1, y2, yz2⟩ := sq3 hboxb; clear hgb hboxb hbb) | ((with_reducible refine gate_callee (f := 12) rfl ?_); refine goesL_ (some 12) rfl rfl Tryd.func12 (by kernel_rfl) rfl #[.agg (cB h p A n c)] rfl sqm ?_; (with_reducible refine (check_walk h p A n c l _ HN.out (Kd.C_below HC.out HBB.out) hnc hm HS.out).mono ?_); rintro e w1 ⟨rfl, hb⟩; refine ⟨_, rfl, ?_⟩; rw [eB_neg HK.out]; have HB1 := sqA (below_step HBB.out hb); clear hb))
  go_ret2
  exact ⟨rfl, HB1.out⟩
end Go.Proofs.YtifpomknkjegeaaDoor.Bk
namespace Go.Proofs.YtifpomknkjegeaaDoor.Bk
open Go.RowKit Go.Proofs.YtifpomknkjegeaaDoor.PAll Go.Proofs.YtifpomknkjegeaaDoorW.PrintWords Go.Proofs.YtifpomknkjegeaaDoorW.PrintLast Go.Proofs.YtifpomknkjegeaaDoorW.PrintMore SG Go.Proofs.YtifpomknkjegeaaDoor.BFun Go.Proofs.YtifpomknkjegeaaDoor.Hlp
set_option linter.unusedVariables false
set_option linter.unusedSimpArgs false
theorem at8 {l : List UInt8} {A : Option Addr} {n : Nat} {w : World} (h : Kd.C (Kd.int .u8) w A n (bytesOf (mk l))) (h0 : 0 < n) (hn : n = l.length) : ∃ ad, A = some ad ∧ ∀ w', Below w.heap.size w w' → ∀ j, (hj : j < l.length) → w'.cell? (ad.add j) = some (.int .u8 ((l[j].toNat : Nat) : Int)) := by
 obtain ⟨ad, e, _⟩ := Kd.at_int h 0 (by omega) (by omega)
 refine ⟨ad, e, fun w' hb j hj => ?_⟩
 obtain ⟨ad', e', x⟩ := Kd.at_int (Kd.C_below h hb) (j : Int) (by omega) (by omega)
 rw [e] at e'
 injection e' with e'
 subst e'
 rw [Int.toNat_natCast] at x
 rw [x]
 simp [rd, bytesOf, mk, List.getD_eq_getElem?_getD, List.getElem?_eq_getElem hj]
def set4 (w : World) (g : Nat) (x : S51) : World := (((w.setCell ⟨g, 0, none⟩ (.int .i64 x.f0)).setCell ⟨g, 1, none⟩ (.int .i64 x.f1)).setCell ⟨g, 2, none⟩ (.string x.f2)).setCell ⟨g, 3, none⟩ (.string x.f3)
theorem set4_blk {w : World} {g : Nat} {a b c d : Value} (h : w.heap[g]? = some (.cells #[a, b, c, d] 51 (0, 0))) (x : S51) : (set4 w g x).heap[g]? = some (.cells (cK x) 51 (0, 0)) := by
 simpa [set4, cK] using blk_set (blk_set (blk_set (blk_set h 0 (.int .i64 x.f0)) 1 (.int .i64 x.f1)) 2 (.string x.f2)) 3 (.string x.f3)
theorem set4_below {w w' : World} {g B : Nat} (h : Below B w w') (hg : B ≤ g) (x : S51) : Below B w (set4 w' g x) := by
 unfold set4
 exact Below.setCell (Below.setCell (Below.setCell (Below.setCell h hg _) hg _) hg _) hg _
def z53 : S53 := ⟨0, 0, ⟨0, 0, ⟨#[]⟩, ⟨#[]⟩⟩⟩
def reqF (a b c : List UInt8) : S53 × Bool := if a.length = 1 ∧ b.length = 4 then (⟨b0 a, (num4 b : Int), ⟨(rcA c).1, (rcA c).2.1, (rcA c).2.2.1, (rcA c).2.2.2.1⟩⟩, (rcA c).2.2.2.2 == 0) else (z53, false)
theorem orB (n x : Nat) (hn : n ≤ 1099511627776) (hx : x < 256) : Go.bits .or .i64 ((n : Int) * 256) (x : Int) = ((n * 256 + x : Nat) : Int) := by
 show IntKind.i64.wrap ((BitVec.ofInt 64 ((n : Int) * 256) ||| BitVec.ofInt 64 (x : Int)).toNat : Int) = _
 have e : ((n : Int) * 256) = ((n * 256 : Nat) : Int) := by omega
 rw [e, BitVec.ofInt_natCast, BitVec.ofInt_natCast, BitVec.toNat_or, BitVec.toNat_ofNat, BitVec.toNat_ofNat, Nat.mod_eq_of_lt (by omega), Nat.mod_eq_of_lt (by omega)]
 have h := Nat.shiftLeft_add_eq_or_of_lt (i := 8) (b := x) (by omega) n
 rw [Nat.shiftLeft_eq] at h
 rw [show n * 256 = n * 2 ^ 8 from rfl, ← h, IntKind.wrap_i64]
 omega
def numI (b : List UInt8) (i : Nat) : Nat := (b.take i).foldl (fun n x => n * 256 + x.toNat) 0
theorem numI_succ {b : List UInt8} {i : Nat} (h : i < b.length) : numI b (i + 1) = numI b i * 256 + b[i].toNat := by
 unfold numI
 rw [List.take_add_one, List.getElem?_eq_getElem h, List.foldl_append]
 rfl
theorem numI_le (b : List UInt8) (i : Nat) (h : i ≤ 4) : numI b i ≤ 4294967295 := by
 have hb : ∀ j, j ≤ 4 → numI b j < 256 ^ j := by
  intro j
  induction j with
  | zero => intro _; show 0 < 1; decide
  | succ j ih =>
   intro hj
   have h1 := ih (by omega)
   by_cases hl : j < b.length
   ·
    rw [numI_succ hl]
    have := b[j].toNat_lt
    rw [Nat.pow_succ]
    omega
   ·
    have : numI b (j + 1) = numI b j := by
     unfold numI
     rw [List.take_of_length_le (by omega), List.take_of_length_le (by omega)]
    rw [this, Nat.pow_succ]
    omega
 have h1 := hb i h
 have h2 : 256 ^ i ≤ 256 ^ 4 := Nat.pow_le_pow_right (by decide) h
 have h3 : 256 ^ 4 = 4294967296 := rfl
 omega
theorem numI_4 {b : List UInt8} (h : b.length = 4) : numI b 4 = num4 b := by
 obtain ⟨x0, x1, x2, x3, rfl⟩ := of_4 h
 simp [numI, num4]
 omega
theorem readCmdC (c : List UInt8) (hl : c.length ≤ 1000000) (w : World) : Calls Tryd.prog 60 #[.string (mk c)] w fun e w' => e = .returned (.tuple #[.agg #[.int .i64 (rcA c).1, .int .i64 (rcA c).2.1, .string (rcA c).2.2.1, .string (rcA c).2.2.2.1], .int .i64 (rcA c).2.2.2.2]) ∧ Below w.heap.size w w' := by
 obtain ⟨q, hq⟩ := roundsE (E_ReadCommand c hl)
 exact wire_ReadCommand.calls q (mk c) _ _ _ _ _ w hq
theorem one0 {a : List UInt8} (h : a.length = 1) (hps : 0 < (mk a).size) : ∃ X : Nat, ((mk a)[0]'hps).toNat = X ∧ b0 a = (X : Int) := by
 match a, h with
 | [x], _ => exact ⟨x.toNat, rfl, rfl⟩
theorem strs_at {w : World} {A : Option Addr} {n : Nat} {ls : List ByteArray} (h : Kd.C Kd.string w A n ls) (h0 : 0 < n) : ∃ ad, A = some ad ∧ ∀ w', Below w.heap.size w w' → ∀ j, j < n → w'.cell? (ad.add j) = some (.string (ls.getD j ⟨#[]⟩)) := by
 obtain ⟨ad, e, _⟩ := Kd.at_string h 0 (by omega) (by omega)
 refine ⟨ad, e, fun w' hb j hj => ?_⟩
 obtain ⟨ad', e', x⟩ := Kd.at_string (Kd.C_below h hb) (j : Int) (by omega) (by omega)
 rw [e] at e'
 injection e' with e'
 subst e'
 rw [Int.toNat_natCast] at x
 rw [x]
 simp only [rdOf, Int.toNat_natCast]
 rfl
set_option maxHeartbeats 16000000 in
set_option maxRecDepth 100000 in
theorem request_walk (a b c : List UInt8) (A : Option Addr) (cap : Nat) (w : World) (hC : Kd.C Kd.string w A 3 [mk a, mk b, mk c]) (hl : c.length ≤ 1000000) :
  Calls Tryd.prog 51 #[.slice A 3 cap] w fun e w' => e = .returned (.tuple #[.agg (cR (reqF a b c).1), .bool (reqF a b c).2]) ∧ Below w.heap.size w w' := by
 obtain ⟨ad, rfl, sof⟩ := strs_at hC (by decide)
 have hsz1 : ((mk a).size : Int) = (a.length : Int) := by rw [mk_size]
 have hsz2 : ((mk b).size : Int) = (b.length : Int) := by rw [mk_size]
 by_cases h1 : a.length = 1
 ·
  by_cases h2 : b.length = 4
  ·
   have t1 : (((mk a).size : Int) != 1) = false := by rw [hsz1]; simp; omega
   have t2 : (((mk b).size : Int) != 4) = false := by rw [hsz2]; simp; omega
   have HR : Aside0 (reqF a b c = (⟨b0 a, (num4 b : Int), ⟨(rcA c).1, (rcA c).2.1, (rcA c).2.2.1, (rcA c).2.2.2.1⟩⟩, (rcA c).2.2.2.2 == 0)) := ⟨by unfold reqF; rw [if_pos ⟨h1, h2⟩]⟩
   have H1 := sqA h1
   have H2 := sqA h2
   obtain ⟨L, hb4⟩ : ∃ L, (bytesOf (mk b)).length = L := ⟨_, rfl⟩
   have HL : Aside0 (L = 4) := ⟨by rw [← hb4, bytesOf_len]; exact h2⟩
   clear hsz1 hsz2 h1 h2 hC
   go_enter Tryd.func51, Tryd.ntmps51
   go_wp2_with (first | ((with_reducible refine gate_dst (N := 2) rfl ?_); refine sqo (N := 2) (cs := #[.int .i64 0, .int .i64 0, .int .i64 0, .int .i64 0, .string ⟨#[]⟩, .string ⟨#[]⟩]) (t := 53) ?_; intro g2 hg2 w2 hbox2 hb2; have HX2 := sqA hbox2; have HB2 := sqA hb2; have HGE2 := sqA (show w.heap.size ≤ g2 by rw [hg2]; exact Nat.le_refl _); have s0 : w2.cell? ad = some (.string (mk a)) := sof _ hb2 0 (by decide); have s1 : w2.cell? ⟨ad.block, ad.off + 1, none⟩ = some (.string (mk b)) := sof _ hb2 1 (by decide); have y0 : w2.cell? ⟨g2, 0, none⟩ = some (.int .i64 0) := (blk_cell hbox2 0).trans rfl; have yz0 : w2.frozen? ⟨g2, 0, none⟩ = false := blk_frozen hbox2 0; have y1 : w2.cell? ⟨g2, 1, none⟩ = some (.int .i64 0) := (blk_cell hbox2 1).trans rfl; have yz1 : w2.frozen? ⟨g2, 1, none⟩ = false := blk_frozen hbox2 1; have y2 : w2.cell? ⟨g2, 2, none⟩ = some (.int .i64 0) := (blk_cell hbox2 2).trans rfl; have yz2 : w2.frozen? ⟨g2, 2, none⟩ = false := blk_frozen hbox2 2; have y3 : w2.cell? ⟨g2, 3, none⟩ = some (.int .i64 0) := (blk_cell hbox2 3).trans rfl; have yz3 : w2.frozen? ⟨g2, 3, none⟩ = false := blk_frozen hbox2 3; have y4 : w2.cell? ⟨g2, 4, none⟩ = some (.string ⟨#[]⟩) := (blk_cell hbox2 4).trans rfl; have yz4 : w2.frozen? ⟨g2, 4, none⟩ = false := blk_frozen hbox2 4; have y5 : w2.cell? ⟨g2, 5, none⟩ = some (.string ⟨#[]⟩) := (blk_cell hbox2 5).trans rfl; have yz5 : w2.frozen? ⟨g2, 5, none⟩ = false := blk_frozen hbox2 5; clear hg2 hbox2 hb2) | ((with_reducible refine gate_dst (N := 25) rfl ?_); refine BRow.BR_conv (w0 := w) w.heap.size 5 rfl (N := 25) rfl 9 54 (.tmp 24) rfl (mk b) rfl Tryd.underlying9 Tryd.underlying54 Tryd.underlying5 (by rw [mk_size, H2.out]; decide) HB2.out HB2.out.size ?_; intro v25 w25 hr25 hb25 hg25 hat25; obtain ⟨A25, c25, rfl⟩ := BRow.BR_slice hr25; rw [hb4] at hr25; have HR25 := sqA hr25; have HB25 := sqA hb25; have HG25 := sqA hg25; clear hr25 hb25 hg25 hat25))
   obtain ⟨eq25, le25, hC25⟩ := BRow.BR_reads' HR25.out
   rw [hb4] at hC25
   obtain ⟨ad2, rfl, sof2⟩ := at8 hC25 (by rw [HL.out]; decide) (by rw [HL.out]; exact H2.out.symm)
   clear hb4
   clear hC25 eq25 le25
   go_loopg [4, 27] L (fun kq v4 v27 w' => ∃ (i : Nat), v27 = .int .i64 (i : Int) ∧ v4 = .int .i64 ((numI b i : Nat) : Int) ∧ Aside0 (i + kq = L) ∧ Aside0 (w' = w25))
   case atStart => exact ⟨0, rfl, rfl, ⟨by omega⟩, ⟨rfl⟩⟩
   case round =>
    obtain ⟨i, rfl, rfl, HI, HW⟩ := hrel
    have hi := HI.out
    obtain rfl := HW.out
    by_cases hat : i < L
    ·
     obtain ⟨k1, rfl⟩ : ∃ k1, gk = k1 + 1 := ⟨gk - 1, by omega⟩
     have hlt : decide ((i : Int) < (L : Int)) = true := decide_eq_true (by omega)
     have hil : (i : Int) < (L : Int) := by omega
     have hib : i < b.length := by rw [H2.out, ← HL.out]; exact hat
     have x0 := sof2 _ (Below.refl _ _) i hib
     have hNI := numI_le b i (by have := HL.out; omega)
     have hX := b[i].toNat_lt
     have HN1 : Aside0 (numI b (i + 1) = numI b i * 256 + b[i].toNat) := ⟨numI_succ hib⟩
     generalize b[i].toNat = X at *
     obtain ⟨N, hN⟩ : ∃ N, N = numI b i := ⟨_, rfl⟩
     rw [← hN] at HN1 hNI ⊢
     have qn : wrap64 ((N : Int) * 256) = (N : Int) * 256 := by rw [w64 (by omega) (by omega)]
     have qx : wrap64 (X : Int) = (X : Int) := by rw [w64 (by omega) (by omega)]
     have qo := orB N X (by omega) (by omega)
     obtain ⟨M, hM⟩ : ∃ M, M = N * 256 + X := ⟨_, rfl⟩
     rw [← hM] at qo
     have HM := sqA hM
     clear HI hib hN hNI hM sof sof2
     go_wp2
     go_roundg k1
     case measure => omega
     case rel => exact ⟨i + 1, congrArg (Value.int .i64) (by rw [w64 (by omega) (by have := HL.out; omega)]; rfl), by rw [HN1.out, ← HM.out], ⟨by omega⟩, ⟨rfl⟩⟩
    ·
     obtain rfl : gk = 0 := by omega
     obtain rfl : i = L := by omega
     have hge : decide ((i : Int) < (i : Int)) = false := by simp
     rw [HL.out, numI_4 H2.out]
     have s3 : wr.cell? ⟨ad.block, ad.off + 2, none⟩ = some (.string (mk c)) := sof _ HB25.out 2 (by decide)
     have HXr := sqA (blk_grown HX2.out HG25.out (fun h => by cases h))
     have HSF := sqA sof
     clear HI sof sof2
     go_wp2_with (first | ((with_reducible refine gate_callee (f := 60) rfl ?_); refine goesL_ (some 41) rfl rfl Tryd.func60 (by kernel_rfl) rfl #[.string (mk c)] rfl sqm ?_; (with_reducible refine (readCmdC c hl _).mono ?_); rintro e w5 ⟨rfl, hb⟩; refine ⟨_, rfl, ?_⟩; have HX5 := sqA (blk_below HXr.out hb); have HB5 := sqA (below_step HB25.out hb); clear hb) | ((with_reducible refine gate_dst (N := 7) rfl ?_); refine sqo (N := 7) (cs := #[.int .i64 0, .int .i64 0, .string ⟨#[]⟩, .string ⟨#[]⟩]) (t := 51) ?_; intro g7 hg7 w6 hbox6 hb6; have HG6 := sqA hbox6; have HB6 := sqA hb6; have HGE6 := sqA (show w5.heap.size ≤ g7 by rw [hg7]; exact Nat.le_refl _); obtain ⟨v0, vz0, v1, vz1, v2, vz2, v3, vz3⟩ := sq4 hbox6; clear hg7 hbox6 hb6) | ((with_reducible refine gate_store (t := 51) (p := 7) (v := .tmp 42) rfl ?_); refine sqp (w1 := (set4 w6 g7 ⟨(rcA c).1, (rcA c).2.1, (rcA c).2.2.1, (rcA c).2.2.2.1⟩)) ?_; intro w7 hw7; have hg7 : w7.heap[g7]? = some (.cells (cK ⟨(rcA c).1, (rcA c).2.1, (rcA c).2.2.1, (rcA c).2.2.2.1⟩) 51 (0, 0)) := (by rw [hw7]; exact set4_blk HG6.out _); have hb57 : Below w5.heap.size w5 w7 := (by rw [hw7]; exact set4_below HB6.out HGE6.out _); have HG7 := sqA hg7; have HB7 := sqA (below_step HB5.out hb57); have HX7 := sqA (blk_below HX5.out hb57); clear hw7 hg7 hb57))
     have r0 : w7.cell? ad = some (.string (mk a)) := HSF.out _ HB7.out 0 (by decide)
     have u0 : w7.cell? ⟨g7, 0, none⟩ = some (.int .i64 (rcA c).1) := (blk_cell HG7.out 0).trans rfl
     have u1 : w7.cell? ⟨g7, 1, none⟩ = some (.int .i64 (rcA c).2.1) := (blk_cell HG7.out 1).trans rfl
     have u2 : w7.cell? ⟨g7, 2, none⟩ = some (.string (rcA c).2.2.1) := (blk_cell HG7.out 2).trans rfl
     have u3 : w7.cell? ⟨g7, 3, none⟩ = some (.string (rcA c).2.2.2.1) := (blk_cell HG7.out 3).trans rfl
     have hps : 0 < (mk a).size := by rw [mk_size, H1.out]; decide
     obtain ⟨X, hX, hb0⟩ : ∃ X : Nat, ((mk a)[0]'hps).toNat = X ∧ b0 a = (X : Int) := one0 H1.out hps
     have hX2 : X < 256 := by rw [← hX]; exact UInt8.toNat_lt _
     have qx : wrap64 (X : Int) = (X : Int) := by rw [w64 (by omega) (by omega)]
     have HB0 := sqA hb0
     clear hb0
     have y0 : w7.cell? ⟨g2, 0, none⟩ = some (.int .i64 0) := (blk_cell HX7.out 0).trans rfl; have yz0 : w7.frozen? ⟨g2, 0, none⟩ = false := blk_frozen HX7.out 0; have y1 : w7.cell? ⟨g2, 1, none⟩ = some (.int .i64 0) := (blk_cell HX7.out 1).trans rfl; have yz1 : w7.frozen? ⟨g2, 1, none⟩ = false := blk_frozen HX7.out 1; have y2 : w7.cell? ⟨g2, 2, none⟩ = some (.int .i64 0) := (blk_cell HX7.out 2).trans rfl; have yz2 : w7.frozen? ⟨g2, 2, none⟩ = false := blk_frozen HX7.out 2; have y3 : w7.cell? ⟨g2, 3, none⟩ = some (.int .i64 0) := (blk_cell HX7.out 3).trans rfl; have yz3 : w7.frozen? ⟨g2, 3, none⟩ = false := blk_frozen HX7.out 3; have y4 : w7.cell? ⟨g2, 4, none⟩ = some (.string ⟨#[]⟩) := (blk_cell HX7.out 4).trans rfl; have yz4 : w7.frozen? ⟨g2, 4, none⟩ = false := blk_frozen HX7.out 4; have y5 : w7.cell? ⟨g2, 5, none⟩ = some (.string ⟨#[]⟩) := (blk_cell HX7.out 5).trans rfl; have yz5 : w7.frozen? ⟨g2, 5, none⟩ = false := blk_frozen HX7.out 5
     go_region
     obtain ⟨w8, hw8⟩ : ∃ w8, w8 = (set6 w7 g2 ⟨(X : Int), ((num4 b : Nat) : Int), ⟨(rcA c).1, (rcA c).2.1, (rcA c).2.2.1, (rcA c).2.2.2.1⟩⟩).drew := ⟨_, rfl⟩
     have hg8 : w8.heap[g2]? = some (.cells (cR ⟨(X : Int), ((num4 b : Nat) : Int), ⟨(rcA c).1, (rcA c).2.1, (rcA c).2.2.1, (rcA c).2.2.2.1⟩⟩) 53 (0, 0)) := by rw [hw8]; exact blk_drew (set6_blk HX7.out _)
     have HB8 : Aside0 (Below w.heap.size w w8) := ⟨by rw [hw8]; exact (set6_below HB7.out HGE2.out _).drew⟩
     change Exit.then _ _ _ _ (set6 w7 g2 ⟨(X : Int), ((num4 b : Nat) : Int), ⟨(rcA c).1, (rcA c).2.1, (rcA c).2.2.1, (rcA c).2.2.2.1⟩⟩).drew
     rw [← hw8]
     have HG8 := sqA hg8
     clear hw8 hg8
     go_wp2
     refine bodyPost_ret (results_ct rfl _ _ g2 53 (cR ⟨(X : Int), ((num4 b : Nat) : Int), ⟨(rcA c).1, (rcA c).2.1, (rcA c).2.2.1, (rcA c).2.2.2.1⟩⟩) (0, 0) _ rfl HG8.out Tryd.underlying53 rfl (by kernel_rfl)) rfl ⟨?_, HB8.out⟩
     rw [HR.out, HB0.out]
     rfl
  ·
   have t1 : (((mk a).size : Int) != 1) = false := by rw [hsz1]; simp; omega
   have t2 : (((mk b).size : Int) != 4) = true := by rw [hsz2]; simp; omega
   have HR : Aside0 (reqF a b c = (z53, false)) := ⟨by unfold reqF; rw [if_neg (fun h => h2 h.2)]⟩
   clear hsz1 hsz2 h1 h2 hC
   go_enter Tryd.func51, Tryd.ntmps51
   go_wp2_with (first | ((with_reducible refine gate_dst (N := 2) rfl ?_); refine sqo (N := 2) (cs := #[.int .i64 0, .int .i64 0, .int .i64 0, .int .i64 0, .string ⟨#[]⟩, .string ⟨#[]⟩]) (t := 53) ?_; intro g2 hg2 w2 hbox2 hb2; have HX2 := sqA hbox2; have HB2 := sqA hb2; have HGE2 := sqA (show w.heap.size ≤ g2 by rw [hg2]; exact Nat.le_refl _); have s0 : w2.cell? ad = some (.string (mk a)) := sof _ hb2 0 (by decide); have s1 : w2.cell? ⟨ad.block, ad.off + 1, none⟩ = some (.string (mk b)) := sof _ hb2 1 (by decide); have y0 : w2.cell? ⟨g2, 0, none⟩ = some (.int .i64 0) := (blk_cell hbox2 0).trans rfl; have yz0 : w2.frozen? ⟨g2, 0, none⟩ = false := blk_frozen hbox2 0; have y1 : w2.cell? ⟨g2, 1, none⟩ = some (.int .i64 0) := (blk_cell hbox2 1).trans rfl; have yz1 : w2.frozen? ⟨g2, 1, none⟩ = false := blk_frozen hbox2 1; have y2 : w2.cell? ⟨g2, 2, none⟩ = some (.int .i64 0) := (blk_cell hbox2 2).trans rfl; have yz2 : w2.frozen? ⟨g2, 2, none⟩ = false := blk_frozen hbox2 2; have y3 : w2.cell? ⟨g2, 3, none⟩ = some (.int .i64 0) := (blk_cell hbox2 3).trans rfl; have yz3 : w2.frozen? ⟨g2, 3, none⟩ = false := blk_frozen hbox2 3; have y4 : w2.cell? ⟨g2, 4, none⟩ = some (.string ⟨#[]⟩) := (blk_cell hbox2 4).trans rfl; have yz4 : w2.frozen? ⟨g2, 4, none⟩ = false := blk_frozen hbox2 4; have y5 : w2.cell? ⟨g2, 5, none⟩ = some (.string ⟨#[]⟩) := (blk_cell hbox2 5).trans rfl; have yz5 : w2.frozen? ⟨g2, 5, none⟩ = false := blk_frozen hbox2 5; clear hg2 hbox2 hb2))
   exact bodyPost_ret (results_ct rfl _ _ g2 53 (cR z53) (0, 0) _ rfl (show (set6 w2 g2 z53).heap[g2]? = _ from set6_blk HX2.out z53) Tryd.underlying53 rfl (by kernel_rfl)) rfl ⟨(by rw [HR.out]; rfl), (show Below w.heap.size w (set6 w2 g2 z53) from set6_below HB2.out HGE2.out z53)⟩
 ·
  have t1 : (((mk a).size : Int) != 1) = true := by rw [hsz1]; simp; omega
  have HR : Aside0 (reqF a b c = (z53, false)) := ⟨by unfold reqF; rw [if_neg (fun h => h1 h.1)]⟩
  clear hsz1 hsz2 h1 hC
  go_enter Tryd.func51, Tryd.ntmps51
  go_wp2_with (first | ((with_reducible refine gate_dst (N := 2) rfl ?_); refine sqo (N := 2) (cs := #[.int .i64 0, .int .i64 0, .int .i64 0, .int .i64 0, .string ⟨#[]⟩, .string ⟨#[]⟩]) (t := 53) ?_; intro g2 hg2 w2 hbox2 hb2; have HX2 := sqA hbox2; have HB2 := sqA hb2; have HGE2 := sqA (show w.heap.size ≤ g2 by rw [hg2]; exact Nat.le_refl _); have s0 : w2.cell? ad = some (.string (mk a)) := sof _ hb2 0 (by decide); have s1 : w2.cell? ⟨ad.block, ad.off + 1, none⟩ = some (.string (mk b)) := sof _ hb2 1 (by decide); have y0 : w2.cell? ⟨g2, 0, none⟩ = some (.int .i64 0) := (blk_cell hbox2 0).trans rfl; have yz0 : w2.frozen? ⟨g2, 0, none⟩ = false := blk_frozen hbox2 0; have y1 : w2.cell? ⟨g2, 1, none⟩ = some (.int .i64 0) := (blk_cell hbox2 1).trans rfl; have yz1 : w2.frozen? ⟨g2, 1, none⟩ = false := blk_frozen hbox2 1; have y2 : w2.cell? ⟨g2, 2, none⟩ = some (.int .i64 0) := (blk_cell hbox2 2).trans rfl; have yz2 : w2.frozen? ⟨g2, 2, none⟩ = false := blk_frozen hbox2 2; have y3 : w2.cell? ⟨g2, 3, none⟩ = some (.int .i64 0) := (blk_cell hbox2 3).trans rfl; have yz3 : w2.frozen? ⟨g2, 3, none⟩ = false := blk_frozen hbox2 3; have y4 : w2.cell? ⟨g2, 4, none⟩ = some (.string ⟨#[]⟩) := (blk_cell hbox2 4).trans rfl; have yz4 : w2.frozen? ⟨g2, 4, none⟩ = false := blk_frozen hbox2 4; have y5 : w2.cell? ⟨g2, 5, none⟩ = some (.string ⟨#[]⟩) := (blk_cell hbox2 5).trans rfl; have yz5 : w2.frozen? ⟨g2, 5, none⟩ = false := blk_frozen hbox2 5; clear hg2 hbox2 hb2))
  exact bodyPost_ret (results_ct rfl _ _ g2 53 (cR z53) (0, 0) _ rfl (show (set6 w2 g2 z53).heap[g2]? = _ from set6_blk HX2.out z53) Tryd.underlying53 rfl (by kernel_rfl)) rfl ⟨(by rw [HR.out]; rfl), (show Below w.heap.size w (set6 w2 g2 z53) from set6_below HB2.out HGE2.out z53)⟩
end Go.Proofs.YtifpomknkjegeaaDoor.Bk
namespace Go.Proofs.YtifpomknkjegeaaDoor.Bk
open Go.RowKit Go.Proofs.YtifpomknkjegeaaDoor.PAll Go.Proofs.YtifpomknkjegeaaDoorW.PrintWords Go.Proofs.YtifpomknkjegeaaDoorW.PrintLast Go.Proofs.YtifpomknkjegeaaDoorW.PrintMore SG Go.Proofs.YtifpomknkjegeaaDoor.BFun Go.Proofs.YtifpomknkjegeaaDoor.Hlp
set_option linter.unusedVariables false
set_option linter.unusedSimpArgs false
def set3 (w : World) (g : Nat) (h : Int) (p : ByteArray) (v : Value) : World := ((w.setCell ⟨g, 0, none⟩ (.int .i64 h)).setCell ⟨g, 1, none⟩ (.string p)).setCell ⟨g, 2, none⟩ v
theorem set3_blk {w : World} {g : Nat} {a b c : Value} (hh : w.heap[g]? = some (.cells #[a, b, c] 24 (0, 0))) (h : Int) (p : ByteArray) (v : Value) : (set3 w g h p v).heap[g]? = some (.cells #[.int .i64 h, .string p, v] 24 (0, 0)) := by
 simpa [set3] using blk_set (blk_set (blk_set hh 0 (.int .i64 h)) 1 (.string p)) 2 v
theorem set3_below {w w' : World} {g B : Nat} (hb : Below B w w') (hg : B ≤ g) (h : Int) (p : ByteArray) (v : Value) : Below B w (set3 w' g h p v) := by
 unfold set3
 exact Below.setCell (Below.setCell (Below.setCell hb hg _) hg _) hg _
def rq (ts : List (List UInt8)) (j : Nat) : S53 × Bool := reqF (ts.getD (2 + 3 * j) []) (ts.getD (3 + 3 * j) []) (ts.getD (4 + 3 * j) [])
def rqs (ts : List (List UInt8)) (m : Nat) : List S53 := (List.range m).map fun j => (rq ts j).1
theorem rqs_succ (ts : List (List UInt8)) (m : Nat) : rqs ts (m + 1) = rqs ts m ++ [(rq ts m).1] := by
 unfold rqs
 rw [List.range_succ, List.map_append]
 rfl
theorem rqs_len (ts : List (List UInt8)) (m : Nat) : (rqs ts m).length = m := by simp [rqs]
def noB : Int × ByteArray × List S53 := (0, ⟨#[]⟩, [])
noncomputable def readF (ts : List (List UInt8)) : (Int × ByteArray × List S53) × Bool :=
 if (2 ≤ ts.length ∧ (ts.length - 2) % 3 = 0 ∧ (ts.getD 0 []).length = 1) ∧ ∀ j, j < (ts.length - 2) / 3 → (rq ts j).2 = true then ((b0 (ts.getD 0 []), mk (ts.getD 1 []), rqs ts ((ts.length - 2) / 3)), eB (b0 (ts.getD 0 [])) (mk (ts.getD 1 [])) (rqs ts ((ts.length - 2) / 3)) == 0) else (noB, false)
theorem readF_neg {ts : List (List UInt8)} (h : ¬ ((2 ≤ ts.length ∧ (ts.length - 2) % 3 = 0 ∧ (ts.getD 0 []).length = 1) ∧ ∀ j, j < (ts.length - 2) / 3 → (rq ts j).2 = true)) : readF ts = (noB, false) := by
 unfold readF
 rw [if_neg h]
theorem readF_pos {ts : List (List UInt8)} (h : (2 ≤ ts.length ∧ (ts.length - 2) % 3 = 0 ∧ (ts.getD 0 []).length = 1) ∧ ∀ j, j < (ts.length - 2) / 3 → (rq ts j).2 = true) : readF ts = ((b0 (ts.getD 0 []), mk (ts.getD 1 []), rqs ts ((ts.length - 2) / 3)), eB (b0 (ts.getD 0 [])) (mk (ts.getD 1 [])) (rqs ts ((ts.length - 2) / 3)) == 0) := by
 unfold readF
 rw [if_pos h]
def ReadA (ts : List (List UInt8)) (w : World) (e : Ending) (w' : World) : Prop := ∃ A m c, e = .returned (.tuple #[.agg (cB (readF ts).1.1 (readF ts).1.2.1 A m c), .bool (readF ts).2]) ∧ m = (readF ts).1.2.2.length ∧ m ≤ c ∧ Kd.R k53 53 w' w.heap.size (fun _ => True) (.slice A m c) (readF ts).1.2.2 ∧ Below w.heap.size w w'
theorem readA_no {ts : List (List UInt8)} {w w' : World} (h : readF ts = (noB, false)) (hb : Below w.heap.size w w') : ReadA ts w (.returned (.tuple #[.agg (cB 0 ⟨#[]⟩ none 0 0), .bool false])) w' := by
 refine ⟨none, 0, 0, ?_, ?_, Nat.le_refl _, ?_, hb⟩
 ·
  rw [h]; rfl
 ·
  rw [h]; rfl
 ·
  rw [h]; exact Kd.R_nil _ _ _ _ _
theorem wrapX {X : Nat} (h : X < 256) : IntKind.i64.wrap (X : Int) = (X : Int) := by
 rw [IntKind.wrap_i64]
 omega
theorem addr_add (a : Addr) (i j : Nat) : (a.add i).add j = a.add (i + j) := by
 unfold Addr.add
 by_cases hi : i = 0
 ·
  simp [hi]
 ·
  by_cases hj : j = 0
  ·
   simp [hj]
  ·
   simp [hi, hj, Nat.add_assoc]
theorem C_three {ts : List (List UInt8)} {w : World} {ad : Addr} {n i : Nat} (h : Kd.C Kd.string w (some ad) n (ts.map mk)) (hn : n = ts.length) (hi : i + 3 ≤ n) : Kd.C Kd.string w (some (ad.add i)) 3 [mk (ts.getD i []), mk (ts.getD (i + 1) []), mk (ts.getD (i + 2) [])] := by
 obtain ⟨ad', e, hc⟩ := h.2.2 (by omega)
 injection e with e
 subst e
 have g : ∀ k, k < ts.length → (ts.map mk)[k]? = some (mk (ts.getD k [])) := fun k hk => by
  rw [List.getElem?_map, List.getElem?_eq_getElem hk, List.getD_eq_getElem?_getD, List.getElem?_eq_getElem hk]
  rfl
 refine ⟨rfl, by decide, fun _ => ⟨ad.add i, rfl, fun j p hj => ?_⟩⟩
 have hj' : (ts.map mk)[i + j]? = some p := by
  rcases j with _ | _ | _ | j
  ·
   rw [← hj, g _ (by omega)]; rfl
  ·
   rw [← hj, g _ (by omega)]; rfl
  ·
   rw [← hj, g _ (by omega)]; rfl
  ·
   simp at hj
 obtain ⟨cs, h1, h2, h3⟩ := hc (i + j) p hj'
 refine ⟨cs, h1, h2, fun k u hu => ?_⟩
 have := h3 k u hu
 have e : (ad.add i).add (j * Kd.string.sz + k) = ad.add ((i + j) * Kd.string.sz + k) := by
  have e1 : Kd.string.sz = 1 := rfl
  rw [e1, Nat.mul_one, Nat.mul_one]
  rw [addr_add, Nat.add_assoc]
 rw [e]
 exact this
theorem len_getD {ts : List (List UInt8)} {N : Nat} (h : ∀ t ∈ ts, t.length ≤ N) (i : Nat) : (ts.getD i []).length ≤ N := by
 rw [List.getD_eq_getElem?_getD]
 cases e : ts[i]? with
 | none => exact Nat.zero_le _
 | some t => exact h t (List.mem_of_getElem? e)
theorem request_is {a b c : List UInt8} {r : S53} {ok : Bool} (hr : reqF a b c = (r, ok)) (A : Option Addr) (cap : Nat) (w : World) (hC : Kd.C Kd.string w A 3 [mk a, mk b, mk c]) (hl : c.length ≤ 1000000) :
  Calls Tryd.prog 51 #[.slice A 3 cap] w fun e w' => e = .returned (.tuple #[.agg (cR r), .bool ok]) ∧ Below w.heap.size w w' := by
 have h := request_walk a b c A cap w hC hl
 rw [hr] at h
 exact h
theorem reqF_short {a b c : List UInt8} (h : (reqF a b c).2 = true) : (reqF a b c).1.f2.f2.size + (reqF a b c).1.f2.f3.size ≤ 1000000 := by
 by_cases hc : a.length = 1 ∧ b.length = 4
 ·
  unfold reqF at h ⊢
  rw [if_pos hc] at h ⊢
  obtain ⟨k, e, n, b', h1, h2, _⟩ := rcA_back (l := c) (by simpa using h)
  rw [h1]
  show (mk n).size + (mk b').size ≤ 1000000
  rw [mk_size, mk_size]
  unfold okC at h2
  omega
 ·
  unfold reqF at h
  rw [if_neg hc] at h
  cases h
theorem rqs_short {ts : List (List UInt8)} {m : Nat} (h : ∀ i, i < m → (rq ts i).2 = true) : shortQ (rqs ts m) := by
 intro r hr
 obtain ⟨i, hi, rfl⟩ := List.mem_map.1 hr
 exact reqF_short (h i (List.mem_range.1 hi))
theorem info53 : (Tryd.prog.info? 53).map (fun i => (i.zero, i.size, i.bytes)) = some (some (.agg (cR z53)), 6, 64) := by kernel_rfl
theorem getD_mk (ts : List (List UInt8)) (i : Nat) : some (Value.string ((ts.map mk).getD i ⟨#[]⟩)) = some (Value.string (mk (ts.getD i []))) := by
 rw [List.getD_eq_getElem?_getD, List.getElem?_map, List.getD_eq_getElem?_getD]
 cases ts[i]? <;> rfl
set_option maxHeartbeats 16000000 in
set_option maxRecDepth 100000 in
theorem read_walk (ts : List (List UInt8)) (A : Option Addr) (n cap : Nat) (w : World) (hn : n = ts.length) (hC : Kd.C Kd.string w A n (ts.map mk)) (hnc : n ≤ cap) (hm : n ≤ 3000) (hs : ∀ t ∈ ts, t.length ≤ 1000000) :
  Calls Tryd.prog 33 #[.slice A n cap] w (ReadA ts w) := by
 have HN := sqA hn
 have HC := sqA hC
 have HS := sqA hs
 clear hn hC hs
 by_cases h1 : n < 2
 ·
  have t1 : decide ((n : Int) < 2) = true := decide_eq_true (by omega)
  have HR : Aside0 (readF ts = (noB, false)) := ⟨readF_neg (fun h => by have := h.1.1; have := HN.out; omega)⟩
  clear h1
  go_enter Tryd.func33, Tryd.ntmps33
  go_wp2_with (first | ((with_reducible refine gate_dst (N := 2) rfl ?_); refine sqo (N := 2) (cs := #[.int .i64 0, .string ⟨#[]⟩, .slice none 0 0]) (t := 24) ?_; intro g2 hg2 w2 hbox2 hb2; have HX2 := sqA hbox2; have HB2 := sqA hb2; have HGE2 := sqA (show w.heap.size ≤ g2 by rw [hg2]; exact Nat.le_refl _); obtain ⟨y0, yz0, y1, yz1, y2, yz2⟩ := sq3 hbox2; clear hg2 hbox2 hb2))
  exact bodyPost_ret (results_ct rfl _ _ g2 24 #[.int .i64 0, .string ⟨#[]⟩, .slice none 0 0] (0, 0) _ rfl (show (set3 w2 g2 0 ⟨#[]⟩ (.slice none 0 0)).heap[g2]? = _ from set3_blk HX2.out _ _ _) Tryd.underlying24 rfl (by kernel_rfl)) rfl (by exact readA_no HR.out (show Below w.heap.size w (set3 w2 g2 0 ⟨#[]⟩ (.slice none 0 0)) from set3_below HB2.out HGE2.out _ _ _))
 have t1 : decide ((n : Int) < 2) = false := decide_eq_false (by omega)
 have q1 : wrap64 ((n : Int) - 2) = (n : Int) - 2 := by rw [w64 (by omega) (by omega)]
 have etm : Int.tmod ((n : Int) - 2) 3 = ((n : Int) - 2) % 3 := Int.tmod_eq_emod_of_nonneg (by omega)
 by_cases h2 : ¬ (n - 2) % 3 = 0
 ·
  have t2 : (((n : Int) - 2) % 3 != 0) = true := bne_iff_ne.2 (by omega)
  have HR : Aside0 (readF ts = (noB, false)) := ⟨readF_neg (fun h => by have := h.1.2.1; rw [← HN.out] at this; exact h2 this)⟩
  clear h2
  go_enter Tryd.func33, Tryd.ntmps33
  go_wp2_with (first | ((with_reducible refine gate_dst (N := 2) rfl ?_); refine sqo (N := 2) (cs := #[.int .i64 0, .string ⟨#[]⟩, .slice none 0 0]) (t := 24) ?_; intro g2 hg2 w2 hbox2 hb2; have HX2 := sqA hbox2; have HB2 := sqA hb2; have HGE2 := sqA (show w.heap.size ≤ g2 by rw [hg2]; exact Nat.le_refl _); obtain ⟨y0, yz0, y1, yz1, y2, yz2⟩ := sq3 hbox2; clear hg2 hbox2 hb2))
  exact bodyPost_ret (results_ct rfl _ _ g2 24 #[.int .i64 0, .string ⟨#[]⟩, .slice none 0 0] (0, 0) _ rfl (show (set3 w2 g2 0 ⟨#[]⟩ (.slice none 0 0)).heap[g2]? = _ from set3_blk HX2.out _ _ _) Tryd.underlying24 rfl (by kernel_rfl)) rfl (by exact readA_no HR.out (show Below w.heap.size w (set3 w2 g2 0 ⟨#[]⟩ (.slice none 0 0)) from set3_below HB2.out HGE2.out _ _ _))
 have h2 : (n - 2) % 3 = 0 := Classical.not_not.1 h2
 have t2 : (((n : Int) - 2) % 3 != 0) = false := by rw [show ((n : Int) - 2) % 3 = 0 by omega]; rfl
 have hn2 : 0 < n := by omega
 have H2n := sqA hn2
 obtain ⟨ad, rfl, sof⟩ := strs_at HC.out hn2
 have HSF := sqA sof
 obtain ⟨m, hm3⟩ : ∃ m, n = 2 + 3 * m := ⟨(n - 2) / 3, by omega⟩
 have HM3 := sqA hm3
 have HMD : Aside0 ((n - 2) / 3 = m) := ⟨by omega⟩
 clear hm3
 obtain ⟨T0, hT0⟩ : ∃ T0, T0 = ts.getD 0 [] := ⟨_, rfl⟩
 obtain ⟨T1, hT1⟩ : ∃ T1, T1 = ts.getD 1 [] := ⟨_, rfl⟩
 have HSF0 : Aside0 (∀ w', Below w.heap.size w w' → w'.cell? ad = some (.string (mk T0))) := ⟨fun w' hb => by rw [hT0]; exact (sof w' hb 0 hn2).trans (getD_mk _ _)⟩
 have HSF1 : Aside0 (∀ w', Below w.heap.size w w' → w'.cell? ⟨ad.block, ad.off + 1, none⟩ = some (.string (mk T1))) := ⟨fun w' hb => by rw [hT1]; exact (sof w' hb 1 (by omega)).trans (getD_mk _ _)⟩
 have HT0 := sqA hT0
 have HT1 := sqA hT1
 clear hT0 hT1
 have hsz1 : ((mk T0).size : Int) = (T0.length : Int) := by rw [mk_size]
 by_cases h3 : ¬ T0.length = 1
 ·
  have t3 : (((mk T0).size : Int) != 1) = true := bne_iff_ne.2 (by rw [hsz1]; omega)
  have HR : Aside0 (readF ts = (noB, false)) := ⟨readF_neg (fun h => h3 (by rw [HT0.out]; exact h.1.2.2))⟩
  clear h2 h3 hsz1 sof
  go_enter Tryd.func33, Tryd.ntmps33
  go_wp2_with (first | ((with_reducible refine gate_dst (N := 2) rfl ?_); refine sqo (N := 2) (cs := #[.int .i64 0, .string ⟨#[]⟩, .slice none 0 0]) (t := 24) ?_; intro g2 hg2 w2 hbox2 hb2; have HX2 := sqA hbox2; have HB2 := sqA hb2; have HGE2 := sqA (show w.heap.size ≤ g2 by rw [hg2]; exact Nat.le_refl _); have s0 : w2.cell? ad = some (.string (mk T0)) := HSF0.out _ HB2.out; obtain ⟨y0, yz0, y1, yz1, y2, yz2⟩ := sq3 hbox2; clear hg2 hbox2 hb2))
  exact bodyPost_ret (results_ct rfl _ _ g2 24 #[.int .i64 0, .string ⟨#[]⟩, .slice none 0 0] (0, 0) _ rfl (show (set3 w2 g2 0 ⟨#[]⟩ (.slice none 0 0)).heap[g2]? = _ from set3_blk HX2.out _ _ _) Tryd.underlying24 rfl (by kernel_rfl)) rfl (by exact readA_no HR.out (show Below w.heap.size w (set3 w2 g2 0 ⟨#[]⟩ (.slice none 0 0)) from set3_below HB2.out HGE2.out _ _ _))
 have h3 : T0.length = 1 := Classical.not_not.1 h3
 have t3 : (((mk T0).size : Int) != 1) = false := by rw [hsz1, h3]; rfl
 have hps : 0 < (mk T0).size := by rw [mk_size, h3]; decide
 obtain ⟨X, hX, hb0⟩ : ∃ X : Nat, ((mk T0)[0]'hps).toNat = X ∧ b0 T0 = (X : Int) := one0 h3 hps
 have hX2 : X < 256 := by rw [← hX]; exact UInt8.toNat_lt _
 have qx : wrap64 (X : Int) = (X : Int) := by rw [w64 (by omega) (by omega)]
 have HB0 := sqA hb0
 have H1 := sqA h1
 have H2 := sqA h2
 have H3 := sqA h3
 clear hb0 h1 h2 h3 hsz1 sof
 go_enter Tryd.func33, Tryd.ntmps33
 go_wp2_with (first | ((with_reducible refine gate_dst (N := 2) rfl ?_); refine sqo (N := 2) (cs := #[.int .i64 0, .string ⟨#[]⟩, .slice none 0 0]) (t := 24) ?_; intro g2 hg2 w2 hbox2 hb2; have HX2 := sqA hbox2; have HB2 := sqA hb2; have HGE2 := sqA (show w.heap.size ≤ g2 by rw [hg2]; exact Nat.le_refl _); have s0 : w2.cell? ad = some (.string (mk T0)) := HSF0.out _ HB2.out; obtain ⟨y0, yz0, y1, yz1, y2, yz2⟩ := sq3 hbox2; clear hg2 hbox2 hb2))
 have s1 : w2.cell? ⟨ad.block, ad.off + 1, none⟩ = some (.string (mk T1)) := (HSF1.out _ HB2.out)
 have hn1 : 1 < n := by have := H1.out; omega
 have hn1' : (1 : Int) < (n : Int) := by omega
 refine wp_region_held_drew (S := fun w' => w'.cell? ad = some (.string (mk T0)) ∧ w'.cell? ⟨ad.block, ad.off + 1, none⟩ = some (.string (mk T1))) (by kernel_rfl) ⟨HSF0.out _ (below_drew HB2.out), HSF1.out _ (below_drew HB2.out)⟩ (fun hHeld => ?_)
 (refine wpAnyH_take (i := 0) (v := ?hv1) rfl (by kernel_rfl) (by kernel_rfl) (by kernel_rfl) (fun _ _ _ h => h) (Or.inl ⟨by rfl, ?hy1⟩) (by assumption) ?hrest1; (case hy1 => (intro w hSw; obtain ⟨sA, sB⟩ := hSw; first | (go_simp; done) | (go_simp; with_reducible rfl))); (try simp only [Act.put, List.getElem_toArray, List.getElem_cons_succ, List.getElem_cons_zero, List.setIfInBounds_toArray, List.set_cons_zero, List.set_cons_succ]))
 (refine wpAnyH_take (i := 1) (v := ?hv2) rfl (by kernel_rfl) (by kernel_rfl) (by kernel_rfl) (fun _ _ _ h => h) (Or.inl ⟨by rfl, ?hy2⟩) (by assumption) ?hrest2; (case hy2 => (intro w hSw; obtain ⟨sA, sB⟩ := hSw; first | (go_simp; done) | (go_simp; with_reducible rfl))); (try simp only [Act.put, List.getElem_toArray, List.getElem_cons_succ, List.getElem_cons_zero, List.setIfInBounds_toArray, List.set_cons_zero, List.set_cons_succ]))
 (refine wpAnyH_take (i := 2) (v := ?hv3) rfl (by kernel_rfl) (by kernel_rfl) (by kernel_rfl) (fun _ _ _ h => h) (Or.inl ⟨by rfl, ?hy3⟩) (by assumption) ?hrest3; (case hy3 => (intro w hSw; obtain ⟨sA, sB⟩ := hSw; first | (go_simp; done) | (go_simp; with_reducible rfl))); (try simp only [Act.put, List.getElem_toArray, List.getElem_cons_succ, List.getElem_cons_zero, List.setIfInBounds_toArray, List.set_cons_zero, List.set_cons_succ]))
 (refine wpAnyH_take (i := 3) (v := ?hv4) rfl (by kernel_rfl) (by kernel_rfl) (by kernel_rfl) (fun _ _ _ h => h) (Or.inl ⟨by rfl, ?hy4⟩) (by assumption) ?hrest4; (case hy4 => (intro w hSw; obtain ⟨sA, sB⟩ := hSw; first | (go_simp; done) | (go_simp; with_reducible rfl))); (try simp only [Act.put, List.getElem_toArray, List.getElem_cons_succ, List.getElem_cons_zero, List.setIfInBounds_toArray, List.set_cons_zero, List.set_cons_succ]))
 (refine wpAnyH_take (i := 4) (v := ?hv5) rfl (by kernel_rfl) (by kernel_rfl) (by kernel_rfl) (fun _ _ _ h => h) (Or.inl ⟨by rfl, ?hy5⟩) (by assumption) ?hrest5; (case hy5 => (intro w hSw; obtain ⟨sA, sB⟩ := hSw; first | (go_simp; done) | (go_simp; with_reducible rfl))); (try simp only [Act.put, List.getElem_toArray, List.getElem_cons_succ, List.getElem_cons_zero, List.setIfInBounds_toArray, List.set_cons_zero, List.set_cons_succ]))
 (refine wpAnyH_take (i := 5) (v := ?hv6) rfl (by kernel_rfl) (by kernel_rfl) (by kernel_rfl) (fun _ _ _ h => h) (Or.inl ⟨by rfl, ?hy6⟩) (by assumption) ?hrest6; (case hy6 => (intro w hSw; obtain ⟨sA, sB⟩ := hSw; first | (go_simp; done) | (go_simp; with_reducible rfl))); (try simp only [Act.put, List.getElem_toArray, List.getElem_cons_succ, List.getElem_cons_zero, List.setIfInBounds_toArray, List.set_cons_zero, List.set_cons_succ]))
 (refine wpAnyH_take (i := 6) (v := ?hv7) rfl (by kernel_rfl) (by kernel_rfl) (by kernel_rfl) (fun _ _ _ h => h) (Or.inl ⟨by rfl, ?hy7⟩) (by assumption) ?hrest7; (case hy7 => (intro w hSw; obtain ⟨sA, sB⟩ := hSw; first | (go_simp; done) | (go_simp; with_reducible rfl))); (try simp only [Act.put, List.getElem_toArray, List.getElem_cons_succ, List.getElem_cons_zero, List.setIfInBounds_toArray, List.set_cons_zero, List.set_cons_succ]))
 (refine wpAnyH_take (i := 7) (v := ?hv8) rfl (by kernel_rfl) (by kernel_rfl) (by kernel_rfl) (fun _ _ _ h => h) (Or.inl ⟨by rfl, ?hy8⟩) (by assumption) ?hrest8; (case hy8 => (intro w hSw; obtain ⟨sA, sB⟩ := hSw; first | (go_simp; done) | (go_simp; with_reducible rfl))); (try simp only [Act.put, List.getElem_toArray, List.getElem_cons_succ, List.getElem_cons_zero, List.setIfInBounds_toArray, List.set_cons_zero, List.set_cons_succ]))
 (refine wpAnyH_take (i := 8) (v := ?hv9) rfl (by kernel_rfl) (by kernel_rfl) (by kernel_rfl) (fun _ _ _ h => h) (Or.inl ⟨by rfl, ?hy9⟩) (by assumption) ?hrest9; (case hy9 => (intro w hSw; obtain ⟨sA, sB⟩ := hSw; first | (go_simp; done) | (go_simp; with_reducible rfl))); (try simp only [Act.put, List.getElem_toArray, List.getElem_cons_succ, List.getElem_cons_zero, List.setIfInBounds_toArray, List.set_cons_zero, List.set_cons_succ]))
 refine wpAnyH_ready (rs := [9]) (by kernel_rfl) (by simp) ?_
 refine AllReadyH.cons rfl (fun K hK => ?_) AllReadyH.nil
 go_simp
 refine hK.out _ _ ⟨HSF0.out _ (below_drew (below_alloc HB2.out _)), HSF1.out _ (below_drew (below_alloc HB2.out _))⟩ (fun hHeld => ?_)
 clear hK K
 refine wpAnyH_ready (rs := [10]) (by kernel_rfl) (by simp) ?_
 refine AllReadyH.cons rfl (fun K hK => ?_) AllReadyH.nil
 go_simp
 have qx2 := wrapX hX2
 rw [qx2]
 refine hK.out _ _ ⟨HSF0.out _ (below_drew (below_alloc HB2.out _)), HSF1.out _ (below_drew (below_alloc HB2.out _))⟩ (fun hHeld => ?_)
 refine wpAnyH_done (by kernel_rfl) ?_ _
 clear hK K
 clear hHeld
 obtain ⟨w4, hw4⟩ : ∃ w4, w4 = (w2.alloc (.cells #[.int .i64 (X : Int), .string (mk T1), .slice none 0 0] 24)).drew := ⟨_, rfl⟩
 rw [← hw4]
 obtain ⟨g4, hg4⟩ : ∃ g4, g4 = w2.heap.size := ⟨_, rfl⟩
 rw [← hg4]
 have HX4 : Aside0 (w4.heap[g4]? = some (.cells #[.int .i64 (X : Int), .string (mk T1), .slice none 0 0] 24 (0, 0))) := ⟨by rw [hw4, hg4]; exact blk_drew (blk_new w2 _)⟩
 have HY4 : Aside0 (w4.heap[g2]? = some (.cells #[.int .i64 0, .string ⟨#[]⟩, .slice none 0 0] 24 (0, 0))) := ⟨by rw [hw4]; exact blk_drew (blk_alloc HX2.out _)⟩
 have HB4 : Aside0 (Below w.heap.size w w4) := ⟨by rw [hw4]; exact below_drew (below_alloc HB2.out _)⟩
 have HGE4 : Aside0 (w.heap.size ≤ g4) := ⟨by rw [hg4]; exact HB2.out.size⟩
 have HNE : Aside0 (g4 ≠ g2) := ⟨by rw [hg4]; exact Nat.ne_of_gt (blk_lt HX2.out)⟩
 have HNE' : Aside0 (g2 ≠ g4) := ⟨by rw [hg4]; exact Nat.ne_of_lt (blk_lt HX2.out)⟩
 clear q1 qx qx2 etm h2 h3 hX2 hw4 hg4 hHeld y0 yz0 y1 yz1 y2 yz2 s0 s1 hX hps hn1 hn1' t1 t2 t3
 go_wp2
 go_loopg [5] m (fun kq v5 w' => ∃ (I j : Nat) (V : Value), v5 = .int .i64 (I : Int) ∧ Aside0 (I = 2 + 3 * j) ∧ Aside0 (j + kq = m) ∧ Aside0 (w'.heap[g4]? = some (.cells #[.int .i64 (X : Int), .string (mk T1), V] 24 (0, 0))) ∧ Aside0 (w'.heap[g2]? = some (.cells #[.int .i64 0, .string ⟨#[]⟩, .slice none 0 0] 24 (0, 0))) ∧ Aside0 (k53.R 53 w' w.heap.size (fun _ => True) V (rqs ts j)) ∧ Aside0 (∀ i, i < j → (rq ts i).2 = true) ∧ Aside0 (Below w.heap.size w w'))
 case atStart => exact ⟨2, 0, _, rfl, ⟨rfl⟩, ⟨by omega⟩, HX4, HY4, ⟨Kd.R_nil _ _ _ _ _⟩, ⟨fun i hi => absurd hi (Nat.not_lt_zero i)⟩, HB4⟩
 case round =>
  obtain ⟨I, j, V, rfl, HI, HJ, HXr, HYr, HRr, HAr, HBr⟩ := hrel
  have hj := HJ.out
  by_cases hat : j < m
  ·
   obtain ⟨k1, rfl⟩ : ∃ k1, gk = k1 + 1 := ⟨gk - 1, by omega⟩
   have hI3 : I + 3 ≤ n := by have := HI.out; have := HM3.out; omega
   have hlt : decide ((I : Int) < (n : Int)) = true := decide_eq_true (by omega)
   have q3 : wrap64 ((I : Int) + 3) = (I : Int) + 3 := by rw [w64 (by omega) (by omega)]
   have b1 : (I : Int) ≤ (I : Int) + 3 := by omega
   have b2 : (I : Int) + 3 ≤ (cap : Int) := by omega
   have b3 : (I : Int) + 3 ≤ (n : Int) := by omega
   have b4 : ((I : Int) + 3 - (I : Int)).toNat = 3 := by omega
   have HC3 : Aside0 (Kd.C Kd.string w (some (ad.add I)) 3 [mk (ts.getD I []), mk (ts.getD (I + 1) []), mk (ts.getD (I + 2) [])]) := ⟨C_three HC.out HN.out hI3⟩
   have HL3 : Aside0 ((ts.getD (I + 2) []).length ≤ 1000000) := ⟨len_getD HS.out _⟩
   have HRQ : Aside0 (rq ts j = reqF (ts.getD I []) (ts.getD (I + 1) []) (ts.getD (I + 2) [])) := ⟨by rw [HI.out]; unfold rq; rw [show 3 + 3 * j = 2 + 3 * j + 1 by omega, show 4 + 3 * j = 2 + 3 * j + 2 by omega]⟩
   generalize ts.getD I [] = ta at *
   generalize ts.getD (I + 1) [] = tb at *
   generalize ts.getD (I + 2) [] = tc at *
   have HJ1 : Aside0 (j + 1 + k1 = m) := ⟨by omega⟩
   clear HJ
   obtain ⟨r, ok, hr⟩ : ∃ r ok, reqF ta tb tc = (r, ok) := ⟨_, _, rfl⟩
   have HREQ := sqA hr
   clear hr
   cases ok with
   | true =>
    go_wp2_with (first | ((with_reducible refine gate_dst (N := 6) rfl ?_); refine sqo (N := 6) (cs := #[.int .i64 0, .int .i64 0, .int .i64 0, .int .i64 0, .string ⟨#[]⟩, .string ⟨#[]⟩]) (t := 53) ?_; intro g6 hg6 w6 hbox6 hb6; have HG6 := sqA hbox6; have HB6 := sqA hb6; have HGE6 := sqA (show w5.heap.size ≤ g6 by rw [hg6]; exact Nat.le_refl _); have v0 : w6.cell? ⟨g6, 0, none⟩ = some (.int .i64 0) := (blk_cell hbox6 0).trans rfl; have vz0 : w6.frozen? ⟨g6, 0, none⟩ = false := blk_frozen hbox6 0; have v1 : w6.cell? ⟨g6, 1, none⟩ = some (.int .i64 0) := (blk_cell hbox6 1).trans rfl; have vz1 : w6.frozen? ⟨g6, 1, none⟩ = false := blk_frozen hbox6 1; have v2 : w6.cell? ⟨g6, 2, none⟩ = some (.int .i64 0) := (blk_cell hbox6 2).trans rfl; have vz2 : w6.frozen? ⟨g6, 2, none⟩ = false := blk_frozen hbox6 2; have v3 : w6.cell? ⟨g6, 3, none⟩ = some (.int .i64 0) := (blk_cell hbox6 3).trans rfl; have vz3 : w6.frozen? ⟨g6, 3, none⟩ = false := blk_frozen hbox6 3; have v4 : w6.cell? ⟨g6, 4, none⟩ = some (.string ⟨#[]⟩) := (blk_cell hbox6 4).trans rfl; have vz4 : w6.frozen? ⟨g6, 4, none⟩ = false := blk_frozen hbox6 4; have v5 : w6.cell? ⟨g6, 5, none⟩ = some (.string ⟨#[]⟩) := (blk_cell hbox6 5).trans rfl; have vz5 : w6.frozen? ⟨g6, 5, none⟩ = false := blk_frozen hbox6 5; clear hg6 hbox6 hb6))
    refine (request_is HREQ.out (some (ad.add I)) 3 _ (Kd.C_below HC3.out HBr.out) HL3.out).mono ?_
    rintro e w5 ⟨rfl, hb⟩
    simp only [cR]
    have HX5 := sqA (blk_below HXr.out hb); have HY5 := sqA (blk_below HYr.out hb); have HR5 := sqA (Kd.R_below HRr.out hb); have HB5 := sqA (below_step HBr.out hb); clear hb
    go_wp2_with (first | ((with_reducible refine gate_dst (N := 6) rfl ?_); refine sqo (N := 6) (cs := #[.int .i64 0, .int .i64 0, .int .i64 0, .int .i64 0, .string ⟨#[]⟩, .string ⟨#[]⟩]) (t := 53) ?_; intro g6 hg6 w6 hbox6 hb6; have HG6 := sqA hbox6; have HB6 := sqA hb6; have HGE6 := sqA (show w5.heap.size ≤ g6 by rw [hg6]; exact Nat.le_refl _); have v0 : w6.cell? ⟨g6, 0, none⟩ = some (.int .i64 0) := (blk_cell hbox6 0).trans rfl; have vz0 : w6.frozen? ⟨g6, 0, none⟩ = false := blk_frozen hbox6 0; have v1 : w6.cell? ⟨g6, 1, none⟩ = some (.int .i64 0) := (blk_cell hbox6 1).trans rfl; have vz1 : w6.frozen? ⟨g6, 1, none⟩ = false := blk_frozen hbox6 1; have v2 : w6.cell? ⟨g6, 2, none⟩ = some (.int .i64 0) := (blk_cell hbox6 2).trans rfl; have vz2 : w6.frozen? ⟨g6, 2, none⟩ = false := blk_frozen hbox6 2; have v3 : w6.cell? ⟨g6, 3, none⟩ = some (.int .i64 0) := (blk_cell hbox6 3).trans rfl; have vz3 : w6.frozen? ⟨g6, 3, none⟩ = false := blk_frozen hbox6 3; have v4 : w6.cell? ⟨g6, 4, none⟩ = some (.string ⟨#[]⟩) := (blk_cell hbox6 4).trans rfl; have vz4 : w6.frozen? ⟨g6, 4, none⟩ = false := blk_frozen hbox6 4; have v5 : w6.cell? ⟨g6, 5, none⟩ = some (.string ⟨#[]⟩) := (blk_cell hbox6 5).trans rfl; have vz5 : w6.frozen? ⟨g6, 5, none⟩ = false := blk_frozen hbox6 5; clear hg6 hbox6 hb6) | ((with_reducible refine gate_store (t := 53) (p := 6) (v := .tmp 50) rfl ?_); refine sqp (w1 := (set6 w6 g6 r)) ?_; intro w7 hw7; have hg7 : w7.heap[g6]? = some (.cells (cR r) 53 (0, 0)) := (by rw [hw7]; exact set6_blk HG6.out r); have hb57 : Below w5.heap.size w5 w7 := (by rw [hw7]; exact set6_below HB6.out HGE6.out r); have HX7 := sqA (blk_below HX5.out hb57); have HY7 := sqA (blk_below HY5.out hb57); have HR7 := sqA (Kd.R_below HR5.out hb57); have HB7 := sqA (below_step HB5.out hb57); have c2 : w7.cell? ⟨g4, 2, none⟩ = some V := (blk_cell HX7.out 2).trans rfl; have u0 : w7.cell? ⟨g6, 0, none⟩ = some (.int .i64 r.f0) := (blk_cell hg7 0).trans rfl; have u1 : w7.cell? ⟨g6, 1, none⟩ = some (.int .i64 r.f1) := (blk_cell hg7 1).trans rfl; have u2 : w7.cell? ⟨g6, 2, none⟩ = some (.int .i64 r.f2.f0) := (blk_cell hg7 2).trans rfl; have u3 : w7.cell? ⟨g6, 3, none⟩ = some (.int .i64 r.f2.f1) := (blk_cell hg7 3).trans rfl; have u4 : w7.cell? ⟨g6, 4, none⟩ = some (.string r.f2.f2) := (blk_cell hg7 4).trans rfl; have u5 : w7.cell? ⟨g6, 5, none⟩ = some (.string r.f2.f3) := (blk_cell hg7 5).trans rfl; clear hw7 hg7 hb57) | ((with_reducible refine gate_builtin (b := .append) (xs := #[.tmp 56, .tmp 58]) rfl ?_); at_builtin; refine Kd.R_append k53 (w0 := w) w.heap.size rfl (.tmp 56) (.tmp 58) 22 53 (.agg (cR z53)) 64 rfl Tryd.underlying22 info53 rfl (by decide) (by decide) V (rqs ts j) r [.int .i64 r.f0, .int .i64 r.f1, .int .i64 r.f2.f0, .int .i64 r.f2.f1, .string r.f2.f2, .string r.f2.f3] (fun _ => True) (fun _ => False) rfl rfl (k53_mkM _ _ _ r) (fun _ hk => hk.elim) (fun _ _ => trivial) HR7.out HB7.out HB7.out.size (by rw [rqs_len]; have := HM3.out; omega) ?_; intro v8 w8 hr8 hb8 hg8 hat8; obtain ⟨A8, c8, rfl⟩ := Kd.R_slice hr8; rw [List.length_append, List.length_singleton] at hr8 ⊢; have hx8 := blk_grown HX7.out hg8 (Kd.R_ne HR7.out HX7.out (by decide)); have HX8 := sqA hx8; have HY8 := sqA (blk_grown HY7.out hg8 (Kd.R_ne HR7.out HY7.out (by decide))); have HR8 := sqA hr8; have HB8 := sqA hb8; have d2 : w8.cell? ⟨g4, 2, none⟩ = some V := (blk_cell hx8 2).trans rfl; have dz2 : w8.frozen? ⟨g4, 2, none⟩ = false := blk_frozen hx8 2; clear hr8 hb8 hg8 hat8 hx8))
    go_roundg k1
    case measure => omega
    case rel => exact ⟨I + 3, j + 1, .slice A8 ((rqs ts j).length + 1) c8, by first | rfl | (simp; done), ⟨by rw [HI.out]; omega⟩, HJ1, ⟨by simpa using blk_set HX8.out 2 (.slice A8 ((rqs ts j).length + 1) c8)⟩, ⟨blk_far HY8.out HNE'.out _⟩, ⟨by rw [rqs_succ, HRQ.out, HREQ.out]; exact Kd.R_set HR8.out HX8.out (by decide) 2 _⟩, ⟨fun i hi => by rcases Nat.lt_succ_iff_lt_or_eq.1 hi with h | h; exact HAr.out i h; rw [h, HRQ.out, HREQ.out]⟩, ⟨Below.setCell HB8.out HGE4.out _⟩⟩
   | false =>
    have HR : Aside0 (readF ts = (noB, false)) := ⟨readF_neg (fun h => by have := h.2 j (by rw [← HN.out, HMD.out]; exact hat); rw [HRQ.out, HREQ.out] at this; cases this)⟩
    go_wp2_with (first | ((with_reducible refine gate_dst (N := 6) rfl ?_); refine sqo (N := 6) (cs := #[.int .i64 0, .int .i64 0, .int .i64 0, .int .i64 0, .string ⟨#[]⟩, .string ⟨#[]⟩]) (t := 53) ?_; intro g6 hg6 w6 hbox6 hb6; have HG6 := sqA hbox6; have HB6 := sqA hb6; have HGE6 := sqA (show w5.heap.size ≤ g6 by rw [hg6]; exact Nat.le_refl _); have v0 : w6.cell? ⟨g6, 0, none⟩ = some (.int .i64 0) := (blk_cell hbox6 0).trans rfl; have vz0 : w6.frozen? ⟨g6, 0, none⟩ = false := blk_frozen hbox6 0; have v1 : w6.cell? ⟨g6, 1, none⟩ = some (.int .i64 0) := (blk_cell hbox6 1).trans rfl; have vz1 : w6.frozen? ⟨g6, 1, none⟩ = false := blk_frozen hbox6 1; have v2 : w6.cell? ⟨g6, 2, none⟩ = some (.int .i64 0) := (blk_cell hbox6 2).trans rfl; have vz2 : w6.frozen? ⟨g6, 2, none⟩ = false := blk_frozen hbox6 2; have v3 : w6.cell? ⟨g6, 3, none⟩ = some (.int .i64 0) := (blk_cell hbox6 3).trans rfl; have vz3 : w6.frozen? ⟨g6, 3, none⟩ = false := blk_frozen hbox6 3; have v4 : w6.cell? ⟨g6, 4, none⟩ = some (.string ⟨#[]⟩) := (blk_cell hbox6 4).trans rfl; have vz4 : w6.frozen? ⟨g6, 4, none⟩ = false := blk_frozen hbox6 4; have v5 : w6.cell? ⟨g6, 5, none⟩ = some (.string ⟨#[]⟩) := (blk_cell hbox6 5).trans rfl; have vz5 : w6.frozen? ⟨g6, 5, none⟩ = false := blk_frozen hbox6 5; clear hg6 hbox6 hb6))
    refine (request_is HREQ.out (some (ad.add I)) 3 _ (Kd.C_below HC3.out HBr.out) HL3.out).mono ?_
    rintro e w5 ⟨rfl, hb⟩
    simp only [cR]
    have HX5 := sqA (blk_below HXr.out hb); have HY5 := sqA (blk_below HYr.out hb); have HR5 := sqA (Kd.R_below HRr.out hb); have HB5 := sqA (below_step HBr.out hb); clear hb
    go_wp2_with (first | ((with_reducible refine gate_dst (N := 6) rfl ?_); refine sqo (N := 6) (cs := #[.int .i64 0, .int .i64 0, .int .i64 0, .int .i64 0, .string ⟨#[]⟩, .string ⟨#[]⟩]) (t := 53) ?_; intro g6 hg6 w6 hbox6 hb6; have HG6 := sqA hbox6; have HB6 := sqA hb6; have HGE6 := sqA (show w5.heap.size ≤ g6 by rw [hg6]; exact Nat.le_refl _); have v0 : w6.cell? ⟨g6, 0, none⟩ = some (.int .i64 0) := (blk_cell hbox6 0).trans rfl; have vz0 : w6.frozen? ⟨g6, 0, none⟩ = false := blk_frozen hbox6 0; have v1 : w6.cell? ⟨g6, 1, none⟩ = some (.int .i64 0) := (blk_cell hbox6 1).trans rfl; have vz1 : w6.frozen? ⟨g6, 1, none⟩ = false := blk_frozen hbox6 1; have v2 : w6.cell? ⟨g6, 2, none⟩ = some (.int .i64 0) := (blk_cell hbox6 2).trans rfl; have vz2 : w6.frozen? ⟨g6, 2, none⟩ = false := blk_frozen hbox6 2; have v3 : w6.cell? ⟨g6, 3, none⟩ = some (.int .i64 0) := (blk_cell hbox6 3).trans rfl; have vz3 : w6.frozen? ⟨g6, 3, none⟩ = false := blk_frozen hbox6 3; have v4 : w6.cell? ⟨g6, 4, none⟩ = some (.string ⟨#[]⟩) := (blk_cell hbox6 4).trans rfl; have vz4 : w6.frozen? ⟨g6, 4, none⟩ = false := blk_frozen hbox6 4; have v5 : w6.cell? ⟨g6, 5, none⟩ = some (.string ⟨#[]⟩) := (blk_cell hbox6 5).trans rfl; have vz5 : w6.frozen? ⟨g6, 5, none⟩ = false := blk_frozen hbox6 5; clear hg6 hbox6 hb6) | ((with_reducible refine gate_store (t := 53) (p := 6) (v := .tmp 50) rfl ?_); refine sqp (w1 := (set6 w6 g6 r)) ?_; intro w7 hw7; have hg7 : w7.heap[g6]? = some (.cells (cR r) 53 (0, 0)) := (by rw [hw7]; exact set6_blk HG6.out r); have hb57 : Below w5.heap.size w5 w7 := (by rw [hw7]; exact set6_below HB6.out HGE6.out r); have HX7 := sqA (blk_below HX5.out hb57); have HY7 := sqA (blk_below HY5.out hb57); have HR7 := sqA (Kd.R_below HR5.out hb57); have HB7 := sqA (below_step HB5.out hb57); have c2 : w7.cell? ⟨g4, 2, none⟩ = some V := (blk_cell HX7.out 2).trans rfl; have u0 : w7.cell? ⟨g6, 0, none⟩ = some (.int .i64 r.f0) := (blk_cell hg7 0).trans rfl; have u1 : w7.cell? ⟨g6, 1, none⟩ = some (.int .i64 r.f1) := (blk_cell hg7 1).trans rfl; have u2 : w7.cell? ⟨g6, 2, none⟩ = some (.int .i64 r.f2.f0) := (blk_cell hg7 2).trans rfl; have u3 : w7.cell? ⟨g6, 3, none⟩ = some (.int .i64 r.f2.f1) := (blk_cell hg7 3).trans rfl; have u4 : w7.cell? ⟨g6, 4, none⟩ = some (.string r.f2.f2) := (blk_cell hg7 4).trans rfl; have u5 : w7.cell? ⟨g6, 5, none⟩ = some (.string r.f2.f3) := (blk_cell hg7 5).trans rfl; obtain ⟨y0, yz0, y1, yz1, y2, yz2⟩ := sq3 HY7.out; clear hw7 hg7 hb57))
    exact bodyPost_ret (results_ct rfl _ _ g2 24 #[.int .i64 0, .string ⟨#[]⟩, .slice none 0 0] (0, 0) _ rfl (show (set3 w7 g2 0 ⟨#[]⟩ (.slice none 0 0)).heap[g2]? = _ from set3_blk HY7.out _ _ _) Tryd.underlying24 rfl (by kernel_rfl)) rfl (by exact readA_no HR.out (show Below w.heap.size w (set3 w7 g2 0 ⟨#[]⟩ (.slice none 0 0)) from set3_below HB7.out HGE2.out _ _ _))
  ·
   obtain rfl : gk = 0 := by omega
   obtain rfl : j = m := by omega
   have hge : decide ((I : Int) < (n : Int)) = false := decide_eq_false (by have := HI.out; have := HM3.out; omega)
   have hge2 : ¬ I < n := by have := HI.out; have := HM3.out; omega
   have hr9 := HRr.out
   obtain ⟨A9, c9, rfl, hc9, hC9⟩ := Kd.R_reads hr9
   have hxj := HXr.out
   rw [rqs_len] at hc9 hC9 hxj
   have HXJ := sqA hxj
   have hlen := rqs_len ts j
   have HC9 := sqA hC9
   have HC9' := sqA hc9
   have HK9 : Aside0 (readF ts = ((b0 (ts.getD 0 []), mk (ts.getD 1 []), rqs ts j), eB (b0 (ts.getD 0 [])) (mk (ts.getD 1 [])) (rqs ts j) == 0)) := ⟨by rw [readF_pos ⟨⟨by have := H1.out; have := HN.out; omega, by rw [← HN.out]; exact H2.out, by rw [← HT0.out]; exact H3.out⟩, fun i hi => HAr.out i (by rw [← HN.out, HMD.out] at hi; exact hi)⟩, ← HN.out, HMD.out]⟩
   obtain ⟨x0, xz0, x1, xz1, x2, xz2⟩ := sq3 hxj
   obtain ⟨y0, yz0, y1, yz1, y2, yz2⟩ := sq3 HYr.out
   have HSH := sqA (rqs_short HAr.out)
   have HJ1000 : Aside0 (j ≤ 1000) := ⟨by have := HM3.out; omega⟩
   have HLE := sqA hlen
   have SOF : Aside0 (∀ w' : World, w'.heap[g4]? = some (.cells #[.int .i64 (X : Int), .string (mk T1), .slice A9 j c9] 24 (0, 0)) → w'.cell? ⟨g4, 0, none⟩ = some (.int .i64 (X : Int)) ∧ w'.cell? ⟨g4, 1, none⟩ = some (.string (mk T1)) ∧ w'.cell? ⟨g4, 2, none⟩ = some (.slice A9 j c9)) := ⟨fun w' h => ⟨(blk_cell h 0).trans rfl, (blk_cell h 1).trans rfl, (blk_cell h 2).trans rfl⟩⟩
   clear hr9 hC9 hc9 hlen hxj
   go_wp2
   refine wp_region_held_drew (S := fun w' => w'.cell? ⟨g4, 0, none⟩ = some (.int .i64 (X : Int)) ∧ w'.cell? ⟨g4, 1, none⟩ = some (.string (mk T1)) ∧ w'.cell? ⟨g4, 2, none⟩ = some (.slice A9 j c9)) (by kernel_rfl) (SOF.out _ (blk_drew HXJ.out)) (fun hHeld => ?_)
   (refine wpAnyH_take (i := 0) (v := ?hv10) rfl (by kernel_rfl) (by kernel_rfl) (by kernel_rfl) (fun _ _ _ h => h) (Or.inl ⟨by rfl, ?hy10⟩) (by assumption) ?hrest10; (case hy10 => (intro w hSw; obtain ⟨sA, sB⟩ := hSw; first | (go_simp; done) | (go_simp; with_reducible rfl))); (try simp only [Act.put, List.getElem_toArray, List.getElem_cons_succ, List.getElem_cons_zero, List.setIfInBounds_toArray, List.set_cons_zero, List.set_cons_succ]))
   (refine wpAnyH_take (i := 1) (v := ?hv11) rfl (by kernel_rfl) (by kernel_rfl) (by kernel_rfl) (fun _ _ _ h => h) (Or.inl ⟨by rfl, ?hy11⟩) (by assumption) ?hrest11; (case hy11 => (intro w hSw; obtain ⟨sA, sB⟩ := hSw; first | (go_simp; done) | (go_simp; with_reducible rfl))); (try simp only [Act.put, List.getElem_toArray, List.getElem_cons_succ, List.getElem_cons_zero, List.setIfInBounds_toArray, List.set_cons_zero, List.set_cons_succ]))
   refine wpAnyH_ready (rs := [2]) (by kernel_rfl) (by simp) ?_
   refine AllReadyH.cons rfl (fun K hK => ?_) AllReadyH.nil
   go_simp
   go_at_call 12
   refine (check_walk (X : Int) (mk T1) A9 j c9 (rqs ts j) _ HLE.out.symm (Kd.C_below HC9.out (below_drew (Below.refl _ _))) HC9'.out HJ1000.out HSH.out).mono ?_
   rintro e w9 ⟨rfl, hb⟩
   have HX9 := sqA (blk_below (blk_drew HXJ.out) hb)
   have HY9 := sqA (blk_below (blk_drew HYr.out) hb)
   have HB9 := sqA (below_step (below_drew HBr.out) hb)
   have HR9 := sqA (Kd.R_below (Kd.R_drew HRr.out) hb)
   obtain ⟨k0, kz0, k1, kz1, k2, kz2⟩ := sq3 HY9.out
   clear hb
   refine hK.out _ _ (SOF.out _ HX9.out) (fun hHeld => ?_)
   clear hK K
   (refine wpAnyH_take (i := 3) (v := ?hv12) rfl (by kernel_rfl) (by kernel_rfl) (by kernel_rfl) (fun _ _ _ h => h) (Or.inl ⟨by rfl, ?hy12⟩) (by assumption) ?hrest12; (case hy12 => (intro w hSw; obtain ⟨sA, sB⟩ := hSw; first | (go_simp; done) | (go_simp; with_reducible rfl))); (try simp only [Act.put, List.getElem_toArray, List.getElem_cons_succ, List.getElem_cons_zero, List.setIfInBounds_toArray, List.set_cons_zero, List.set_cons_succ]))
   refine wpAnyH_ready (rs := [4]) (by kernel_rfl) (by simp) ?_
   refine AllReadyH.cons rfl (fun K hK => ?_) AllReadyH.nil
   go_simp
   change K _ (set3 w9 g2 (X : Int) (mk T1) (.slice A9 j c9))
   obtain ⟨wz, hwz⟩ : ∃ wz, wz = set3 w9 g2 (X : Int) (mk T1) (.slice A9 j c9) := ⟨_, rfl⟩
   rw [← hwz]
   have HYz : Aside0 (wz.heap[g2]? = some (.cells #[.int .i64 (X : Int), .string (mk T1), .slice A9 j c9] 24 (0, 0))) := ⟨by rw [hwz]; exact set3_blk HY9.out _ _ _⟩
   have HXz : Aside0 (wz.heap[g4]? = some (.cells #[.int .i64 (X : Int), .string (mk T1), .slice A9 j c9] 24 (0, 0))) := ⟨by rw [hwz]; exact blk_far (blk_far (blk_far HX9.out HNE.out _) HNE.out _) HNE.out _⟩
   have HBz : Aside0 (Below w.heap.size w wz) := ⟨by rw [hwz]; exact set3_below HB9.out HGE2.out _ _ _⟩
   have HRz : Aside0 (k53.R 53 wz w.heap.size (fun _ => True) (.slice A9 (rqs ts j).length c9) (rqs ts j)) := ⟨by rw [hwz]; exact Kd.R_set (Kd.R_set (Kd.R_set HR9.out HY9.out (by decide) 0 _) (blk_set HY9.out 0 _) (by decide) 1 _) (blk_set (blk_set HY9.out 0 _) 1 _) (by decide) 2 _⟩
   clear hwz
   refine hK.out _ _ (SOF.out _ HXz.out) (fun hHeld => ?_)
   clear hK K
   refine wpAnyH_ready (rs := [5]) (by kernel_rfl) (by simp) ?_
   refine AllReadyH.cons rfl (fun K hK => ?_) AllReadyH.nil
   go_simp
   refine hK.out _ _ (SOF.out _ HXz.out) (fun hHeld => ?_)
   clear hK K
   refine wpAnyH_done (by kernel_rfl) ?_ _
   go_wp2
   refine bodyPost_ret (results_ct rfl _ _ g2 24 #[.int .i64 (X : Int), .string (mk T1), .slice A9 j c9] (0, 0) _ rfl HYz.out Tryd.underlying24 rfl (by kernel_rfl)) rfl ?_
   refine ⟨A9, j, c9, ?_, ?_, HC9'.out, ?_, HBz.out⟩
   ·
    rw [HK9.out, ← HT0.out, ← HT1.out, HB0.out]; rfl
   ·
    rw [HK9.out]; exact HLE.out.symm
   ·
    rw [HK9.out]
    have := HRz.out
    rw [rqs_len] at this
    exact this
end Go.Proofs.YtifpomknkjegeaaDoor.Bk
namespace Go.Proofs.YtifpomknkjegeaaDoor.Bk
open Go.RowKit Go.Proofs.YtifpomknkjegeaaDoor.PAll Go.Proofs.YtifpomknkjegeaaDoorW.PrintWords Go.Proofs.YtifpomknkjegeaaDoorW.PrintLast Go.Proofs.YtifpomknkjegeaaDoorW.PrintMore SG Go.Proofs.YtifpomknkjegeaaDoor.BFun Go.Proofs.YtifpomknkjegeaaDoor.Hlp
set_option linter.unusedVariables false
set_option linter.unusedSimpArgs false
theorem texts_count : ∀ ls : List (List UInt8), 4 * ls.length ≤ (texts ls).length
 | [] => Nat.le_refl _
 | x :: r => by
  have := texts_count r
  rw [texts_cons, List.length_append, text_length, List.length_cons]
  omega
noncomputable def decF (s : List UInt8) : (Int × ByteArray × List S53) × Int := match readR s with
 | none => (noB, 3)
 | some ts => if s.length ≤ 4096 ∧ (readF ts).2 = true then ((readF ts).1, 0) else (noB, 3)
def DecA (s : List UInt8) (w : World) (e : Ending) (w' : World) : Prop := ∃ A m c, e = .returned (.tuple #[.agg (cB (decF s).1.1 (decF s).1.2.1 A m c), .int .i64 (decF s).2]) ∧ m = (decF s).1.2.2.length ∧ m ≤ c ∧ Kd.R k53 53 w' w.heap.size (fun _ => True) (.slice A m c) (decF s).1.2.2 ∧ Below w.heap.size w w'
theorem decA_no {s : List UInt8} {w w' : World} (h : decF s = (noB, 3)) (hb : Below w.heap.size w w') : DecA s w (.returned (.tuple #[.agg (cB 0 ⟨#[]⟩ none 0 0), .int .i64 3])) w' := by
 refine ⟨none, 0, 0, ?_, ?_, Nat.le_refl _, ?_, hb⟩
 ·
  rw [h]; rfl
 ·
  rw [h]; rfl
 ·
  rw [h]; exact Kd.R_nil _ _ _ _ _
theorem readC (s : List UInt8) (hl : s.length ≤ 1000000) (w : World) : Calls Tryd.prog 32 #[.string (mk s)] w fun e w' => ∃ v0 : Value, e = .returned (.tuple #[v0, .int .i64 (readO [] (readR s)).2]) ∧ Kd.R Kd.string 9 w' w.heap.size (fun _ => True) v0 (readO [] (readR s)).1 ∧ Below w.heap.size w w' := by
 obtain ⟨q, hq⟩ := roundsE (E_Read s hl)
 exact wire_Read.calls q (mk s) _ _ w hq
set_option maxHeartbeats 16000000 in
set_option maxRecDepth 100000 in
theorem decode_walk (s : List UInt8) (hl : s.length ≤ 1000000) (w : World) : Calls Tryd.prog 14 #[.string (mk s)] w (DecA s w) := by
 cases h : readR s with
 | none =>
  have HR : Aside0 (decF s = (noB, 3)) := ⟨by unfold decF; rw [h]⟩
  have hro : readO [] (readR s) = ([], 3) := by rw [h]; rfl
  clear h
  go_enter Tryd.func14, Tryd.ntmps14
  go_wp2_with (first | ((with_reducible refine gate_dst (N := 2) rfl ?_); refine sqo (N := 2) (cs := #[.int .i64 0, .string ⟨#[]⟩, .slice none 0 0]) (t := 24) ?_; intro g2 hg2 w2 hbox2 hb2; have HX2 := sqA hbox2; have HB2 := sqA hb2; have HGE2 := sqA (show w.heap.size ≤ g2 by rw [hg2]; exact Nat.le_refl _); clear hg2 hbox2 hb2) | ((with_reducible refine gate_callee (f := 32) rfl ?_); refine goesL_ (some 10) rfl rfl Tryd.func32 (by kernel_rfl) rfl #[.string (mk s)] rfl sqm ?_; (with_reducible refine (readC s hl _).mono ?_); rintro e w3 ⟨v0, rfl, hr3, hb3⟩; refine ⟨_, rfl, ?_⟩; rw [hro] at hr3; (try rw [hro]); have HX3 := sqA (blk_below HX2.out hb3); have HB3 := sqA (below_step HB2.out hb3); have HR3 := sqA hr3; obtain ⟨y0, yz0, y1, yz1, y2, yz2⟩ := sq3 HX3.out; clear hr3 hb3))
  exact bodyPost_ret (results_ct rfl _ _ g2 24 #[.int .i64 0, .string ⟨#[]⟩, .slice none 0 0] (0, 0) _ rfl (show (set3 w3 g2 0 ⟨#[]⟩ (.slice none 0 0)).heap[g2]? = _ from set3_blk HX3.out _ _ _) Tryd.underlying24 rfl (by kernel_rfl)) rfl (by exact decA_no HR.out (show Below w.heap.size w (set3 w3 g2 0 ⟨#[]⟩ (.slice none 0 0)) from set3_below HB3.out HGE2.out _ _ _))
 | some ts =>
  have hro : readO [] (readR s) = (ts.map mk, 0) := by rw [h]; rfl
  have hsz : ((mk s).size : Int) = (s.length : Int) := by rw [mk_size]
  by_cases h96 : 4096 < s.length
  ·
   have t96 : decide (4096 < ((mk s).size : Int)) = true := by rw [hsz]; exact decide_eq_true (by omega)
   have HR : Aside0 (decF s = (noB, 3)) := ⟨by unfold decF; rw [h]; exact if_neg (fun hh => by omega)⟩
   clear h hsz h96
   go_enter Tryd.func14, Tryd.ntmps14
   go_wp2_with (first | ((with_reducible refine gate_dst (N := 2) rfl ?_); refine sqo (N := 2) (cs := #[.int .i64 0, .string ⟨#[]⟩, .slice none 0 0]) (t := 24) ?_; intro g2 hg2 w2 hbox2 hb2; have HX2 := sqA hbox2; have HB2 := sqA hb2; have HGE2 := sqA (show w.heap.size ≤ g2 by rw [hg2]; exact Nat.le_refl _); clear hg2 hbox2 hb2) | ((with_reducible refine gate_callee (f := 32) rfl ?_); refine goesL_ (some 10) rfl rfl Tryd.func32 (by kernel_rfl) rfl #[.string (mk s)] rfl sqm ?_; (with_reducible refine (readC s hl _).mono ?_); rintro e w3 ⟨v0, rfl, hr3, hb3⟩; refine ⟨_, rfl, ?_⟩; rw [hro] at hr3; (try rw [hro]); have HX3 := sqA (blk_below HX2.out hb3); have HB3 := sqA (below_step HB2.out hb3); have HR3 := sqA hr3; obtain ⟨y0, yz0, y1, yz1, y2, yz2⟩ := sq3 HX3.out; clear hr3 hb3))
   exact bodyPost_ret (results_ct rfl _ _ g2 24 #[.int .i64 0, .string ⟨#[]⟩, .slice none 0 0] (0, 0) _ rfl (show (set3 w3 g2 0 ⟨#[]⟩ (.slice none 0 0)).heap[g2]? = _ from set3_blk HX3.out _ _ _) Tryd.underlying24 rfl (by kernel_rfl)) rfl (by exact decA_no HR.out (show Below w.heap.size w (set3 w3 g2 0 ⟨#[]⟩ (.slice none 0 0)) from set3_below HB3.out HGE2.out _ _ _))
  have t96 : decide (4096 < ((mk s).size : Int)) = false := by rw [hsz]; exact decide_eq_false (by omega)
  have hcnt := texts_count ts
  rw [readR_back _ _ _ rfl h] at hcnt
  have HCNT : Aside0 (ts.length ≤ 3000) := ⟨by omega⟩
  have HSM := sqA (readR_small h).2
  have HL := sqA hl
  have H96 : Aside0 (s.length ≤ 4096) := ⟨by omega⟩
  have HDEC : Aside0 (decF s = if s.length ≤ 4096 ∧ (readF ts).2 = true then ((readF ts).1, 0) else (noB, 3)) := ⟨by unfold decF; rw [h]⟩
  clear h hsz h96 hcnt
  go_enter Tryd.func14, Tryd.ntmps14
  go_wp2_with (first | ((with_reducible refine gate_dst (N := 2) rfl ?_); refine sqo (N := 2) (cs := #[.int .i64 0, .string ⟨#[]⟩, .slice none 0 0]) (t := 24) ?_; intro g2 hg2 w2 hbox2 hb2; have HX2 := sqA hbox2; have HB2 := sqA hb2; have HGE2 := sqA (show w.heap.size ≤ g2 by rw [hg2]; exact Nat.le_refl _); clear hg2 hbox2 hb2) | ((with_reducible refine gate_callee (f := 32) rfl ?_); refine goesL_ (some 10) rfl rfl Tryd.func32 (by kernel_rfl) rfl #[.string (mk s)] rfl sqm ?_; (with_reducible refine (readC s hl _).mono ?_); rintro e w3 ⟨v0, rfl, hr3, hb3⟩; refine ⟨_, rfl, ?_⟩; rw [hro] at hr3; (try rw [hro]); have HX3 := sqA (blk_below HX2.out hb3); have HB3 := sqA (below_step HB2.out hb3); have HR3 := sqA hr3; obtain ⟨y0, yz0, y1, yz1, y2, yz2⟩ := sq3 HX3.out; clear hr3 hb3); obtain ⟨A3, c3, rfl, hc3, hC3⟩ := Kd.R_reads HR3.out)
  obtain ⟨h, p, l, ok, hRF⟩ : ∃ h p l ok, readF ts = ((h, p, l), ok) := ⟨_, _, _, _, rfl⟩
  have hC3' : Kd.C Kd.string w3 A3 ts.length (ts.map mk) := by simpa using hC3
  have hc3' : ts.length ≤ c3 := by simpa using hc3
  have HSM' : Aside0 (∀ t ∈ ts, t.length ≤ 1000000) := ⟨fun t ht => Nat.le_trans (HSM.out t ht) HL.out⟩
  refine (read_walk ts A3 ts.length c3 _ rfl hC3' hc3' HCNT.out HSM'.out).mono ?_
  rintro e w4 ⟨A4, m, c4, rfl, hm, hmc, hC4, hb4⟩
  rw [hRF] at hm hC4 ⊢
  simp only [cB] at hm hC4 ⊢
  have HX4 := sqA (blk_below HX3.out hb4)
  have HB4 := sqA (below_step HB3.out hb4)
  have HM := sqA hm
  have HMC := sqA hmc
  have HC4 := sqA hC4
  have HDF : Aside0 (decF s = if ok = true then ((h, p, l), 0) else (noB, 3)) := ⟨by
   rw [HDEC.out, hRF]
   cases ok with
   | true => exact if_pos ⟨H96.out, rfl⟩
   | false => exact if_neg (fun hh => by cases hh.2)⟩
  clear hRF hC3 hC3' hc3 hc3' hm hmc hC4 hb4 y0 yz0 y1 yz1 y2 yz2 t96 hro hl
  cases ok with
  | false =>
   have HR : Aside0 (decF s = (noB, 3)) := ⟨HDF.out⟩
   go_wp2_with (first | ((with_reducible refine gate_dst (N := 6) rfl ?_); refine sqo (N := 6) (cs := #[.int .i64 0, .string ⟨#[]⟩, .slice none 0 0]) (t := 24) ?_; intro g6 hg6 w6 hbox6 hb6; have HG6 := sqA hbox6; have HB6 := sqA hb6; have HGE6 := sqA (show w4.heap.size ≤ g6 by rw [hg6]; exact Nat.le_refl _); obtain ⟨v0, vz0, v1, vz1, v2, vz2⟩ := sq3 hbox6; clear hg6 hbox6 hb6) | ((with_reducible refine gate_store (t := 24) (p := 6) (v := .tmp 24) rfl ?_); refine sqp (w1 := (set3 w6 g6 h p (.slice A4 m c4))) ?_; intro w7 hw7; have hg7 : w7.heap[g6]? = some (.cells #[.int .i64 h, .string p, .slice A4 m c4] 24 (0, 0)) := (by rw [hw7]; exact set3_blk HG6.out _ _ _); have hb47 : Below w4.heap.size w4 w7 := (by rw [hw7]; exact set3_below HB6.out HGE6.out _ _ _); have HX7 := sqA (blk_below HX4.out hb47); have HB7 := sqA (below_step HB4.out hb47); have HC7 := sqA (Kd.R_below HC4.out hb47); have u0 : w7.cell? ⟨g6, 0, none⟩ = some (.int .i64 h) := (blk_cell hg7 0).trans rfl; have u1 : w7.cell? ⟨g6, 1, none⟩ = some (.string p) := (blk_cell hg7 1).trans rfl; have u2 : w7.cell? ⟨g6, 2, none⟩ = some (.slice A4 m c4) := (blk_cell hg7 2).trans rfl; obtain ⟨k0, kz0, k1, kz1, k2, kz2⟩ := sq3 HX7.out; clear hw7 hg7 hb47))
   exact bodyPost_ret (results_ct rfl _ _ g2 24 #[.int .i64 0, .string ⟨#[]⟩, .slice none 0 0] (0, 0) _ rfl (show (set3 w7 g2 0 ⟨#[]⟩ (.slice none 0 0)).heap[g2]? = _ from set3_blk HX7.out _ _ _) Tryd.underlying24 rfl (by kernel_rfl)) rfl (by exact decA_no HR.out (show Below w.heap.size w (set3 w7 g2 0 ⟨#[]⟩ (.slice none 0 0)) from set3_below HB7.out HGE2.out _ _ _))
  | true =>
   go_wp2_with (first | ((with_reducible refine gate_dst (N := 6) rfl ?_); refine sqo (N := 6) (cs := #[.int .i64 0, .string ⟨#[]⟩, .slice none 0 0]) (t := 24) ?_; intro g6 hg6 w6 hbox6 hb6; have HG6 := sqA hbox6; have HB6 := sqA hb6; have HGE6 := sqA (show w4.heap.size ≤ g6 by rw [hg6]; exact Nat.le_refl _); obtain ⟨v0, vz0, v1, vz1, v2, vz2⟩ := sq3 hbox6; clear hg6 hbox6 hb6) | ((with_reducible refine gate_store (t := 24) (p := 6) (v := .tmp 24) rfl ?_); refine sqp (w1 := (set3 w6 g6 h p (.slice A4 m c4))) ?_; intro w7 hw7; have hg7 : w7.heap[g6]? = some (.cells #[.int .i64 h, .string p, .slice A4 m c4] 24 (0, 0)) := (by rw [hw7]; exact set3_blk HG6.out _ _ _); have hb47 : Below w4.heap.size w4 w7 := (by rw [hw7]; exact set3_below HB6.out HGE6.out _ _ _); have HX7 := sqA (blk_below HX4.out hb47); have HB7 := sqA (below_step HB4.out hb47); have HC7 := sqA (Kd.R_below HC4.out hb47); have u0 : w7.cell? ⟨g6, 0, none⟩ = some (.int .i64 h) := (blk_cell hg7 0).trans rfl; have u1 : w7.cell? ⟨g6, 1, none⟩ = some (.string p) := (blk_cell hg7 1).trans rfl; have u2 : w7.cell? ⟨g6, 2, none⟩ = some (.slice A4 m c4) := (blk_cell hg7 2).trans rfl; obtain ⟨k0, kz0, k1, kz1, k2, kz2⟩ := sq3 HX7.out; clear hw7 hg7 hb47))
   have HYz : Aside0 ((set3 w7 g2 h p (.slice A4 m c4)).heap[g2]? = some (.cells #[.int .i64 h, .string p, .slice A4 m c4] 24 (0, 0))) := ⟨set3_blk HX7.out _ _ _⟩
   refine bodyPost_ret (results_ct rfl _ _ g2 24 #[.int .i64 h, .string p, .slice A4 m c4] (0, 0) _ rfl HYz.out Tryd.underlying24 rfl (by kernel_rfl)) rfl ?_
   have HDG : decF s = ((h, p, l), 0) := HDF.out
   refine ⟨A4, m, c4, ?_, ?_, HMC.out, ?_, ?_⟩
   ·
    rw [HDG]; rfl
   ·
    rw [HDG]; exact HM.out
   ·
    rw [HDG]
    show Kd.R k53 53 (set3 w7 g2 h p (.slice A4 m c4)) w.heap.size (fun _ => True) (.slice A4 m c4) l
    have hr := Kd.R_set (Kd.R_set (Kd.R_set HC7.out HX7.out (by decide) 0 (.int .i64 h)) (blk_set HX7.out 0 _) (by decide) 1 (.string p)) (blk_set (blk_set HX7.out 0 _) 1 _) (by decide) 2 (.slice A4 m c4)
    exact Kd.R_lower hr HB3.out.size
   ·
    show Below w.heap.size w (set3 w7 g2 h p (.slice A4 m c4))
    exact set3_below HB7.out HGE2.out _ _ _
end Go.Proofs.YtifpomknkjegeaaDoor.Bk
namespace Go.Proofs.YtifpomknkjegeaaDoor.Bk
open Go.RowKit Go.Proofs.YtifpomknkjegeaaDoor.PAll Go.Proofs.YtifpomknkjegeaaDoorW.PrintWords Go.Proofs.YtifpomknkjegeaaDoorW.PrintLast Go.Proofs.YtifpomknkjegeaaDoorW.PrintMore SG Go.Proofs.YtifpomknkjegeaaDoor.BFun Go.Proofs.YtifpomknkjegeaaDoor.Hlp Go.Proofs.YtifpomknkjegeaaDoor.Sha
set_option linter.unusedVariables false
set_option linter.unusedSimpArgs false
def first32 : List UInt8 := List.replicate 32 0
theorem mk_toList (s : List UInt8) : (mk s).toList = s := by
 rw [toList_eq]
 rfl
theorem bytes_bne {a b : ByteArray} (h : a ≠ b) : (!(a.toList == b.toList)) = true := by
 rw [Bool.not_eq_true', beq_eq_false_iff_ne]
 intro hd
 apply h
 rw [← mk_of_toList a, ← mk_of_toList b, hd]
theorem firstC (w : World) : Calls Tryd.prog 22 #[] w fun e w' => e = .returned (.string (mk first32)) ∧ Below w.heap.size w w' := by
 refine (block_First.calls (mk first32) w ?_).mono ?_
 ·
  unfold block_First.f
  rw [if_pos (by decide)]
  exact congrArg some (by decide)
 ·
  rintro e w' h
  exact h
noncomputable def chainG : Nat → List UInt8 → List (List UInt8) → Int × Int
 | i, _, [] => ((i : Int), 0)
 | i, p, s :: r => if (decF s).2 = 0 ∧ (decF s).1.1 = (i : Int) ∧ (decF s).1.2.1 = mk p then chainG (i + 1) (shaF s) r else ((i : Int), 3)
theorem chainG_yes {i : Nat} {p s : List UInt8} {r : List (List UInt8)} (h : (decF s).2 = 0 ∧ (decF s).1.1 = (i : Int) ∧ (decF s).1.2.1 = mk p) : chainG i p (s :: r) = chainG (i + 1) (shaF s) r := by
 rw [chainG, if_pos h]
theorem chainG_no {i : Nat} {p s : List UInt8} {r : List (List UInt8)} (h : ¬ ((decF s).2 = 0 ∧ (decF s).1.1 = (i : Int) ∧ (decF s).1.2.1 = mk p)) : chainG i p (s :: r) = ((i : Int), 3) := by
 rw [chainG, if_neg h]
set_option maxHeartbeats 16000000 in
set_option maxRecDepth 100000 in
theorem chain_walk (ss : List (List UInt8)) (A : Option Addr) (n cap : Nat) (w : World) (hT : Tab w) (hn : n = ss.length) (hC : Kd.C Kd.string w A n (ss.map mk)) (hm : n ≤ 1000000) (hs : ∀ t ∈ ss, t.length ≤ 1000000) :
  Calls Tryd.prog 20 #[.slice A n cap] w fun e w' => e = .returned (.tuple #[.int .i64 (chainG 0 first32 ss).1, .int .i64 (chainG 0 first32 ss).2]) ∧ Below w.heap.size w w' := by
 have HN := sqA hn
 have HC := sqA hC
 have HS := sqA hs
 have HT := sqA hT
 clear hn hC hs hT
 go_enter Tryd.func20, Tryd.ntmps20
 go_wp2_with (first | ((with_reducible refine gate_callee (f := 22) rfl ?_); refine goesL_ (some 9) rfl rfl Tryd.func22 (by kernel_rfl) rfl #[] rfl sqm ?_; (with_reducible refine (firstC _).mono ?_); rintro e w2 ⟨rfl, hb⟩; refine ⟨_, rfl, ?_⟩; have HB2 := sqA hb; clear hb))
 go_loopg [4, 12] n (fun kq v4 v12 w' => ∃ (i : Nat) (p : List UInt8), v12 = .int .i64 (i : Int) ∧ v4 = .string (mk p) ∧ Aside0 (i + kq = n) ∧ Aside0 (chainG i p (ss.drop i) = chainG 0 first32 ss) ∧ Aside0 (Below w.heap.size w w'))
 case atStart => exact ⟨0, first32, rfl, rfl, ⟨by omega⟩, ⟨rfl⟩, HB2⟩
 case round =>
  obtain ⟨i, p, rfl, rfl, HI, HG, HBr⟩ := hrel
  have hi := HI.out
  by_cases hat : i < n
  ·
   obtain ⟨k1, rfl⟩ : ∃ k1, gk = k1 + 1 := ⟨gk - 1, by omega⟩
   have hlt : decide ((i : Int) < (n : Int)) = true := decide_eq_true (by omega)
   obtain ⟨ad, rfl, sof⟩ := strs_at HC.out (by omega)
   have hil : i < ss.length := by rw [← HN.out]; exact hat
   have x0 : wr.cell? (ad.add i) = some (.string (mk ss[i])) := by
    rw [sof _ HBr.out i hat, List.getD_eq_getElem?_getD, List.getElem?_map, List.getElem?_eq_getElem hil]
    rfl
   have HDR : Aside0 (ss.drop i = ss[i] :: ss.drop (i + 1)) := ⟨List.drop_eq_getElem_cons hil⟩
   have HSL : Aside0 (ss[i].length ≤ 1000000) := ⟨HS.out _ (List.getElem_mem hil)⟩
   generalize ss[i] = s at *
   have HK1 : Aside0 (i + 1 + k1 = n) := ⟨by omega⟩
   clear HI sof hil
   go_wp2_with (first | ((with_reducible refine gate_dst (N := 7) rfl ?_); refine sqo (N := 7) (cs := #[.int .i64 0, .string ⟨#[]⟩, .slice none 0 0]) (t := 24) ?_; intro g6 hg6 w6 hbox6 hb6; have HG6 := sqA hbox6; have HB6 := sqA hb6; have HGE6 := sqA (show w4.heap.size ≤ g6 by rw [hg6]; exact Nat.le_refl _); obtain ⟨v0, vz0, v1, vz1, v2, vz2⟩ := sq3 hbox6; clear hg6 hbox6 hb6))
   refine (decode_walk s HSL.out _).mono ?_
   rintro e w4 ⟨A4, m, c4, rfl, hm, hmc, hC4, hb4⟩
   have HB4 := sqA (below_step HBr.out hb4)
   obtain ⟨h, q, l, er, hD⟩ : ∃ h q l er, decF s = ((h, q, l), er) := ⟨_, _, _, _, rfl⟩
   rw [hD]
   simp only [cB]
   have HD := sqA hD
   have HTR := sqA (HT.out.below HB4.out)
   clear hm hmc hC4 hb4 hD x0
   by_cases e1 : er = 0
   ·
    by_cases e2 : h = (i : Int)
    ·
     by_cases e3 : q = mk p
     ·
      have HG2 : Aside0 (chainG i p (s :: ss.drop (i + 1)) = chainG (i + 1) (shaF s) (ss.drop (i + 1))) := ⟨chainG_yes ⟨by rw [HD.out]; exact e1, by rw [HD.out]; exact e2, by rw [HD.out]; exact e3⟩⟩
      subst e1
      subst e2
      subst e3
      go_wp2_with (first | ((with_reducible refine gate_dst (N := 7) rfl ?_); refine sqo (N := 7) (cs := #[.int .i64 0, .string ⟨#[]⟩, .slice none 0 0]) (t := 24) ?_; intro g6 hg6 w6 hbox6 hb6; have HG6 := sqA hbox6; have HB6 := sqA hb6; have HGE6 := sqA (show w4.heap.size ≤ g6 by rw [hg6]; exact Nat.le_refl _); obtain ⟨v0, vz0, v1, vz1, v2, vz2⟩ := sq3 hbox6; clear hg6 hbox6 hb6) | ((with_reducible refine gate_store (t := 24) (p := 7) (v := .tmp 20) rfl ?_); refine sqp (w1 := (set3 w6 g6 h q (.slice A4 m c4))) ?_; intro w7 hw7; have hg7 : w7.heap[g6]? = some (.cells #[.int .i64 h, .string q, .slice A4 m c4] 24 (0, 0)) := (by rw [hw7]; exact set3_blk HG6.out _ _ _); have hb47 : Below w4.heap.size w4 w7 := (by rw [hw7]; exact set3_below HB6.out HGE6.out _ _ _); have HB7 := sqA (below_step HB4.out hb47); have u0 : w7.cell? ⟨g6, 0, none⟩ = some (.int .i64 h) := (blk_cell hg7 0).trans rfl; have u1 : w7.cell? ⟨g6, 1, none⟩ = some (.string q) := (blk_cell hg7 1).trans rfl; have u2 : w7.cell? ⟨g6, 2, none⟩ = some (.slice A4 m c4) := (blk_cell hg7 2).trans rfl; clear hw7 hg7 hb47))
      have hb7 : Below w.heap.size w (set3 w6 g6 (i : Int) (mk p) (.slice A4 m c4)) := below_step HB4.out (set3_below HB6.out HGE6.out _ _ _)
      have HB7 := sqA hb7
      refine (digest (mk s) _ (HT.out.below hb7) (by rw [mk_size]; exact HSL.out)).mono ?_
      rintro e w8 ⟨rfl, hb8⟩
      rw [mk_toList]
      have HB8 := sqA (below_step HB7.out hb8)
      clear hb7 hb8
      go_wp2
      go_roundg k1
      case measure => omega
      case rel => exact ⟨i + 1, shaF s, by first | rfl | (simp; done), rfl, HK1, ⟨by rw [← HG2.out, ← HDR.out]; exact HG.out⟩, HB8⟩
     ·
      have HG3 : Aside0 (chainG 0 first32 ss = ((i : Int), 3)) := ⟨by rw [← HG.out, HDR.out]; exact chainG_no (fun hh => e3 (by rw [HD.out] at hh; exact hh.2.2))⟩
      have hne := bytes_bne e3
      subst e1
      subst e2
      go_wp2_with (first | ((with_reducible refine gate_dst (N := 7) rfl ?_); refine sqo (N := 7) (cs := #[.int .i64 0, .string ⟨#[]⟩, .slice none 0 0]) (t := 24) ?_; intro g6 hg6 w6 hbox6 hb6; have HG6 := sqA hbox6; have HB6 := sqA hb6; have HGE6 := sqA (show w4.heap.size ≤ g6 by rw [hg6]; exact Nat.le_refl _); obtain ⟨v0, vz0, v1, vz1, v2, vz2⟩ := sq3 hbox6; clear hg6 hbox6 hb6) | ((with_reducible refine gate_store (t := 24) (p := 7) (v := .tmp 20) rfl ?_); refine sqp (w1 := (set3 w6 g6 h q (.slice A4 m c4))) ?_; intro w7 hw7; have hg7 : w7.heap[g6]? = some (.cells #[.int .i64 h, .string q, .slice A4 m c4] 24 (0, 0)) := (by rw [hw7]; exact set3_blk HG6.out _ _ _); have hb47 : Below w4.heap.size w4 w7 := (by rw [hw7]; exact set3_below HB6.out HGE6.out _ _ _); have HB7 := sqA (below_step HB4.out hb47); have u0 : w7.cell? ⟨g6, 0, none⟩ = some (.int .i64 h) := (blk_cell hg7 0).trans rfl; have u1 : w7.cell? ⟨g6, 1, none⟩ = some (.string q) := (blk_cell hg7 1).trans rfl; have u2 : w7.cell? ⟨g6, 2, none⟩ = some (.slice A4 m c4) := (blk_cell hg7 2).trans rfl; clear hw7 hg7 hb47))
      go_ret2; rw [HG3.out]; first | exact ⟨rfl, HB7.out⟩ | exact ⟨rfl, below_step HB4.out (set3_below HB6.out HGE6.out _ _ _)⟩
    ·
     have HG3 : Aside0 (chainG 0 first32 ss = ((i : Int), 3)) := ⟨by rw [← HG.out, HDR.out]; exact chainG_no (fun hh => e2 (by rw [HD.out] at hh; exact hh.2.1))⟩
     have hne : (h != (i : Int)) = true := bne_iff_ne.2 e2
     subst e1
     go_wp2_with (first | ((with_reducible refine gate_dst (N := 7) rfl ?_); refine sqo (N := 7) (cs := #[.int .i64 0, .string ⟨#[]⟩, .slice none 0 0]) (t := 24) ?_; intro g6 hg6 w6 hbox6 hb6; have HG6 := sqA hbox6; have HB6 := sqA hb6; have HGE6 := sqA (show w4.heap.size ≤ g6 by rw [hg6]; exact Nat.le_refl _); obtain ⟨v0, vz0, v1, vz1, v2, vz2⟩ := sq3 hbox6; clear hg6 hbox6 hb6) | ((with_reducible refine gate_store (t := 24) (p := 7) (v := .tmp 20) rfl ?_); refine sqp (w1 := (set3 w6 g6 h q (.slice A4 m c4))) ?_; intro w7 hw7; have hg7 : w7.heap[g6]? = some (.cells #[.int .i64 h, .string q, .slice A4 m c4] 24 (0, 0)) := (by rw [hw7]; exact set3_blk HG6.out _ _ _); have hb47 : Below w4.heap.size w4 w7 := (by rw [hw7]; exact set3_below HB6.out HGE6.out _ _ _); have HB7 := sqA (below_step HB4.out hb47); have u0 : w7.cell? ⟨g6, 0, none⟩ = some (.int .i64 h) := (blk_cell hg7 0).trans rfl; have u1 : w7.cell? ⟨g6, 1, none⟩ = some (.string q) := (blk_cell hg7 1).trans rfl; have u2 : w7.cell? ⟨g6, 2, none⟩ = some (.slice A4 m c4) := (blk_cell hg7 2).trans rfl; clear hw7 hg7 hb47))
     go_ret2; rw [HG3.out]; first | exact ⟨rfl, HB7.out⟩ | exact ⟨rfl, below_step HB4.out (set3_below HB6.out HGE6.out _ _ _)⟩
   ·
    have HG3 : Aside0 (chainG 0 first32 ss = ((i : Int), 3)) := ⟨by rw [← HG.out, HDR.out]; exact chainG_no (fun hh => e1 (by rw [HD.out] at hh; exact hh.1))⟩
    have hne : (er != 0) = true := bne_iff_ne.2 e1
    go_wp2_with (first | ((with_reducible refine gate_dst (N := 7) rfl ?_); refine sqo (N := 7) (cs := #[.int .i64 0, .string ⟨#[]⟩, .slice none 0 0]) (t := 24) ?_; intro g6 hg6 w6 hbox6 hb6; have HG6 := sqA hbox6; have HB6 := sqA hb6; have HGE6 := sqA (show w4.heap.size ≤ g6 by rw [hg6]; exact Nat.le_refl _); obtain ⟨v0, vz0, v1, vz1, v2, vz2⟩ := sq3 hbox6; clear hg6 hbox6 hb6) | ((with_reducible refine gate_store (t := 24) (p := 7) (v := .tmp 20) rfl ?_); refine sqp (w1 := (set3 w6 g6 h q (.slice A4 m c4))) ?_; intro w7 hw7; have hg7 : w7.heap[g6]? = some (.cells #[.int .i64 h, .string q, .slice A4 m c4] 24 (0, 0)) := (by rw [hw7]; exact set3_blk HG6.out _ _ _); have hb47 : Below w4.heap.size w4 w7 := (by rw [hw7]; exact set3_below HB6.out HGE6.out _ _ _); have HB7 := sqA (below_step HB4.out hb47); have u0 : w7.cell? ⟨g6, 0, none⟩ = some (.int .i64 h) := (blk_cell hg7 0).trans rfl; have u1 : w7.cell? ⟨g6, 1, none⟩ = some (.string q) := (blk_cell hg7 1).trans rfl; have u2 : w7.cell? ⟨g6, 2, none⟩ = some (.slice A4 m c4) := (blk_cell hg7 2).trans rfl; clear hw7 hg7 hb47))
    go_ret2; rw [HG3.out]; first | exact ⟨rfl, HB7.out⟩ | exact ⟨rfl, below_step HB4.out (set3_below HB6.out HGE6.out _ _ _)⟩
  ·
   obtain rfl : gk = 0 := by omega
   obtain rfl : i = n := by omega
   have hge : decide ((i : Int) < (i : Int)) = false := by simp
   have HG3 : Aside0 (chainG 0 first32 ss = ((i : Int), 0)) := ⟨by rw [← HG.out, List.drop_of_length_le (by rw [← HN.out]; exact Nat.le_refl _)]; rfl⟩
   go_wp2
   go_ret2
   rw [HG3.out]
   exact ⟨rfl, HBr.out⟩
end Go.Proofs.YtifpomknkjegeaaDoor.Bk
namespace Go.Proofs.YtifpomknkjegeaaDoor.Bk
open Go.RowKit Go.Proofs.YtifpomknkjegeaaDoor.PAll Go.Proofs.YtifpomknkjegeaaDoorW.PrintWords Go.Proofs.YtifpomknkjegeaaDoorW.PrintLast Go.Proofs.YtifpomknkjegeaaDoorW.PrintMore SG Go.Proofs.YtifpomknkjegeaaDoor.BFun Go.Proofs.YtifpomknkjegeaaDoor.Hlp Go.Proofs.YtifpomknkjegeaaDoor.Sha
set_option linter.unusedVariables false
set_option linter.unusedSimpArgs false
theorem parts_getD (l : List S53) (j : Nat) (hj : j < l.length) : (l.flatMap parts).getD (3 * j) [] = [u8 l[j].f0] ∧ (l.flatMap parts).getD (3 * j + 1) [] = SG.four l[j].f1.toNat ∧ (l.flatMap parts).getD (3 * j + 2) [] = cmdB l[j] := by
 induction l generalizing j with
 | nil => exact absurd hj (by simp)
 | cons r l ih =>
  rw [List.flatMap_cons]
  have hp : (parts r) = [[u8 r.f0], SG.four r.f1.toNat, cmdB r] := rfl
  match j, hj with
  | 0, _ => rw [hp]; exact ⟨rfl, rfl, rfl⟩
  | j + 1, hj =>
   have := ih j (by simpa using hj)
   rw [hp]
   simp only [List.cons_append, List.nil_append, List.getElem_cons_succ]
   rw [show 3 * (j + 1) = 3 * j + 3 by omega, show 3 * j + 3 + 1 = 3 * j + 1 + 3 by omega, show 3 * j + 3 + 2 = 3 * j + 2 + 3 by omega]
   simpa only [List.getD_cons_succ] using this
theorem reqF_parts {r : S53} (h : okQ r) : reqF [u8 r.f0] (SG.four r.f1.toNat) (cmdB r) = (r, true) := by
 obtain ⟨a, b, k, e, n, x⟩ := r
 obtain ⟨n, rfl⟩ := ex_mk n
 obtain ⟨x, rfl⟩ := ex_mk x
 have hok : okC k e n.length x.length := by simpa only [mk_size] using h.2.2
 have h0 : 0 ≤ a ∧ a ≤ 15 := h.1
 have h1 : 0 ≤ b ∧ b < 2147483648 := h.2.1
 have hc : rcA (cmdB ⟨a, b, ⟨k, e, mk n, mk x⟩⟩) = (k, e, mk n, mk x, 0) := by
  show rcA (texts [[u8 k], [u8 e], (mk n).toList, (mk x).toList]) = _
  rw [mk_toList, mk_toList]
  exact rcA_cmd k e n x hok
 have hn : num4 (SG.four b.toNat) = b.toNat := by
  have := num4_four b.toNat (by omega) []
  rwa [List.append_nil] at this
 unfold reqF
 rw [if_pos ⟨rfl, SG.four_length _⟩, hc, b0_u8 h0.1 (by omega), hn, Int.toNat_of_nonneg h1.1]
 rfl
theorem rq_encL {h : Int} {p : ByteArray} {l : List S53} (hk : ∀ r ∈ l, okQ r) (j : Nat) (hj : j < l.length) : rq (encL h p l) j = (l[j], true) := by
 obtain ⟨e0, e1, e2⟩ := parts_getD l j hj
 unfold rq encL
 rw [show 2 + 3 * j = 3 * j + 1 + 1 by omega, show 3 + 3 * j = 3 * j + 1 + 1 + 1 by omega, show 4 + 3 * j = 3 * j + 2 + 1 + 1 by omega]
 simp only [List.getD_cons_succ]
 rw [e0, e1, e2]
 exact reqF_parts (hk _ (List.getElem_mem hj))
theorem rqs_encL {h : Int} {p : ByteArray} {l : List S53} (hk : ∀ r ∈ l, okQ r) : rqs (encL h p l) l.length = l := by
 unfold rqs
 apply List.ext_getElem
 ·
  simp
 ·
  intro j h1 h2
  rw [List.getElem_map, List.getElem_range, rq_encL hk j h2]
theorem readF_encL {h : Int} {p : ByteArray} {l : List S53} (hk : okB h p l) : readF (encL h p l) = ((h, p, l), true) := by
 have hl := encL_len h p l
 have hd : ((encL h p l).length - 2) / 3 = l.length := by omega
 have g0 : (encL h p l).getD 0 [] = [u8 h] := rfl
 have g1 : (encL h p l).getD 1 [] = p.toList := rfl
 have hb : b0 [u8 h] = h := b0_u8 hk.1.1 (by have := hk.1.2; omega)
 have hq : (2 ≤ (encL h p l).length ∧ ((encL h p l).length - 2) % 3 = 0 ∧ ((encL h p l).getD 0 []).length = 1) ∧ ∀ j, j < ((encL h p l).length - 2) / 3 → (rq (encL h p l) j).2 = true := by
  refine ⟨⟨by omega, by omega, by rw [g0]; exact one_len _⟩, fun j hj => ?_⟩
  rw [rq_encL hk.2.2.2.2 j (by omega)]
 rw [readF_pos hq, hd, rqs_encL hk.2.2.2.2, g0, g1, hb, mk_of_toList, eB_pos hk, beq_self_eq_true]
theorem decF_some {s : List UInt8} {ts : List (List UInt8)} (h : readR s = some ts) : decF s = if s.length ≤ 4096 ∧ (readF ts).2 = true then ((readF ts).1, 0) else (noB, 3) := by unfold decF; rw [h]
theorem decF_none {s : List UInt8} (h : readR s = none) : decF s = (noB, 3) := by unfold decF; rw [h]
theorem three_ne {α : Type} {a b : α} (h : (a, (3 : Int)) = (b, 0)) : False := absurd (show (3 : Int) = 0 from congrArg Prod.snd h) (by decide)
theorem two_ne {α : Type} {a b : α} (h : (a, (2 : Int)) = (b, 0)) : False := absurd (show (2 : Int) = 0 from congrArg Prod.snd h) (by decide)
theorem one_ne {α : Type} {a b : α} (h : (a, (1 : Int)) = (b, 0)) : False := absurd (show (1 : Int) = 0 from congrArg Prod.snd h) (by decide)
theorem decF_enc {h : Int} {p : ByteArray} {l : List S53} (hk : okB h p l) (hs : (texts (encL h p l)).length ≤ 4096) : decF (texts (encL h p l)) = ((h, p, l), 0) := by
 have hr : readR (texts (encL h p l)) = some (encL h p l) := readR_texts _ fun x hx => by have := encL_short hk x hx; omega
 rw [decF_some hr, readF_encL hk, if_pos ⟨hs, rfl⟩]
theorem parts_reqF {a b c : List UInt8} (h : (reqF a b c).2 = true) : parts (reqF a b c).1 = [a, b, c] := by
 unfold reqF at h ⊢
 by_cases hab : a.length = 1 ∧ b.length = 4
 ·
  rw [if_pos hab] at h ⊢
  have h0 : (rcA c).2.2.2.2 = 0 := eq_of_beq h
  obtain ⟨k, e, n, x, hr, hok, ht⟩ := rcA_back h0
  rw [hr]
  have hc : cmdB ⟨b0 a, ((num4 b : Nat) : Int), ⟨k, e, mk n, mk x⟩⟩ = c := by
   show texts [[u8 k], [u8 e], (mk n).toList, (mk x).toList] = _
   rw [mk_toList, mk_toList]
   exact ht
  show [[u8 (b0 a)], SG.four ((num4 b : Nat) : Int).toNat, cmdB ⟨b0 a, ((num4 b : Nat) : Int), ⟨k, e, mk n, mk x⟩⟩] = _
  rw [hc, ← one_of hab.1, Int.toNat_natCast, four_num4 b hab.2]
 ·
  rw [if_neg hab] at h
  cases h
theorem take3 {ts : List (List UInt8)} {i : Nat} (h : i + 3 ≤ ts.length) : ts.take (i + 3) = ts.take i ++ [ts.getD i [], ts.getD (i + 1) [], ts.getD (i + 2) []] := by
 have g : ∀ k, k < ts.length → ts[k]?.toList = [ts.getD k []] := fun k hk => by
  rw [List.getElem?_eq_getElem hk, List.getD_eq_getElem?_getD, List.getElem?_eq_getElem hk]
  rfl
 rw [show i + 3 = i + 1 + 1 + 1 from rfl, List.take_add_one, List.take_add_one, List.take_add_one, g _ (by omega), g _ (by omega), g _ (by omega)]
 simp
theorem encL_rqs {ts : List (List UInt8)} (h2 : 2 ≤ ts.length) (h0 : (ts.getD 0 []).length = 1) (m : Nat) (hm : 2 + 3 * m ≤ ts.length) (hq : ∀ j, j < m → (rq ts j).2 = true) : encL (b0 (ts.getD 0 [])) (mk (ts.getD 1 [])) (rqs ts m) = ts.take (2 + 3 * m) := by
 induction m with
 | zero =>
  match ts, h2 with
  | a :: b :: r, _ =>
   have h0' : a.length = 1 := h0
   show [[u8 (b0 a)], (mk b).toList] = [a, b]
   rw [mk_toList, ← one_of h0']
 | succ m ih =>
  rw [rqs_succ, encL_snoc, ih (by omega) (fun j hj => hq j (by omega)), show 2 + 3 * (m + 1) = (2 + 3 * m) + 3 by omega, take3 (by omega)]
  have := parts_reqF (hq m (by omega))
  unfold rq
  rw [this, show 2 + 3 * m + 1 = 3 + 3 * m by omega, show 2 + 3 * m + 2 = 4 + 3 * m by omega]
theorem decF_back {s : List UInt8} {h : Int} {p : ByteArray} {l : List S53} (hd : decF s = ((h, p, l), 0)) : okB h p l ∧ texts (encL h p l) = s ∧ s.length ≤ 4096 := by
 cases hr : readR s with
 | none => rw [decF_none hr] at hd; exact (three_ne hd).elim
 | some ts =>
  have hd' := hd
  rw [decF_some hr] at hd'
  by_cases hc : s.length ≤ 4096 ∧ (readF ts).2 = true
  ·
   rw [if_pos hc] at hd'
   have e1 : (readF ts).1 = (h, p, l) := congrArg Prod.fst hd'
   by_cases hq : (2 ≤ ts.length ∧ (ts.length - 2) % 3 = 0 ∧ (ts.getD 0 []).length = 1) ∧ ∀ j, j < (ts.length - 2) / 3 → (rq ts j).2 = true
   ·
    have hp := readF_pos hq
    have hc2 := hc.2
    rw [hp] at e1 hc2
    have eh : b0 (ts.getD 0 []) = h := congrArg Prod.fst e1
    have ep : mk (ts.getD 1 []) = p := congrArg (fun x => x.2.1) e1
    have el : rqs ts ((ts.length - 2) / 3) = l := congrArg (fun x => x.2.2) e1
    have hb : eB (b0 (ts.getD 0 [])) (mk (ts.getD 1 [])) (rqs ts ((ts.length - 2) / 3)) = 0 := eq_of_beq hc2
    have hE := encL_rqs hq.1.1 hq.1.2.2 ((ts.length - 2) / 3) (by omega) hq.2
    rw [eh, ep, el] at hb hE
    have hok : okB h p l := by
     by_cases hk : okB h p l
     ·
      exact hk
     ·
      rw [eB_neg hk] at hb
      cases hb
    refine ⟨hok, ?_, hc.1⟩
    rw [hE, List.take_of_length_le (by omega)]
    exact readR_back _ _ _ rfl hr
   ·
    have := hc.2
    rw [readF_neg hq] at this
    cases this
  ·
   rw [if_neg hc] at hd'
   exact (three_ne hd').elim
theorem encF_dec {s : List UInt8} {h : Int} {p : ByteArray} {l : List S53} (hd : decF s = ((h, p, l), 0)) : encF h p l = (s, 0) := by
 obtain ⟨hk, ht, hl⟩ := decF_back hd
 unfold encF encO
 rw [if_pos hk, ht, if_neg (by omega)]
theorem decF_encF {s : List UInt8} {h : Int} {p : ByteArray} {l : List S53} (he : encF h p l = (s, 0)) : decF s = ((h, p, l), 0) ∧ s.length ≤ 4096 := by
 unfold encF encO at he
 by_cases hk : okB h p l
 ·
  rw [if_pos hk] at he
  by_cases hs : (texts (encL h p l)).length > 4096
  ·
   rw [if_pos hs] at he
   exact (two_ne he).elim
  ·
   rw [if_neg hs] at he
   have e1 : texts (encL h p l) = s := congrArg Prod.fst he
   subst e1
   exact ⟨decF_enc hk (by omega), by omega⟩
 ·
  rw [if_neg hk] at he
  exact (one_ne he).elim
def rA : S53 := ⟨3, 9, ⟨3, 2, ⟨#[]⟩, ⟨#[]⟩⟩⟩
def sA : List UInt8 := texts (encL 0 (mk first32) [])
noncomputable def dA : List UInt8 := shaF sA
noncomputable def tA : List UInt8 := texts (encL 1 (mk dA) [rA])
theorem okA : okB 0 (mk first32) [] := ⟨by decide, rfl, by decide, (fun h => by obtain ⟨i, hi, _⟩ := h; exact absurd hi (by simp)), fun r hr => by cases hr⟩
theorem okQA : okQ rA := by
 refine ⟨by decide, by decide, ?_⟩
 show okC 3 2 0 0
 decide
theorem okD : okB 1 (mk dA) [rA] := by
 refine ⟨by decide, ?_, by decide, ?_, ?_⟩
 ·
  rw [mk_size]; exact shaF_len _
 ·
  rintro ⟨i, hi, h⟩
  have : i = 0 := by simpa using hi
  subst this
  cases h
 ·
  intro r hr
  rw [List.mem_singleton] at hr
  subst hr
  exact okQA
theorem sA_len : sA.length = 41 := by
 show (texts [[u8 0], (mk first32).toList]).length = _
 simp only [texts_cons, texts_nil, List.length_append, text_length, List.length_cons, List.length_nil, mk_toList, first32, List.length_replicate]
theorem cA_len : (cmdB rA).length = 18 := by rw [cmdB_len]; rfl
theorem tA_len : tA.length = 76 := by
 have h := shaF_len sA
 show (texts [[u8 1], (mk (shaF sA)).toList, [u8 3], SG.four (9 : Int).toNat, cmdB rA]).length = _
 simp only [texts_cons, texts_nil, List.length_append, text_length, List.length_cons, List.length_nil, mk_toList, h, SG.four_length, cA_len]
theorem encA : encF 0 (mk first32) [] = (sA, 0) := by
 unfold encF encO
 rw [if_pos okA]
 show (if sA.length > 4096 then _ else (sA, _)) = _
 rw [if_neg (by rw [sA_len]; decide)]
theorem encD : encF 1 (mk dA) [rA] = (tA, 0) := by
 unfold encF encO
 rw [if_pos okD]
 show (if tA.length > 4096 then _ else (tA, _)) = _
 rw [if_neg (by rw [tA_len]; decide)]
theorem decA' : decF sA = ((0, mk first32, []), 0) := (decF_encF encA).1
theorem decD : decF tA = ((1, mk dA, [rA]), 0) := (decF_encF encD).1
theorem chainA : chainG 0 first32 [sA, tA] = (2, 0) := by
 rw [chainG_yes (by rw [decA']; exact ⟨rfl, rfl, rfl⟩), chainG_yes (by rw [decD]; exact ⟨rfl, rfl, rfl⟩)]
 rfl
theorem chainD : chainG 0 first32 [tA] = (0, 3) := by
 rw [chainG_no]
 ·
  rfl
 ·
  rw [decD]
  rintro ⟨_, h, _⟩
  exact absurd h (by decide)
end Go.Proofs.YtifpomknkjegeaaDoor.Bk
namespace Go.Proofs.YtifpomknkjegeaaDoor.Bk
open Go.RowKit Go.Proofs.YtifpomknkjegeaaDoor.PAll Go.Proofs.YtifpomknkjegeaaDoorW.PrintWords Go.Proofs.YtifpomknkjegeaaDoorW.PrintLast Go.Proofs.YtifpomknkjegeaaDoorW.PrintMore SG Go.Proofs.YtifpomknkjegeaaDoor.BFun Go.Proofs.YtifpomknkjegeaaDoor.Hlp Go.Proofs.YtifpomknkjegeaaDoor.Sha
set_option linter.unusedVariables false
set_option linter.unusedSimpArgs false
theorem E_same0 (l : List S53) (hl : l.length ≤ 1000000) (d : Nat) : ∀ i : Nat, l.length - i = d → Ev (fun k => api_Request_36.l0 k l l (l.length : Int) (i : Int)) true := by
 induction d with
 | zero =>
  intro i hd
  refine Ev.step (f := fun k => _) (fun k => by rw [api_Request_36.l0]) ?_
  simp only [if_neg (show ¬ (i : Int) < (l.length : Int) by omega)]
  exact nowE _
 | succ d ih =>
  intro i hd
  refine Ev.step (f := fun k => _) (fun k => by rw [api_Request_36.l0]) ?_
  simp only [if_pos (show (i : Int) < (l.length : Int) by omega), if_pos (show 0 ≤ (i : Int) by omega), beq_self_eq_true, Bool.not_true, Bool.or_self]
  simp only [Bool.false_eq_true, if_false]
  rw [w64_1 i (by omega)]
  exact ih (i + 1) (by omega)
theorem E_same (l : List S53) (hl : l.length ≤ 1000000) (h : Int) (p : ByteArray) : Ev (fun k => block_Same.f k h p l h p l) true := by
 have := E_same0 l hl l.length 0 (by omega)
 unfold block_Same.f api_Request_36.f
 simp only [if_pos]
 exact Ev.bind this (nowE _)
theorem sameC (h : Int) (p : ByteArray) (l : List S53) (hl : l.length ≤ 1000000) (A : Option Addr) (n c : Nat) (A' : Option Addr) (n' c' : Nat) (w : World) (hn : n = l.length) (hn' : n' = l.length) (hC : Kd.C k53 w A n l) (hC' : Kd.C k53 w A' n' l) (hc : n ≤ c) (hc' : n' ≤ c') :
  Calls Tryd.prog 16 #[.agg (cB h p A n c), .agg (cB h p A' n' c')] w fun e w' => e = .returned (.bool true) ∧ Below w.heap.size w w' := by
 subst hn
 subst hn'
 obtain ⟨q, hq⟩ := roundsE (E_same l hl h p)
 exact block_Same.calls q h p A c l h p A' c' l true w hC hc hC' hc' hq
theorem E_rsame0 (l : List S53) (hl : l.length ≤ 1000000) (d : Nat) : ∀ i : Nat, l.length - i = d → Ev (fun k => sandglassref42_Same.l0 k l l (i : Int)) true := by
 induction d with
 | zero =>
  intro i hd
  refine Ev.step (f := fun k => _) (fun k => by rw [sandglassref42_Same.l0]) ?_
  simp only [if_neg (show ¬ (i : Int) < (l.length : Int) by omega)]
  exact nowE _
 | succ d ih =>
  intro i hd
  refine Ev.step (f := fun k => _) (fun k => by rw [sandglassref42_Same.l0]) ?_
  simp only [if_pos (show (i : Int) < (l.length : Int) by omega), if_pos (show 0 ≤ (i : Int) by omega), beq_self_eq_true, Bool.not_true, Bool.or_self]
  simp only [Bool.false_eq_true, if_false]
  rw [w64_1 i (by omega)]
  exact ih (i + 1) (by omega)
theorem E_rsame (l : List S53) (hl : l.length ≤ 1000000) (h : Int) (p : ByteArray) : Ev (fun k => sandglassref43_Same.f k h p l h p l) true := by
 have := E_rsame0 l hl l.length 0 (by omega)
 unfold sandglassref43_Same.f sandglassref42_Same.f
 simp only [if_pos]
 exact Ev.bind this (nowE _)
theorem rsameC (h : Int) (p : ByteArray) (l : List S53) (hl : l.length ≤ 1000000) (A : Option Addr) (n c : Nat) (A' : Option Addr) (n' c' : Nat) (w : World) (hn : n = l.length) (hn' : n' = l.length) (hC : Kd.C k53 w A n l) (hC' : Kd.C k53 w A' n' l) (hc : n ≤ c) (hc' : n' ≤ c') :
  Calls Tryd.prog 17 #[.agg (cB h p A n c), .agg (cB h p A' n' c')] w fun e w' => e = .returned (.bool true) ∧ Below w.heap.size w w' := by
 subst hn
 subst hn'
 obtain ⟨q, hq⟩ := roundsE (E_rsame l hl h p)
 exact sandglassref43_Same.calls q h p A c l h p A' c' l true w hC hc hC' hc' hq
def fewP (p : ByteArray) (l : List S53) : Prop := l.length ≤ 20 ∧ p.size ≤ 1000 ∧ ∀ r ∈ l, r.f2.f2.size ≤ 100 ∧ r.f2.f3.size ≤ 5000
theorem E_few0 (h : Int) (p : ByteArray) (l : List S53) (hl : l.length ≤ 20) (d : Nat) : ∀ i : Nat, l.length - i = d → ∃ b, Ev (fun k => sandglasslaw43_few.l0 k (i : Int) h p l) b ∧ (b = true → ∀ j, i ≤ j → (hj : j < l.length) → l[j].f2.f2.size ≤ 100 ∧ l[j].f2.f3.size ≤ 5000) := by
 induction d with
 | zero =>
  intro i hd
  refine ⟨true, ?_, fun _ j h1 h2 => by omega⟩
  refine Ev.step (f := fun k => _) (fun k => by rw [sandglasslaw43_few.l0]) ?_
  simp only [if_neg (show ¬ (i : Int) < (l.length : Int) by omega)]
  exact nowE _
 | succ d ih =>
  intro i hd
  have hi : i < l.length := by omega
  by_cases h1 : l[i].f2.f2.size ≤ 100
  ·
   by_cases h2 : l[i].f2.f3.size ≤ 5000
   ·
    obtain ⟨b, hb, hp⟩ := ih (i + 1) (by omega)
    refine ⟨b, ?_, fun hb j h3 h4 => ?_⟩
    ·
     refine Ev.step (f := fun k => _) (fun k => by rw [sandglasslaw43_few.l0]) ?_
     simp only [if_pos (show (i : Int) < (l.length : Int) by omega), if_pos (show 0 ≤ (i : Int) by omega), rd53 hi, if_neg (show ¬ ((l[i].f2.f2.size : Int) > 100) by omega), if_neg (show ¬ ((l[i].f2.f3.size : Int) > 5000) by omega)]
     rw [w64_1 i (by omega)]
     exact hb
    ·
     by_cases h5 : j = i
     ·
      subst h5
      exact ⟨h1, h2⟩
     ·
      exact hp hb j (by omega) h4
   ·
    refine ⟨false, ?_, fun h => by cases h⟩
    refine Ev.step (f := fun k => _) (fun k => by rw [sandglasslaw43_few.l0]) ?_
    simp only [if_pos (show (i : Int) < (l.length : Int) by omega), if_pos (show 0 ≤ (i : Int) by omega), rd53 hi, if_neg (show ¬ ((l[i].f2.f2.size : Int) > 100) by omega), if_pos (show ((l[i].f2.f3.size : Int) > 5000) by omega)]
    exact nowE _
  ·
   refine ⟨false, ?_, fun h => by cases h⟩
   refine Ev.step (f := fun k => _) (fun k => by rw [sandglasslaw43_few.l0]) ?_
   simp only [if_pos (show (i : Int) < (l.length : Int) by omega), if_pos (show 0 ≤ (i : Int) by omega), rd53 hi, if_pos (show ((l[i].f2.f2.size : Int) > 100) by omega)]
   exact nowE _
theorem E_few (h : Int) (p : ByteArray) (l : List S53) : ∃ b, Ev (fun k => sandglasslaw43_few.f k h p l) b ∧ (b = true → fewP p l) := by
 unfold sandglasslaw43_few.f
 by_cases h1 : l.length ≤ 20
 ·
  by_cases h2 : p.size ≤ 1000
  ·
   obtain ⟨b, hb, hp⟩ := E_few0 h p l h1 l.length 0 (by omega)
   refine ⟨b, ?_, fun e => ⟨h1, h2, fun r hr => ?_⟩⟩
   ·
    simp only [if_neg (show ¬ ((l.length : Int) > 20) by omega), decide_eq_false (show ¬ ((p.size : Int) > 1000) by omega)]
    refine Ev.step (f := fun k => _) (fun k => by rw [sandglasslaw43_few.j0]) ?_
    simp only [Bool.false_eq_true, if_false]
    exact hb
   ·
    obtain ⟨j, hj, rfl⟩ := List.getElem_of_mem hr
    exact hp e j (by omega) hj
  ·
   refine ⟨false, ?_, fun h => by cases h⟩
   simp only [if_neg (show ¬ ((l.length : Int) > 20) by omega), decide_eq_true (show ((p.size : Int) > 1000) by omega)]
   refine Ev.step (f := fun k => _) (fun k => by rw [sandglasslaw43_few.j0]) ?_
   simp only [if_true]
   exact nowE _
 ·
  refine ⟨false, ?_, fun h => by cases h⟩
  simp only [if_pos (show ((l.length : Int) > 20) by omega)]
  refine Ev.step (f := fun k => _) (fun k => by rw [sandglasslaw43_few.j0]) ?_
  simp only [if_true]
  exact nowE _
theorem fewC (h : Int) (p : ByteArray) (A : Option Addr) (n c : Nat) (l : List S53) (w : World) (hn : n = l.length) (hC : Kd.C k53 w A n l) (hnc : n ≤ c) :
  Calls Tryd.prog 8 #[.agg (cB h p A n c)] w fun e w' => ∃ b, e = .returned (.bool b) ∧ (b = true → fewP p l) ∧ Below w.heap.size w w' := by
 subst hn
 obtain ⟨b, hb, hp⟩ := E_few h p l
 obtain ⟨q, hq⟩ := roundsE hb
 refine (sandglasslaw43_few.calls q h p A c l b w hC hnc hq).mono ?_
 rintro e w' ⟨he, hb⟩
 exact ⟨b, he, hp, hb⟩
theorem fewP_short {p : ByteArray} {l : List S53} (h : fewP p l) : shortQ l := fun r hr => by have := h.2.2 r hr; omega
theorem repsA (w : World) (base : Nat) (okp : Nat → Prop) (r : S53) : Reps (k53.M w base okp) k53.sz [r] (cR r).toList := by
 refine ⟨rfl, fun j p hp => ?_⟩
 match j, hp with
 | 0, hp =>
  injection hp with hp
  subst hp
  exact k53_mkM w base okp r
end Go.Proofs.YtifpomknkjegeaaDoor.Bk
namespace Go.Proofs.YtifpomknkjegeaaDoor.Bk
open Go.RowKit Go.Proofs.YtifpomknkjegeaaDoor.PAll Go.Proofs.YtifpomknkjegeaaDoorW.PrintWords Go.Proofs.YtifpomknkjegeaaDoorW.PrintLast Go.Proofs.YtifpomknkjegeaaDoorW.PrintMore SG Go.Proofs.YtifpomknkjegeaaDoor.BFun Go.Proofs.YtifpomknkjegeaaDoor.Hlp Go.Proofs.YtifpomknkjegeaaDoor.Sha
set_option linter.unusedVariables false
set_option linter.unusedSimpArgs false
theorem digestA (w : World) (hT : Tab w) : Calls Tryd.prog 18 #[.string (mk sA)] w fun e w' => e = .returned (.string (mk dA)) ∧ Below w.heap.size w w' := by
 have h := digest (mk sA) w hT (by rw [mk_size, sA_len]; decide)
 rw [mk_toList] at h
 exact h
theorem eZ : eB 0 ⟨#[]⟩ [] = 1 := eB_neg (fun h => absurd h.2.1 (by decide))
theorem sA_size : (((mk sA).size : Int) == 41) = true := by rw [mk_size, sA_len]; rfl
theorem shortA : shortQ [rA] := fun r hr => by
 rw [List.mem_singleton] at hr
 subst hr
 decide
theorem short0 : shortQ [] := fun r hr => by cases hr
theorem lenAD : ∀ t ∈ [sA, tA], t.length ≤ 1000000 := by
 intro t ht
 simp only [List.mem_cons, List.not_mem_nil, or_false] at ht
 rcases ht with rfl | rfl
 ·
  rw [sA_len]; decide
 ·
  rw [tA_len]; decide
theorem lenD : ∀ t ∈ [tA], t.length ≤ 1000000 := by
 intro t ht
 simp only [List.mem_cons, List.not_mem_nil, or_false] at ht
 rcases ht with rfl
 rw [tA_len]; decide
theorem decDC (w : World) : Calls Tryd.prog 14 #[.string (mk tA)] w fun e w' => ∃ A c, e = .returned (.tuple #[.agg (cB 1 (mk dA) A 1 c), .int .i64 0]) ∧ 1 ≤ c ∧ Kd.C k53 w' A 1 [rA] ∧ Below w.heap.size w w' := by
 refine (decode_walk tA (by rw [tA_len]; decide) w).mono ?_
 rintro e w' ⟨A, m, c, rfl, hm, hmc, hR, hb⟩
 rw [decD] at hm hR ⊢
 have hm1 : m = 1 := hm
 subst hm1
 exact ⟨A, c, rfl, hmc, (Kd.R_reads' hR).2.2, hb⟩
theorem chainAC (A : Option Addr) (c : Nat) (w : World) (hT : Tab w) (hC : Kd.C Kd.string w A 2 [mk sA, mk tA]) : Calls Tryd.prog 20 #[.slice A 2 c] w fun e w' => e = .returned (.tuple #[.int .i64 2, .int .i64 0]) ∧ Below w.heap.size w w' := by
 have h := chain_walk [sA, tA] A 2 c w hT rfl hC (by decide) lenAD
 rw [chainA] at h
 exact h
theorem chainDC (A : Option Addr) (c : Nat) (w : World) (hT : Tab w) (hC : Kd.C Kd.string w A 1 [mk tA]) : Calls Tryd.prog 20 #[.slice A 1 c] w fun e w' => e = .returned (.tuple #[.int .i64 0, .int .i64 3]) ∧ Below w.heap.size w w' := by
 have h := chain_walk [tA] A 1 c w hT rfl hC (by decide) lenD
 rw [chainD] at h
 exact h
theorem checkZ (w : World) : Calls Tryd.prog 12 #[.agg (cB 0 ⟨#[]⟩ none 0 0)] w fun e w' => e = .returned (.int .i64 1) ∧ Below w.heap.size w w' := by
 have h := check_walk 0 ⟨#[]⟩ none 0 0 [] w rfl (Kd.C_nil k53 w) (Nat.le_refl _) (by decide) short0
 rw [eZ] at h
 exact h
set_option maxHeartbeats 16000000 in
set_option maxRecDepth 100000 in
theorem awake_walk (w : World) (hT : Tab w) : Calls Tryd.prog 9 #[] w fun e w' => e = .returned (.bool true) ∧ Below w.heap.size w w' := by
 have HT := sqA hT
 clear hT
 have hlen := sA_size
 go_enter Tryd.func9, Tryd.ntmps9
 go_wp2_with (first | ((with_reducible refine gate_callee (f := 22) rfl ?_); refine goesL_ (some 13) rfl rfl Tryd.func22 (by kernel_rfl) rfl #[] rfl sqm ?_; (with_reducible refine (firstC _).mono ?_); rintro e w1 ⟨rfl, hb⟩; refine ⟨_, rfl, ?_⟩; have HB1 := sqA hb; clear hb) | ((with_reducible refine gate_dst (N := 1) rfl ?_); refine sqo (N := 1) (cs := #[.int .i64 0, .string ⟨#[]⟩, .slice none 0 0]) (t := 24) ?_; intro ga hgga w2 hboxga hbga; have HGga := sqA hboxga; have HBga := sqA hbga; have HGEga := sqA (show w1.heap.size ≤ ga by rw [hgga]; exact Nat.le_refl _); obtain ⟨gab0, gabz0, gab1, gabz1, gab2, gabz2⟩ := sq3 hboxga; clear hgga hboxga hbga) | ((with_reducible refine gate_store (t := 24) (p := 1) (v := .tmp 14) rfl ?_); refine sqp (w1 := (set3 w2 ga 0 (mk first32) (.slice none 0 0))) ?_; intro w3 hww3; have hgga : w3.heap[ga]? = some (.cells #[.int .i64 0, .string (mk first32), .slice none 0 0] 24 (0, 0)) := (by rw [hww3]; exact set3_blk HGga.out _ _ _); have hbs : Below w1.heap.size w1 w3 := (by rw [hww3]; exact set3_below HBga.out HGEga.out _ _ _); have HXga := sqA hgga; have HBw3 := sqA (below_step HB1.out hbs); obtain ⟨gas0, gasz0, gas1, gasz1, gas2, gasz2⟩ := sq3 hgga; clear hww3 hgga hbs) | ((with_reducible refine gate_callee (f := 10) rfl ?_); refine goesL_ (some 17) rfl rfl Tryd.func10 (by kernel_rfl) rfl #[.agg (cB 0 (mk first32) none 0 0)] rfl sqm ?_; (with_reducible refine (encode_walk 0 (mk first32) none 0 0 [] _ rfl (Kd.C_nil k53 _) (Nat.le_refl _) (by decide) short0).mono ?_); rintro e w4 ⟨rfl, hb⟩; refine ⟨_, rfl, ?_⟩; rw [encA]; have HB4 := sqA (below_step HBw3.out hb); clear hb gas0 gasz0 gas1 gasz1 gas2 gasz2 gab0 gabz0 gab1 gabz1 gab2 gabz2) | ((with_reducible refine gate_callee (f := 18) rfl ?_); refine goesL_ (some 21) rfl rfl Tryd.func18 (by kernel_rfl) rfl #[.string (mk sA)] rfl sqm ?_; (with_reducible refine (digestA _ (HT.out.below HB4.out)).mono ?_); rintro e w5 ⟨rfl, hb⟩; refine ⟨_, rfl, ?_⟩; have HB5 := sqA (below_step HB4.out hb); clear hb) | ((with_reducible refine gate_dst (N := 24) rfl ?_); refine Kd.R_lit k53 (w0 := w5) w5.heap.size 53 rfl (N := 24) rfl (xs := [rA]) (inner := [.int .i64 3, .int .i64 9, .int .i64 3, .int .i64 2, .string ⟨#[]⟩, .string ⟨#[]⟩]) (okp := fun _ => False) (ok := fun _ => True) ?hr ?hrep (fun _ _ => trivial) trivial (Below.refl _ _) (Nat.le_refl _) (by show 1 ≤ _; decide) ?_; (case hr => first | (go_simp; done) | (go_simp; rfl)); (case hrep => exact repsA _ _ _ rA); intro v6 w6 hrv6 hbl hgv6 hatv6; have HBw6 := sqA (below_step HB5.out hbl); obtain ⟨A6, c6, rfl, hc6, hCv6⟩ := Kd.R_reads hrv6; have HCw6 : Aside0 (Kd.C k53 w6 A6 1 [rA]) := ⟨hCv6⟩; have hcc6 : 1 ≤ c6 := hc6; clear hrv6 hbl hgv6 hatv6 hCv6 hc6) | ((with_reducible refine gate_dst (N := 4) rfl ?_); refine sqo (N := 4) (cs := #[.int .i64 0, .string ⟨#[]⟩, .slice none 0 0]) (t := 24) ?_; intro gb hggb w7 hboxgb hbgb; have HGgb := sqA hboxgb; have HBgb := sqA hbgb; have HGEgb := sqA (show w6.heap.size ≤ gb by rw [hggb]; exact Nat.le_refl _); obtain ⟨gbb0, gbbz0, gbb1, gbbz1, gbb2, gbbz2⟩ := sq3 hboxgb; clear hggb hboxgb hbgb) | ((with_reducible refine gate_store (t := 24) (p := 4) (v := .tmp 25) rfl ?_); refine sqp (w1 := (set3 w7 gb 1 (mk dA) (.slice A6 1 c6))) ?_; intro w8 hww8; have hggb : w8.heap[gb]? = some (.cells #[.int .i64 1, .string (mk dA), .slice A6 1 c6] 24 (0, 0)) := (by rw [hww8]; exact set3_blk HGgb.out _ _ _); have hbs : Below w6.heap.size w6 w8 := (by rw [hww8]; exact set3_below HBgb.out HGEgb.out _ _ _); have HXgb := sqA hggb; have HBw8 := sqA (below_step HBw6.out hbs); obtain ⟨gbs0, gbsz0, gbs1, gbsz1, gbs2, gbsz2⟩ := sq3 hggb; have HCw8 := sqA (Kd.C_below HCw6.out hbs); clear hww8 hggb hbs) | ((with_reducible refine gate_callee (f := 10) rfl ?_); refine goesL_ (some 28) rfl rfl Tryd.func10 (by kernel_rfl) rfl #[.agg (cB 1 (mk dA) A6 1 c6)] rfl sqm ?_; (with_reducible refine (encode_walk 1 (mk dA) A6 1 c6 [rA] _ rfl HCw8.out hcc6 (by decide) shortA).mono ?_); rintro e w9 ⟨rfl, hb⟩; refine ⟨_, rfl, ?_⟩; rw [encD]; have HB9 := sqA (below_step HBw8.out hb); have HC9 := sqA (Kd.C_below HCw8.out hb); have HXb9 := sqA (blk_below HXgb.out hb); clear hb gbs0 gbsz0 gbs1 gbsz1 gbs2 gbsz2 gbb0 gbbz0 gbb1 gbbz1 gbb2 gbbz2) | ((with_reducible refine gate_callee (f := 14) rfl ?_); refine goesL_ (some 33) rfl rfl Tryd.func14 (by kernel_rfl) rfl #[.string (mk tA)] rfl sqm ?_; (with_reducible refine (decDC _).mono ?_); rintro e w10 ⟨A11, c11, rfl, hcc11, hC, hb⟩; refine ⟨_, rfl, ?_⟩; (simp only [cB]); have HB10 := sqA (below_step HB9.out hb); have HC10 := sqA (Kd.C_below HC9.out hb); have HXb10 := sqA (blk_below HXb9.out hb); have HD10 := sqA hC; clear hb hC) | ((with_reducible refine gate_dst (N := 7) rfl ?_); refine sqo (N := 7) (cs := #[.int .i64 0, .string ⟨#[]⟩, .slice none 0 0]) (t := 24) ?_; intro gc hggc w11 hboxgc hbgc; have HGgc := sqA hboxgc; have HBgc := sqA hbgc; have HGEgc := sqA (show w10.heap.size ≤ gc by rw [hggc]; exact Nat.le_refl _); obtain ⟨gcb0, gcbz0, gcb1, gcbz1, gcb2, gcbz2⟩ := sq3 hboxgc; clear hggc hboxgc hbgc) | ((with_reducible refine gate_store (t := 24) (p := 7) (v := .tmp 34) rfl ?_); refine sqp (w1 := (set3 w11 gc 1 (mk dA) (.slice A11 1 c11))) ?_; intro w12 hww12; have hggc : w12.heap[gc]? = some (.cells #[.int .i64 1, .string (mk dA), .slice A11 1 c11] 24 (0, 0)) := (by rw [hww12]; exact set3_blk HGgc.out _ _ _); have hbs : Below w10.heap.size w10 w12 := (by rw [hww12]; exact set3_below HBgc.out HGEgc.out _ _ _); have HXgc := sqA hggc; have HBw12 := sqA (below_step HB10.out hbs); obtain ⟨gcs0, gcsz0, gcs1, gcsz1, gcs2, gcsz2⟩ := sq3 hggc; have HC12 := sqA (Kd.C_below HC10.out hbs); have HXb12 := sqA (blk_below HXb10.out hbs); have HD12 := sqA (Kd.C_below HD10.out hbs); have HXc12 := sqA hggc; clear hww12 hggc hbs) | ((with_reducible refine gate_dst (N := 39) rfl ?_); refine Kd.R_lit Kd.string (w0 := w12) w12.heap.size 9 rfl (N := 39) rfl (xs := [mk sA, mk tA]) (inner := [.string (mk sA), .string (mk tA)]) (okp := fun _ => False) (ok := fun _ => True) ?hr ?hrep (fun _ _ => trivial) trivial (Below.refl _ _) (Nat.le_refl _) (by show 2 ≤ _; decide) ?_; (case hr => first | (go_simp; done) | (go_simp; rfl)); (case hrep => exact Kd.reps_scalar (enc := Value.string) [mk sA, mk tA]); intro v13 w13 hrv13 hbl hgv13 hatv13; have HBw13 := sqA (below_step HBw12.out hbl); obtain ⟨A13, c13, rfl, hc13, hCv13⟩ := Kd.R_reads hrv13; have HCw13 : Aside0 (Kd.C Kd.string w13 A13 2 [mk sA, mk tA]) := ⟨hCv13⟩; have hcc13 : 2 ≤ c13 := hc13; have HC13 := sqA (Kd.C_below HC12.out hbl); have HXb13 := sqA (blk_below HXb12.out hbl); have HD13 := sqA (Kd.C_below HD12.out hbl); have HXc13 := sqA (blk_below HXc12.out hbl); clear hrv13 hbl hgv13 hatv13 hCv13 hc13) | ((with_reducible refine gate_callee (f := 20) rfl ?_); refine goesL_ (some 40) rfl rfl Tryd.func20 (by kernel_rfl) rfl #[.slice A13 2 c13] rfl sqm ?_; (with_reducible refine (chainAC A13 c13 _ (HT.out.below HBw13.out) HCw13.out).mono ?_); rintro e w14 ⟨rfl, hb⟩; refine ⟨_, rfl, ?_⟩; have HB14 := sqA (below_step HBw13.out hb); have HC14 := sqA (Kd.C_below HC13.out hb); have HXb14 := sqA (blk_below HXb13.out hb); have HD14 := sqA (Kd.C_below HD13.out hb); have HXc14 := sqA (blk_below HXc13.out hb); clear hb) | ((with_reducible refine gate_dst (N := 45) rfl ?_); refine Kd.R_lit Kd.string (w0 := w14) w14.heap.size 9 rfl (N := 45) rfl (xs := [mk tA]) (inner := [.string (mk tA)]) (okp := fun _ => False) (ok := fun _ => True) ?hr ?hrep (fun _ _ => trivial) trivial (Below.refl _ _) (Nat.le_refl _) (by show 1 ≤ _; decide) ?_; (case hr => first | (go_simp; done) | (go_simp; rfl)); (case hrep => exact Kd.reps_scalar (enc := Value.string) [mk tA]); intro v15 w15 hrv15 hbl hgv15 hatv15; have HBw15 := sqA (below_step HB14.out hbl); obtain ⟨A15, c15, rfl, hc15, hCv15⟩ := Kd.R_reads hrv15; have HCw15 : Aside0 (Kd.C Kd.string w15 A15 1 [mk tA]) := ⟨hCv15⟩; have hcc15 : 1 ≤ c15 := hc15; have HC15 := sqA (Kd.C_below HC14.out hbl); have HXb15 := sqA (blk_below HXb14.out hbl); have HD15 := sqA (Kd.C_below HD14.out hbl); have HXc15 := sqA (blk_below HXc14.out hbl); clear hrv15 hbl hgv15 hatv15 hCv15 hc15) | ((with_reducible refine gate_callee (f := 20) rfl ?_); refine goesL_ (some 46) rfl rfl Tryd.func20 (by kernel_rfl) rfl #[.slice A15 1 c15] rfl sqm ?_; (with_reducible refine (chainDC A15 c15 _ (HT.out.below HBw15.out) HCw15.out).mono ?_); rintro e w16 ⟨rfl, hb⟩; refine ⟨_, rfl, ?_⟩; have HB16 := sqA (below_step HBw15.out hb); have HC16 := sqA (Kd.C_below HC15.out hb); have HXb16 := sqA (blk_below HXb15.out hb); have HD16 := sqA (Kd.C_below HD15.out hb); have HXc16 := sqA (blk_below HXc15.out hb); obtain ⟨p0, pz0, p1, pz1, p2, pz2⟩ := sq3 HXb16.out; obtain ⟨q0, qz0, q1, qz1, q2, qz2⟩ := sq3 HXc16.out; clear hb) | ((refine (sameC 1 (mk dA) [rA] (by decide) A6 1 c6 A11 1 c11 _ rfl rfl HC16.out HD16.out hcc6 hcc11).mono ?_); rintro e w17 ⟨rfl, hb⟩; have HB17 := sqA (below_step HB16.out hb); clear hb) | ((refine (checkZ _).mono ?_); rintro e w18 ⟨rfl, hb⟩; have HB18 := sqA (below_step HB17.out hb); clear hb))
 go_ret
 exact ⟨rfl, HB18.out⟩
end Go.Proofs.YtifpomknkjegeaaDoor.Bk
namespace Go.Proofs.YtifpomknkjegeaaDoor.Bk
open Go.RowKit Go.Proofs.YtifpomknkjegeaaDoor.PAll Go.Proofs.YtifpomknkjegeaaDoorW.PrintWords Go.Proofs.YtifpomknkjegeaaDoorW.PrintLast Go.Proofs.YtifpomknkjegeaaDoorW.PrintMore SG Go.Proofs.YtifpomknkjegeaaDoor.BFun Go.Proofs.YtifpomknkjegeaaDoor.Hlp Go.Proofs.YtifpomknkjegeaaDoor.Sha
set_option linter.unusedVariables false
set_option linter.unusedSimpArgs false
noncomputable def fewB (h : Int) (p : ByteArray) (l : List S53) : Bool := Classical.choose (E_few h p l)
theorem fewB_P {h : Int} {p : ByteArray} {l : List S53} (hb : fewB h p l = true) : fewP p l := (Classical.choose_spec (E_few h p l)).2 hb
theorem fewBC (h : Int) (p : ByteArray) (A : Option Addr) (n c : Nat) (l : List S53) (w : World) (hn : n = l.length) (hC : Kd.C k53 w A n l) (hnc : n ≤ c) :
  Calls Tryd.prog 8 #[.agg (cB h p A n c)] w fun e w' => e = .returned (.bool (fewB h p l)) ∧ Below w.heap.size w w' := by
 subst hn
 obtain ⟨q, hq⟩ := roundsE (Classical.choose_spec (E_few h p l)).1
 exact sandglasslaw43_few.calls q h p A c l _ w hC hnc hq
theorem encF_err {h : Int} {p : ByteArray} {l : List S53} (he : (encF h p l).2 ≠ 0) : encF h p l = ([], (encF h p l).2) := by
 unfold encF encO at he ⊢
 by_cases hk : okB h p l
 ·
  rw [if_pos hk] at he ⊢
  by_cases hs : (texts (encL h p l)).length > 4096
  ·
   rw [if_pos hs]
  ·
   rw [if_neg hs] at he
   exact absurd rfl he
 ·
  rw [if_neg hk]
theorem mkA_ne (s : List UInt8) : ((mk s).toList != (mk s).toList) = false := by simp
theorem mkA_eq (s : List UInt8) : ((mk s).toList == (mk s).toList) = true := by simp
theorem decF_err {s : List UInt8} (he : (decF s).2 ≠ 0) : decF s = (noB, (decF s).2) := by
 cases hr : readR s with
 | none => rw [decF_none hr]
 | some ts =>
  rw [decF_some hr] at he ⊢
  by_cases hc : s.length ≤ 4096 ∧ (readF ts).2 = true
  ·
   rw [if_pos hc] at he
   exact absurd rfl he
  ·
   rw [if_neg hc]
theorem k53_len {w : World} {A : Option Addr} {n : Nat} {l : List S53} (hC : Kd.C k53 w A n l) (hn : n = l.length) : n ≤ 9223372036854775807 := hC.2.1
theorem decC (s : List UInt8) (h : Int) (p : ByteArray) (l : List S53) (er : Int) (hd : decF s = ((h, p, l), er)) (hl : s.length ≤ 1000000) (w : World) : Calls Tryd.prog 14 #[.string (mk s)] w fun e w' => ∃ A m c, e = .returned (.tuple #[.agg #[.int .i64 h, .string p, .slice A m c], .int .i64 er]) ∧ m = l.length ∧ m ≤ c ∧ Kd.C k53 w' A m l ∧ Below w.heap.size w w' := by
 refine (decode_walk s hl w).mono ?_
 rintro e w' ⟨A, m, c, rfl, hm, hmc, hR, hb⟩
 rw [hd] at hm hR ⊢
 have hm' : m = l.length := hm
 subst hm'
 exact ⟨A, l.length, c, rfl, rfl, hmc, (Kd.R_reads' hR).2.2, hb⟩
theorem decF_shape (s : List UInt8) : ∃ h p l er, decF s = ((h, p, l), er) := ⟨_, _, _, _, rfl⟩
end Go.Proofs.YtifpomknkjegeaaDoor.Bk
namespace Go.Proofs.YtifpomknkjegeaaDoor.Bk
open Go.ChangeShapes Go.WideShapes Go.ChangeAt Go.RowKit Go.Proofs.YtifpomknkjegeaaDoor.PAll Go.Proofs.YtifpomknkjegeaaDoorW.PrintWords SG Go.Proofs.YtifpomknkjegeaaDoor.Sha
set_option linter.unusedVariables false
set_option linter.unusedSimpArgs false
theorem gFirst : Tryd.prog.globalNamed "sandglass/sha.first" = some 0 := by kernel_rfl
theorem gRounds : Tryd.prog.globalNamed "sandglass/sha.rounds" = some 1 := by kernel_rfl
theorem tFirst : (Tryd.prog.globals[0]?).map (·.type) = some 98 := by kernel_rfl
theorem tRounds : (Tryd.prog.globals[1]?).map (·.type) = some 93 := by kernel_rfl
def laid2 {H : Type} : List (String × DataW H) := [("sandglass/sha.first", Rows.laid_sandglass_sha_first), ("sandglass/sha.rounds", Rows.laid_sandglass_sha_rounds)]
theorem door_met (os : Os) (args : Array Value) : laidMetH Tryd.prog laid2 ((World.doorLaid Tryd.prog 400 os).forCall (fun _ _ => 0) ⟨#[], args, []⟩).memory :=
 laidMetH_of_parts3 (fuel := 8) (laidMet_of_run' 8 (by kernel_rfl) (by kernel_rfl)) (by kernel_rfl) (by kernel_rfl)
theorem row_of_trod {H : Type} {enc : TypeId × Value → H} {P : Program} {w : World} {base : Nat} {sp : Nat → Bool} {held : Bool} {fuel : Nat} {t e : TypeId} {k : IntKind} {n : Nat} {cs : List Value} {ns : List Int} {q : List MemPlace}
  (ht : P.underlying t = some (.array n e)) (he : P.underlying e = some (.int k)) (hc : P.cellsOf e = 1) (hn : P.cellsOf t = n) (h : DataW.trod enc P w base sp held fuel t cs = some (.agg (ns.map fun x => .lit (.int k x)), q)) : cs = ns.map (Value.int k) := by
 obtain ⟨xs, m, rfl, hx, hl, hlen, hf⟩ := DataW.trod_array ht h
 have hx1 : ns.map (fun x => (DataW.lit (.int k x) : DataW H)) = xs.map (·.1) := by injection hx with hx1 _; injection hx1
 have hnl : ns.length = n := by have := congrArg List.length hx1; simp at this; omega
 apply List.ext_getElem
 ·
  rw [List.length_map, hl, hn, hnl]
 ·
  intro i h1 h2
  have hi : i < n := by rw [hl, hn] at h1; exact h1
  have h3 := hf i hi
  rw [hc, Nat.mul_one, List.getElem?_eq_getElem (by rw [hlen]; exact hi), List.drop_eq_getElem_cons h1] at h3
  obtain ⟨z, hz, hy, hw⟩ := DataW.trod_int he h3
  simp only [List.take_succ_cons, List.take_zero, List.cons.injEq, and_true] at hz
  have h4 : (ns.map (fun x => (DataW.lit (.int k x) : DataW H)))[i]? = (xs.map (·.1))[i]? := by rw [hx1]
  rw [List.getElem?_map, List.getElem?_map, List.getElem?_eq_getElem (by omega), List.getElem?_eq_getElem (by omega)] at h4
  simp only [Option.map_some, Option.some.injEq] at h4
  rw [hy] at h4
  have h5 : ns[i]'(by omega) = z := by injection h4 with h4; injection h4
  rw [hz, List.getElem_map, h5]
theorem heap_of_var {P : Program} {w : World} {s : String} {g : Nat} {cs : Array Value} (hg : P.globalNamed s = some g) (h : w.var? P s = some cs) : ∃ t f, w.heap[g]? = some (.cells cs t f) := by
 unfold World.var? at h
 rw [hg, Option.bind_some] at h
 split at h
 ·
  rename_i cs' t f hh
  injection h with h
  subst h
  exact ⟨t, f, hh⟩
 ·
  cases h
def FN : List Int := [1779033703, 3144134277, 1013904242, 2773480762, 1359893119, 2600822924, 528734635, 1541459225]
def KN : List Int := KT.map iv
theorem tab_of_laid {W : World} (h : laidMetH Tryd.prog laid2 W) : Tab W := by
 rw [MakeChecks.laidMetH_plain _ _ _ (by kernel_rfl)] at h
 obtain ⟨ps, ⟨g0, t0, cs0, f0, p0, q0, hg0, ht0, hv0, hd0, ⟨g1, t1, cs1, f1, p1, q1, hg1, ht1, hv1, hd1, _, _⟩, _⟩, _, _⟩ := h
 obtain rfl := Option.some.inj (gFirst.symm.trans hg0)
 obtain rfl := Option.some.inj (gRounds.symm.trans hg1)
 obtain rfl := Option.some.inj (tFirst.symm.trans ht0)
 obtain rfl := Option.some.inj (tRounds.symm.trans ht1)
 have e0 := row_of_trod (ns := FN) (k := .u32) (n := 8) Tryd.underlying98 (by kernel_rfl) (by kernel_rfl) (by kernel_rfl) hd0
 have e1 := row_of_trod (ns := KN) (k := .u32) (n := 64) Tryd.underlying93 (by kernel_rfl) (by kernel_rfl) (by kernel_rfl) hd1
 obtain ⟨t0, f0, h0⟩ := heap_of_var hg0 hv0
 obtain ⟨t1, f1, h1⟩ := heap_of_var hg1 hv1
 refine ⟨t0, f0, t1, f1, ?_, ?_⟩
 ·
  rw [h0]
  have : cs0 = FA := by
   apply Array.toList_inj.mp
   rw [e0]
   rfl
  rw [this]
 ·
  rw [h1]
  have : cs1 = KA := by
   apply Array.toList_inj.mp
   rw [e1]
   rfl
  rw [this]
def toQ : List Value → S53
 | [.int _ a, .int _ b, .int _ c, .int _ d, .string s, .string t] => ⟨a, b, ⟨c, d, s, t⟩⟩
 | _ => z53
set_option maxRecDepth 100000 in
theorem reqs_arg {H : Type} {enc : TypeId × Value → H} {W : World} {base : Nat} {spare : Nat → Bool} {held : Bool} {a : Option Addr} {len cap : Nat} {d : DataW H} {ps : List MemPlace}
  (h : DataW.Trod enc Tryd.prog W base spare held 22 (.slice a len cap) d ps) : ∃ l : List S53, len = l.length ∧ Kd.C k53 W a len l ∧ len ≤ cap := by
 obtain ⟨L, rfl, hf, hc, hm, hr⟩ := plain_slice (.agg [.int .i64, .int .i64, .agg [.int .i64, .int .i64, .str, .str]]) Tryd.underlying22 (e := 53) (by kernel_rfl) (by kernel_rfl) h
 refine ⟨L.map toQ, (List.length_map _).symm, ⟨by rw [List.length_map], ?_, fun hn => ?_⟩, hc⟩
 ·
  unfold maxLen at hm
  omega
 ·
  obtain ⟨ad, e, hcell⟩ := hr hn
  refine ⟨ad, e, fun j p hj => ?_⟩
  rw [List.getElem?_map, Option.map_eq_some_iff] at hj
  obtain ⟨c, hc, rfl⟩ := hj
  obtain ⟨x1, y1, rfl, ⟨n1, rfl, _⟩, x2, y2, rfl, ⟨n2, rfl, _⟩, x3, y3, rfl, ⟨x4, y4, rfl, ⟨n4, rfl, _⟩, x5, y5, rfl, ⟨n5, rfl, _⟩, x6, y6, rfl, ⟨n6, rfl, _⟩, x7, y7, rfl, ⟨n7, rfl, _⟩, rfl⟩, rfl⟩ := hf c (List.mem_of_getElem? hc)
  exact ⟨_, rfl, k53_mk W ⟨n1, n2, ⟨n4, n5, n6, n7⟩⟩, fun i u hu => hcell j _ hc i u hu⟩
theorem slice_shape {H : Type} {enc : TypeId × Value → H} {W : World} {base : Nat} {spare : Nat → Bool} {held : Bool} {fuel : Nat} {v : Value} {x : DataW H × List MemPlace} (h : DataW.trod enc Tryd.prog W base spare held fuel 22 [v] = some x) : ∃ a len cap, v = .slice a len cap := by
 rcases DataW.trod_slice Tryd.underlying22 h with ⟨hcs, _⟩ | ⟨ad, l, c, elems, rest, n, _, hcs, _⟩
 ·
  simp at hcs
  exact ⟨_, _, _, hcs⟩
 ·
  simp at hcs
  exact ⟨_, _, _, hcs⟩
set_option maxRecDepth 100000 in
theorem block_arg {H : Type} {enc : TypeId × Value → H} {W : World} {base b' : Nat} {spare : Nat → Bool} {held : Bool} {v : Value} {d : DataW H} {ps : List MemPlace} {m : _}
  (hv : Value.okWide Tryd.prog W m b' 24 v) (h : DataW.Trod enc Tryd.prog W base spare held 24 v d ps) : ∃ h p A n c l, v = .agg (cB h p A n c) ∧ n = l.length ∧ Kd.C k53 W A n l ∧ n ≤ c := by
 obtain ⟨cs, rfl, _⟩ := okWide_struct Tryd.underlying24 hv
 obtain ⟨fuel, hf⟩ := h
 obtain ⟨xs, n, _, _, hl, hlen, hF⟩ := DataW.trod_struct Tryd.underlying24 hf
 have c24 : Tryd.prog.cellsOf 24 = 3 := by kernel_rfl
 have c3 : Tryd.prog.cellsOf 3 = 1 := by kernel_rfl
 have c9 : Tryd.prog.cellsOf 9 = 1 := by kernel_rfl
 have c22 : Tryd.prog.cellsOf 22 = 1 := by kernel_rfl
 rw [c24] at hl
 obtain ⟨cs⟩ := cs
 match cs, hl with
 | [u0, u1, u2], _ =>
  match xs, hlen with
  | [y0, y1, y2], _ =>
   have f0 : DataW.trod enc Tryd.prog W base spare held n 3 (([u0, u1, u2].drop 0).take (Tryd.prog.cellsOf 3)) = some y0 := hF 0 _ rfl
   have f1 : DataW.trod enc Tryd.prog W base spare held n 9 (([u0, u1, u2].drop 1).take (Tryd.prog.cellsOf 9)) = some y1 := hF 1 _ rfl
   have f2 : DataW.trod enc Tryd.prog W base spare held n 22 (([u0, u1, u2].drop 2).take (Tryd.prog.cellsOf 22)) = some y2 := hF 2 _ rfl
   rw [c3] at f0
   rw [c9] at f1
   rw [c22] at f2
   obtain ⟨z, hz, _, _⟩ := DataW.trod_int Tryd.underlying3 (show DataW.trod enc Tryd.prog W base spare held n 3 [u0] = some y0 from f0)
   obtain ⟨s, hs, _, _⟩ := DataW.trod_string Tryd.underlying9 (show DataW.trod enc Tryd.prog W base spare held n 9 [u1] = some y1 from f1)
   have f2' : DataW.trod enc Tryd.prog W base spare held n 22 [u2] = some y2 := f2
   obtain ⟨a, len, cap, rfl⟩ := slice_shape f2'
   obtain ⟨l, h1, h2, h3⟩ := reqs_arg (d := y2.1) (ps := y2.2) ⟨n, f2'⟩
   injection hz with hz _
   injection hs with hs _
   subst hz
   subst hs
   exact ⟨z, s, a, len, cap, l, rfl, h1, h2, h3⟩
end Go.Proofs.YtifpomknkjegeaaDoor.Bk
