import Derived.Test.YtifpomknkjegeaaDoorBlkL
import Derived.Test.YtifpomknkjegeaaDoorBlkN
import Derived.Deep.RegionHeld
namespace Go.Proofs.YtifpomknkjegeaaDoor.Bk
open Go.RowKit Go.Proofs.YtifpomknkjegeaaDoor.PAll Go.Proofs.YtifpomknkjegeaaDoorW.PrintWords Go.Proofs.YtifpomknkjegeaaDoorW.PrintLast Go.Proofs.YtifpomknkjegeaaDoorW.PrintMore SG Go.Proofs.YtifpomknkjegeaaDoor.BFun Go.Proofs.YtifpomknkjegeaaDoor.Hlp Go.Proofs.YtifpomknkjegeaaDoor.Sha
set_option linter.unusedVariables false
set_option linter.unusedSimpArgs false
set_option maxHeartbeats 16000000 in
set_option maxRecDepth 100000 in
theorem encodes_no (h : Int) (p : ByteArray) (A : Option Addr) (n c : Nat) (l : List S53) (w : World) (hT : Tab w) (hn : n = l.length) (hC : Kd.C k53 w A n l) (hnc : n ≤ c) (hfew : fewB h p l = false) :
    Calls Tryd.prog 3 #[.agg (cB h p A n c)] w fun e w' => e = .returned (.bool true) ∧ Below w.heap.size w w' := by
  have HC := Aside0.mk hC
  have HN := Aside0.mk hn
  have HT := Aside0.mk hT
  clear hC hn hT
  unfold cB
  go_enter Tryd.func3, Tryd.ntmps3
  go_wp2_with (first | ((with_reducible refine gate_dst (N := 1) rfl ?_); refine box_event ?hg (N := 1) ?hd (cs := #[.int .i64 h, .string p, .slice A n c]) (t := 24) ?hr ?_; (case hd => rfl); (case hg => rfl); (case hr => first | (go_simp; done) | (go_simp; rfl)); intro gb hgb wb hboxb hbb; have HGB := Aside0.mk hboxb; have HBB := Aside0.mk hbb; have HCB := Aside0.mk (Kd.C_below HC.out hbb); have y0 : wb.cell? ⟨gb, 0, none⟩ = some (.int .i64 h) := (blk_cell hboxb 0).trans rfl; have yz0 : wb.frozen? ⟨gb, 0, none⟩ = false := blk_frozen hboxb 0; have y1 : wb.cell? ⟨gb, 1, none⟩ = some (.string p) := (blk_cell hboxb 1).trans rfl; have yz1 : wb.frozen? ⟨gb, 1, none⟩ = false := blk_frozen hboxb 1; have y2 : wb.cell? ⟨gb, 2, none⟩ = some (.slice A n c) := (blk_cell hboxb 2).trans rfl; have yz2 : wb.frozen? ⟨gb, 2, none⟩ = false := blk_frozen hboxb 2; clear hgb hboxb hbb) | ((with_reducible refine gate_callee (f := 8) rfl ?_); refine goesL_ (some 8) rfl rfl Tryd.func8 (by kernel_rfl) rfl #[.agg (cB h p A n c)] rfl (by (try simp only [List.map_toArray, List.map_cons, List.map_nil]); first | done | rfl) ?_; (with_reducible refine (fewBC h p A n c l _ HN.out HCB.out hnc).mono ?_); rintro e w1 ⟨rfl, hb⟩; refine ⟨_, rfl, ?_⟩; rw [hfew]; have HB1 := Aside0.mk (below_step HBB.out hb); have HC1 := Aside0.mk (Kd.C_below HCB.out hb); have HG1 := Aside0.mk (blk_below HGB.out hb); have z0 : w1.cell? ⟨gb, 0, none⟩ = some (.int .i64 h) := (blk_cell HG1.out 0).trans rfl; have zz0 : w1.frozen? ⟨gb, 0, none⟩ = false := blk_frozen HG1.out 0; have z1 : w1.cell? ⟨gb, 1, none⟩ = some (.string p) := (blk_cell HG1.out 1).trans rfl; have zz1 : w1.frozen? ⟨gb, 1, none⟩ = false := blk_frozen HG1.out 1; have z2 : w1.cell? ⟨gb, 2, none⟩ = some (.slice A n c) := (blk_cell HG1.out 2).trans rfl; have zz2 : w1.frozen? ⟨gb, 2, none⟩ = false := blk_frozen HG1.out 2; clear hb) | ((with_reducible refine gate_callee (f := 9) rfl ?_); refine goesL_ (some 10) rfl rfl Tryd.func9 (by kernel_rfl) rfl #[] rfl (by (try simp only [List.map_toArray, List.map_cons, List.map_nil]); first | done | rfl) ?_; (with_reducible refine (awake_walk _ (HT.out.below HB1.out)).mono ?_); rintro e w9 ⟨rfl, hb⟩; refine ⟨_, rfl, ?_⟩; have HB9 := Aside0.mk (below_step HB1.out hb); clear hb))
  go_ret
  exact ⟨rfl, HB9.out⟩
set_option maxHeartbeats 16000000 in
set_option maxRecDepth 100000 in
theorem encodes_yes (h : Int) (p : ByteArray) (A : Option Addr) (n c : Nat) (l : List S53) (w : World) (hT : Tab w) (hn : n = l.length) (hC : Kd.C k53 w A n l) (hnc : n ≤ c) (hfew : fewB h p l = true) :
    Calls Tryd.prog 3 #[.agg (cB h p A n c)] w fun e w' => e = .returned (.bool true) ∧ Below w.heap.size w w' := by
  have hm : n ≤ 1000 := by have := (fewB_P hfew).1; omega
  have HS : Aside0 (shortQ l) := ⟨fewP_short (fewB_P hfew)⟩
  obtain ⟨E, hE⟩ : ∃ E, eB h p l = E := ⟨_, rfl⟩
  obtain ⟨X, Y, hXY⟩ : ∃ X Y, encF h p l = (X, Y) := ⟨_, _, rfl⟩
  have q1 : (E == E) = true := beq_self_eq_true _
  have q2 : ((mk X).toList == (mk X).toList) = true := mkA_eq _
  have q3 : (Y == Y) = true := beq_self_eq_true _
  have HC := Aside0.mk hC
  have HN := Aside0.mk hn
  have HT := Aside0.mk hT
  clear hC hn hT
  unfold cB
  go_enter Tryd.func3, Tryd.ntmps3
  go_upto_region 5 with (first | ((with_reducible refine gate_dst (N := 1) rfl ?_); refine box_event ?hg (N := 1) ?hd (cs := #[.int .i64 h, .string p, .slice A n c]) (t := 24) ?hr ?_; (case hd => rfl); (case hg => rfl); (case hr => first | (go_simp; done) | (go_simp; rfl)); intro gb hgb wb hboxb hbb; have HGB := Aside0.mk hboxb; have HBB := Aside0.mk hbb; have HCB := Aside0.mk (Kd.C_below HC.out hbb); have y0 : wb.cell? ⟨gb, 0, none⟩ = some (.int .i64 h) := (blk_cell hboxb 0).trans rfl; have yz0 : wb.frozen? ⟨gb, 0, none⟩ = false := blk_frozen hboxb 0; have y1 : wb.cell? ⟨gb, 1, none⟩ = some (.string p) := (blk_cell hboxb 1).trans rfl; have yz1 : wb.frozen? ⟨gb, 1, none⟩ = false := blk_frozen hboxb 1; have y2 : wb.cell? ⟨gb, 2, none⟩ = some (.slice A n c) := (blk_cell hboxb 2).trans rfl; have yz2 : wb.frozen? ⟨gb, 2, none⟩ = false := blk_frozen hboxb 2; clear hgb hboxb hbb) | ((with_reducible refine gate_callee (f := 8) rfl ?_); refine goesL_ (some 8) rfl rfl Tryd.func8 (by kernel_rfl) rfl #[.agg (cB h p A n c)] rfl (by (try simp only [List.map_toArray, List.map_cons, List.map_nil]); first | done | rfl) ?_; (with_reducible refine (fewBC h p A n c l _ HN.out HCB.out hnc).mono ?_); rintro e w1 ⟨rfl, hb⟩; refine ⟨_, rfl, ?_⟩; rw [hfew]; have HB1 := Aside0.mk (below_step HBB.out hb); have HC1 := Aside0.mk (Kd.C_below HCB.out hb); have HG1 := Aside0.mk (blk_below HGB.out hb); have z0 : w1.cell? ⟨gb, 0, none⟩ = some (.int .i64 h) := (blk_cell HG1.out 0).trans rfl; have zz0 : w1.frozen? ⟨gb, 0, none⟩ = false := blk_frozen HG1.out 0; have z1 : w1.cell? ⟨gb, 1, none⟩ = some (.string p) := (blk_cell HG1.out 1).trans rfl; have zz1 : w1.frozen? ⟨gb, 1, none⟩ = false := blk_frozen HG1.out 1; have z2 : w1.cell? ⟨gb, 2, none⟩ = some (.slice A n c) := (blk_cell HG1.out 2).trans rfl; have zz2 : w1.frozen? ⟨gb, 2, none⟩ = false := blk_frozen HG1.out 2; clear hb) | ((with_reducible refine gate_callee (f := 10) rfl ?_); refine goesL_ (some 13) rfl rfl Tryd.func10 (by kernel_rfl) rfl #[.agg (cB h p A n c)] rfl (by (try simp only [List.map_toArray, List.map_cons, List.map_nil]); first | done | rfl) ?_; (with_reducible refine (encode_walk h p A n c l _ HN.out HC1.out hnc hm HS.out).mono ?_); rintro e w2 ⟨rfl, hb⟩; refine ⟨_, rfl, ?_⟩; rw [hXY]; have HB2 := Aside0.mk (below_step HB1.out hb); have HC2 := Aside0.mk (Kd.C_below HC1.out hb); have HG2 := Aside0.mk (blk_below HG1.out hb); have x0 : w2.cell? ⟨gb, 0, none⟩ = some (.int .i64 h) := (blk_cell HG2.out 0).trans rfl; have xz0 : w2.frozen? ⟨gb, 0, none⟩ = false := blk_frozen HG2.out 0; have x1 : w2.cell? ⟨gb, 1, none⟩ = some (.string p) := (blk_cell HG2.out 1).trans rfl; have xz1 : w2.frozen? ⟨gb, 1, none⟩ = false := blk_frozen HG2.out 1; have x2 : w2.cell? ⟨gb, 2, none⟩ = some (.slice A n c) := (blk_cell HG2.out 2).trans rfl; have xz2 : w2.frozen? ⟨gb, 2, none⟩ = false := blk_frozen HG2.out 2; clear hb) | ((with_reducible refine gate_callee (f := 11) rfl ?_); refine goesL_ (some 18) rfl rfl Tryd.func11 (by kernel_rfl) rfl #[.agg (cB h p A n c)] rfl (by (try simp only [List.map_toArray, List.map_cons, List.map_nil]); first | done | rfl) ?_; (with_reducible refine (rencode_walk h p A n c l _ HN.out HC2.out hnc hm HS.out).mono ?_); rintro e w3 ⟨rfl, hb⟩; refine ⟨_, rfl, ?_⟩; rw [hXY]; have HB3 := Aside0.mk (below_step HB2.out hb); have HC3 := Aside0.mk (Kd.C_below HC2.out hb); have HG3 := Aside0.mk (blk_below HG2.out hb); clear hb))
  (try simp only [Act.put, List.setIfInBounds_toArray, List.set_cons_zero, List.set_cons_succ])
  have SOF : Aside0 (∀ w' : World, w'.heap[gb]? = some (.cells #[.int .i64 h, .string p, .slice A n c] 24 (0, 0)) → w'.cell? ⟨gb, 0, none⟩ = some (.int .i64 h) ∧ w'.cell? ⟨gb, 1, none⟩ = some (.string p) ∧ w'.cell? ⟨gb, 2, none⟩ = some (.slice A n c)) := ⟨fun w' h => ⟨(blk_cell h 0).trans rfl, (blk_cell h 1).trans rfl, (blk_cell h 2).trans rfl⟩⟩
  refine wp_region_held_drew (S := fun w' => w'.cell? ⟨gb, 0, none⟩ = some (.int .i64 h) ∧ w'.cell? ⟨gb, 1, none⟩ = some (.string p) ∧ w'.cell? ⟨gb, 2, none⟩ = some (.slice A n c)) (by kernel_rfl) (SOF.out _ (blk_drew HG3.out)) (fun hHeld => ?_)
  (refine wpAnyH_take (i := 0) (v := ?hv1) rfl (by kernel_rfl) (by kernel_rfl) (by kernel_rfl) (fun _ _ _ h => h) (Or.inl ⟨by rfl, ?hy1⟩) (by assumption) ?hrest1; (case hy1 => (intro w hSw; obtain ⟨sA, sB⟩ := hSw; first | (go_simp; done) | (go_simp; with_reducible rfl))); (try simp only [Act.put, List.getElem_toArray, List.getElem_cons_succ, List.getElem_cons_zero, List.setIfInBounds_toArray, List.set_cons_zero, List.set_cons_succ]))
  (refine wpAnyH_take (i := 2) (v := ?hv2) rfl (by kernel_rfl) (by kernel_rfl) (by kernel_rfl) (fun _ _ _ h => h) (Or.inl ⟨by rfl, ?hy2⟩) (by assumption) ?hrest2; (case hy2 => (intro w hSw; obtain ⟨sA, sB⟩ := hSw; first | (go_simp; done) | (go_simp; with_reducible rfl))); (try simp only [Act.put, List.getElem_toArray, List.getElem_cons_succ, List.getElem_cons_zero, List.setIfInBounds_toArray, List.set_cons_zero, List.set_cons_succ]))
  refine wpAnyH_ready (rs := [1]) (by kernel_rfl) (by simp) ?_
  refine AllReadyH.cons rfl (fun K hK => ?_) AllReadyH.nil
  go_simp
  go_at_call 12
  refine (check_walk h p A n c l _ HN.out (Kd.C_below HC3.out (below_drew (Below.refl _ _))) hnc hm HS.out).mono ?_
  rintro e w4 ⟨rfl, hb⟩
  rw [hE]; have HB4 := Aside0.mk (below_step (below_drew HB3.out) hb); have HC4 := Aside0.mk (Kd.C_below (Kd.C_below HC3.out (below_drew (Below.refl _ _))) hb); have HG4 := Aside0.mk (blk_below (blk_drew HG3.out) hb); clear hb
  refine hK.out _ _ (SOF.out _ HG4.out) (fun hHeld => ?_)
  clear hK K
  refine wpAnyH_ready (rs := [3]) (by kernel_rfl) (by simp) ?_
  refine AllReadyH.cons rfl (fun K hK => ?_) AllReadyH.nil
  go_simp
  go_at_call 13
  refine (rcheckC h p A n c l _ HN.out HC4.out hnc).mono ?_
  rintro e w5 ⟨rfl, hb⟩
  rw [hE]; have HB5 := Aside0.mk (below_step HB4.out hb); have HG5 := Aside0.mk (blk_below HG4.out hb); clear hb
  refine hK.out _ _ (SOF.out _ HG5.out) (fun hHeld => ?_)
  clear hK K
  (refine wpAnyH_take (i := 4) (v := ?hv3) rfl (by kernel_rfl) (by kernel_rfl) (by kernel_rfl) (fun _ _ _ h => h) (Or.inl ⟨by rfl, ?hy3⟩) (by assumption) ?hrest3; (case hy3 => (intro w hSw; obtain ⟨sA, sB⟩ := hSw; first | (go_simp; done) | (go_simp; with_reducible rfl))); (try simp only [Act.put, List.getElem_toArray, List.getElem_cons_succ, List.getElem_cons_zero, List.setIfInBounds_toArray, List.set_cons_zero, List.set_cons_succ]))
  (refine wpAnyH_take (i := 5) (v := ?hv4) rfl (by kernel_rfl) (by kernel_rfl) (by kernel_rfl) (fun _ _ _ h => h) (Or.inl ⟨by rfl, ?hy4⟩) (by assumption) ?hrest4; (case hy4 => (intro w hSw; obtain ⟨sA, sB⟩ := hSw; first | (go_simp; done) | (go_simp; with_reducible rfl))); (try simp only [Act.put, List.getElem_toArray, List.getElem_cons_succ, List.getElem_cons_zero, List.setIfInBounds_toArray, List.set_cons_zero, List.set_cons_succ]))
  (refine wpAnyH_take (i := 6) (v := ?hv5) rfl (by kernel_rfl) (by kernel_rfl) (by kernel_rfl) (fun _ _ _ h => h) (Or.inl ⟨by rfl, ?hy5⟩) (by assumption) ?hrest5; (case hy5 => (intro w hSw; obtain ⟨sA, sB⟩ := hSw; first | (go_simp; done) | (go_simp; with_reducible rfl))); (try simp only [Act.put, List.getElem_toArray, List.getElem_cons_succ, List.getElem_cons_zero, List.setIfInBounds_toArray, List.set_cons_zero, List.set_cons_succ]))
  (refine wpAnyH_take (i := 7) (v := ?hv6) rfl (by kernel_rfl) (by kernel_rfl) (by kernel_rfl) (fun _ _ _ h => h) (Or.inl ⟨by rfl, ?hy6⟩) (by assumption) ?hrest6; (case hy6 => (intro w hSw; obtain ⟨sA, sB⟩ := hSw; first | (go_simp; done) | (go_simp; with_reducible rfl))); (try simp only [Act.put, List.getElem_toArray, List.getElem_cons_succ, List.getElem_cons_zero, List.setIfInBounds_toArray, List.set_cons_zero, List.set_cons_succ]))
  (refine wpAnyH_take (i := 8) (v := ?hv7) rfl (by kernel_rfl) (by kernel_rfl) (by kernel_rfl) (fun _ _ _ h => h) (Or.inl ⟨by rfl, ?hy7⟩) (by assumption) ?hrest7; (case hy7 => (intro w hSw; obtain ⟨sA, sB⟩ := hSw; first | (go_simp; done) | (go_simp; with_reducible rfl))); (try simp only [Act.put, List.getElem_toArray, List.getElem_cons_succ, List.getElem_cons_zero, List.setIfInBounds_toArray, List.set_cons_zero, List.set_cons_succ]))
  (refine wpAnyH_take (i := 9) (v := ?hv8) rfl (by kernel_rfl) (by kernel_rfl) (by kernel_rfl) (fun _ _ _ h => h) (Or.inl ⟨by rfl, ?hy8⟩) (by assumption) ?hrest8; (case hy8 => (intro w hSw; obtain ⟨sA, sB⟩ := hSw; first | (go_simp; done) | (go_simp; with_reducible rfl))); (try simp only [Act.put, List.getElem_toArray, List.getElem_cons_succ, List.getElem_cons_zero, List.setIfInBounds_toArray, List.set_cons_zero, List.set_cons_succ]))
  (refine wpAnyH_take (i := 10) (v := ?hv9) rfl (by kernel_rfl) (by kernel_rfl) (by kernel_rfl) (fun _ _ _ h => h) (Or.inl ⟨by rfl, ?hy9⟩) (by assumption) ?hrest9; (case hy9 => (intro w hSw; obtain ⟨sA, sB⟩ := hSw; first | (go_simp; done) | (go_simp; with_reducible rfl))); (try simp only [Act.put, List.getElem_toArray, List.getElem_cons_succ, List.getElem_cons_zero, List.setIfInBounds_toArray, List.set_cons_zero, List.set_cons_succ]))
  (refine wpAnyH_take (i := 11) (v := ?hv10) rfl (by kernel_rfl) (by kernel_rfl) (by kernel_rfl) (fun _ _ _ h => h) (Or.inl ⟨by rfl, ?hy10⟩) (by assumption) ?hrest10; (case hy10 => (intro w hSw; obtain ⟨sA, sB⟩ := hSw; first | (go_simp; done) | (go_simp; with_reducible rfl))); (try simp only [Act.put, List.getElem_toArray, List.getElem_cons_succ, List.getElem_cons_zero, List.setIfInBounds_toArray, List.set_cons_zero, List.set_cons_succ]))
  (refine wpAnyH_take (i := 12) (v := ?hv11) rfl (by kernel_rfl) (by kernel_rfl) (by kernel_rfl) (fun _ _ _ h => h) (Or.inl ⟨by rfl, ?hy11⟩) (by assumption) ?hrest11; (case hy11 => (intro w hSw; obtain ⟨sA, sB⟩ := hSw; first | (go_simp; done) | (go_simp; with_reducible rfl))); (try simp only [Act.put, List.getElem_toArray, List.getElem_cons_succ, List.getElem_cons_zero, List.setIfInBounds_toArray, List.set_cons_zero, List.set_cons_succ]))
  (refine wpAnyH_take (i := 13) (v := ?hv12) rfl (by kernel_rfl) (by kernel_rfl) (by kernel_rfl) (fun _ _ _ h => h) (Or.inl ⟨by rfl, ?hy12⟩) (by assumption) ?hrest12; (case hy12 => (intro w hSw; obtain ⟨sA, sB⟩ := hSw; first | (go_simp; done) | (go_simp; with_reducible rfl))); (try simp only [Act.put, List.getElem_toArray, List.getElem_cons_succ, List.getElem_cons_zero, List.setIfInBounds_toArray, List.set_cons_zero, List.set_cons_succ]))
  (refine wpAnyH_take (i := 14) (v := ?hv13) rfl (by kernel_rfl) (by kernel_rfl) (by kernel_rfl) (fun _ _ _ h => h) (Or.inl ⟨by rfl, ?hy13⟩) (by assumption) ?hrest13; (case hy13 => (intro w hSw; obtain ⟨sA, sB⟩ := hSw; first | (go_simp; done) | (go_simp; with_reducible rfl))); (try simp only [Act.put, List.getElem_toArray, List.getElem_cons_succ, List.getElem_cons_zero, List.setIfInBounds_toArray, List.set_cons_zero, List.set_cons_succ]))
  (refine wpAnyH_take (i := 15) (v := ?hv14) rfl (by kernel_rfl) (by kernel_rfl) (by kernel_rfl) (fun _ _ _ h => h) (Or.inl ⟨by rfl, ?hy14⟩) (by assumption) ?hrest14; (case hy14 => (intro w hSw; obtain ⟨sA, sB⟩ := hSw; first | (go_simp; done) | (go_simp; with_reducible rfl))); (try simp only [Act.put, List.getElem_toArray, List.getElem_cons_succ, List.getElem_cons_zero, List.setIfInBounds_toArray, List.set_cons_zero, List.set_cons_succ]))
  refine wpAnyH_ready (rs := [16]) (by kernel_rfl) (by simp) ?_
  refine AllReadyH.cons rfl (fun K hK => ?_) AllReadyH.nil
  go_simp
  go_at_call 9
  refine (awake_walk _ (HT.out.below HB5.out)).mono ?_
  rintro e w9 ⟨rfl, hb⟩
  have HB9 := Aside0.mk (below_step HB5.out hb); have HG9 := Aside0.mk (blk_below HG5.out hb); clear hb
  refine hK.out _ _ (SOF.out _ HG9.out) (fun hHeld => ?_)
  clear hK K
  (refine wpAnyH_take (i := 17) (v := ?hv15) rfl (by kernel_rfl) (by kernel_rfl) (by kernel_rfl) (fun _ _ _ h => h) (Or.inl ⟨by rfl, ?hy15⟩) (by assumption) ?hrest15; (case hy15 => (intro w hSw; obtain ⟨sA, sB⟩ := hSw; first | (go_simp; done) | (go_simp; with_reducible rfl))); (try simp only [Act.put, List.getElem_toArray, List.getElem_cons_succ, List.getElem_cons_zero, List.setIfInBounds_toArray, List.set_cons_zero, List.set_cons_succ]))
  refine wpAnyH_ready (rs := [18]) (by kernel_rfl) (by simp) ?_
  refine AllReadyH.cons rfl (fun K hK => ?_) AllReadyH.nil
  go_simp
  refine hK.out _ _ (SOF.out _ HG9.out) (fun hHeld => ?_)
  clear hK K
  refine wpAnyH_done (by kernel_rfl) ?_ _
  go_wp2
  go_ret
  exact ⟨rfl, HB9.out⟩
set_option maxHeartbeats 16000000 in
set_option maxRecDepth 100000 in
theorem BlockEncodes_walk (h : Int) (p : ByteArray) (A : Option Addr) (n c : Nat) (l : List S53) (w : World) (hT : Tab w) (hn : n = l.length) (hC : Kd.C k53 w A n l) (hnc : n ≤ c) :
    Calls Tryd.prog 3 #[.agg (cB h p A n c)] w fun e w' => e = .returned (.bool true) ∧ Below w.heap.size w w' := by
  cases hfew : fewB h p l with
  | false => exact encodes_no h p A n c l w hT hn hC hnc hfew
  | true => exact encodes_yes h p A n c l w hT hn hC hnc hfew
end Go.Proofs.YtifpomknkjegeaaDoor.Bk
