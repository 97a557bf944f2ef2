import Derived.Test.YtifpomknkjegeaaDoorBlkM
import Derived.Deep.RegionLaw
import Derived.Deep.RegionHeld
import Derived.Deep.RegionHeld3
namespace Go.Proofs.YtifpomknkjegeaaDoor.Bk
open Go.RowKit Go.Proofs.YtifpomknkjegeaaDoor.PAll Go.Proofs.YtifpomknkjegeaaDoorW.PrintWords Go.Proofs.YtifpomknkjegeaaDoorW.PrintLast Go.Proofs.YtifpomknkjegeaaDoorW.PrintMore SG Go.Proofs.YtifpomknkjegeaaDoor.BFun Go.Proofs.YtifpomknkjegeaaDoor.Hlp
set_option linter.unusedVariables false
set_option linter.unusedSimpArgs false
theorem strs2_C (w : World) (a b : ByteArray) : Kd.C Kd.string (w.alloc (.cells #[.string a, .string b] 9)) (some ⟨w.heap.size, 0, none⟩) 2 [a, b] := by
  refine Kd.C_of_reads (d := ByteArray.empty) ⟨rfl, by decide, fun _ => ⟨_, rfl, fun j hj => ?_⟩⟩
  rw [add_plain]
  refine (cell_of_row _ _ j _ 9 (0, 0) (heap_alloc_new w _)).trans ?_
  match j, hj with
  | 0, _ => rfl
  | 1, _ => rfl
  | j + 2, h => exact absurd h (by omega)
theorem four_mk (x : Int) (h : 0 ≤ x) : mk [u8 (x / 16777216)] ++ mk [u8 (x / 65536)] ++ mk [u8 (x / 256)] ++ mk [u8 x] = mk (SG.four x.toNat) := by
  rw [mk_append, mk_append, mk_append, four_u8 x h]
set_option maxHeartbeats 16000000 in
set_option maxRecDepth 100000 in
/-- The reference's Encode. -/
theorem rencode_walk (h : Int) (p : ByteArray) (A : Option Addr) (n c : Nat) (l : List S53) (w : World) (hn : n = l.length) (hC : Kd.C k53 w A n l) (hnc : n ≤ c) (hm : n ≤ 1000) (hs : shortQ l) :
    Calls Tryd.prog 11 #[.agg (cB h p A n c)] w fun e w' => e = .returned (.tuple #[.string (mk (encF h p l).1), .int .i64 (encF h p l).2]) ∧ Below w.heap.size w w' := by
  have HC := Aside0.mk hC
  have HN := Aside0.mk hn
  have HS := Aside0.mk hs
  clear hC hn hs
  by_cases hk : okB h p l
  · have HK := Aside0.mk hk
    have HE : Aside0 (encF h p l = encO h p l) := ⟨by unfold encF; rw [if_pos hk]⟩
    rw [HE.out]
    clear hk
    unfold cB
    go_enter Tryd.func11, Tryd.ntmps11
    go_upto_region 4 with (first | ((with_reducible refine gate_dst (N := 1) rfl ?_); refine box_event ?hg (N := 1) ?hd (cs := #[.int .i64 h, .string p, .slice A n c]) (t := 24) ?hr ?_; (case hd => rfl); (case hg => rfl); (case hr => first | (go_simp; done) | (go_simp; rfl)); intro gb hgb wb hboxb hbb; have HGB := Aside0.mk hboxb; have HBB := Aside0.mk hbb; have y0 : wb.cell? ⟨gb, 0, none⟩ = some (.int .i64 h) := (blk_cell hboxb 0).trans rfl; have yz0 : wb.frozen? ⟨gb, 0, none⟩ = false := blk_frozen hboxb 0; have y1 : wb.cell? ⟨gb, 1, none⟩ = some (.string p) := (blk_cell hboxb 1).trans rfl; have yz1 : wb.frozen? ⟨gb, 1, none⟩ = false := blk_frozen hboxb 1; have y2 : wb.cell? ⟨gb, 2, none⟩ = some (.slice A n c) := (blk_cell hboxb 2).trans rfl; have yz2 : wb.frozen? ⟨gb, 2, none⟩ = false := blk_frozen hboxb 2; clear hgb hboxb hbb) | ((with_reducible refine gate_callee (f := 13) rfl ?_); refine goesL_ (some 12) rfl rfl Tryd.func13 (by kernel_rfl) rfl #[.agg (cB h p A n c)] rfl (by (try simp only [List.map_toArray, List.map_cons, List.map_nil]); first | done | rfl) ?_; (with_reducible refine (rcheckC h p A n c l _ HN.out (Kd.C_below HC.out HBB.out) hnc).mono ?_); rintro e w1 ⟨rfl, hb⟩; refine ⟨_, rfl, ?_⟩; rw [eB_pos HK.out]; have HB1 := Aside0.mk (below_step HBB.out hb); have HG1 := Aside0.mk (blk_below HGB.out hb); clear hb))
    (try simp only [Act.put, List.setIfInBounds_toArray, List.set_cons_zero, List.set_cons_succ])
    have SOF1 : Aside0 (∀ w', Below w1.heap.size w1 w' → w'.cell? ⟨gb, 0, none⟩ = some (.int .i64 h) ∧ w'.cell? ⟨gb, 1, none⟩ = some (.string p)) := ⟨fun w' hb => ⟨(blk_cell (blk_below HG1.out hb) 0).trans rfl, (blk_cell (blk_below HG1.out hb) 1).trans rfl⟩⟩
    refine wp_region_held_drew (S := fun w' => w'.cell? ⟨gb, 0, none⟩ = some (.int .i64 h) ∧ w'.cell? ⟨gb, 1, none⟩ = some (.string p)) (by kernel_rfl) (SOF1.out _ (below_drew (Below.refl _ _))) (fun hHeld => ?_)
    (refine wpAnyH_take (i := 0) (v := ?hv1) rfl (by kernel_rfl) (by kernel_rfl) (by kernel_rfl) (fun _ _ _ h => h) (Or.inl ⟨by rfl, ?hy1⟩) (by assumption) ?hrest1; (case hy1 => (intro w hSw; obtain ⟨sA, sB⟩ := hSw; first | (go_simp; done) | (go_simp; with_reducible rfl))); (try simp only [Act.put, List.getElem_toArray, List.getElem_cons_succ, List.getElem_cons_zero, List.setIfInBounds_toArray, List.set_cons_zero, List.set_cons_succ]))
    (refine wpAnyH_take (i := 1) (v := ?hv2) rfl (by kernel_rfl) (by kernel_rfl) (by kernel_rfl) (fun _ _ _ h => h) (Or.inl ⟨by rfl, ?hy2⟩) (by assumption) ?hrest2; (case hy2 => (intro w hSw; obtain ⟨sA, sB⟩ := hSw; first | (go_simp; done) | (go_simp; with_reducible rfl))); (try simp only [Act.put, List.getElem_toArray, List.getElem_cons_succ, List.getElem_cons_zero, List.setIfInBounds_toArray, List.set_cons_zero, List.set_cons_succ]))
    (refine wpAnyH_take (i := 3) (v := ?hv3) rfl (by kernel_rfl) (by kernel_rfl) (by kernel_rfl) (fun _ _ _ h => h) (Or.inl ⟨by rfl, ?hy3⟩) (by assumption) ?hrest3; (case hy3 => (intro w hSw; obtain ⟨sA, sB⟩ := hSw; first | (go_simp; done) | (go_simp; with_reducible rfl))); (try simp only [Act.put, List.getElem_toArray, List.getElem_cons_succ, List.getElem_cons_zero, List.setIfInBounds_toArray, List.set_cons_zero, List.set_cons_succ]))
    (refine wpAnyH_take (i := 4) (v := ?hv4) rfl (by kernel_rfl) (by kernel_rfl) (by kernel_rfl) (fun _ _ _ h => h) (Or.inl ⟨by rfl, ?hy4⟩) (by assumption) ?hrest4; (case hy4 => (intro w hSw; obtain ⟨sA, sB⟩ := hSw; first | (go_simp; done) | (go_simp; with_reducible rfl))); (try simp only [Act.put, List.getElem_toArray, List.getElem_cons_succ, List.getElem_cons_zero, List.setIfInBounds_toArray, List.set_cons_zero, List.set_cons_succ]))
    refine wpAnyH_ready (rs := [2]) (by kernel_rfl) (by simp) ?_
    refine AllReadyH.cons rfl (fun K hK => ?_) AllReadyH.nil
    go_simp
    go_at_call 26
    refine (oneC _ _).mono ?_
    rintro e w2 ⟨rfl, hb⟩
    have HBw2 := Aside0.mk (below_step (below_drew (Below.refl w1.heap.size w1)) hb)
    clear hb
    refine hK.out _ _ (SOF1.out _ HBw2.out) (fun hHeld => ?_)
    clear hK K
    refine wpAnyH_ready (rs := [5]) (by kernel_rfl) (by simp) ?_
    refine AllReadyH.cons rfl (fun K hK => ?_) AllReadyH.nil
    have HB2 := Aside0.mk (below_step HB1.out HBw2.out)
    refine Kd.R_lit_step Kd.string (w0 := w) w.heap.size 9 rfl (N := 21) rfl (xs := [mk [u8 h], p]) (inner := [.string (mk [u8 h]), .string p]) (okp := fun _ => False) (ok := fun _ => True) ?hr ?hrep (fun _ _ => trivial) trivial HB2.out HB2.out.size (by show 2 ≤ _; decide) ?_
    case hr => first | (go_simp; done) | (go_simp; rfl)
    case hrep => exact Kd.reps_scalar (enc := Value.string) [mk [u8 h], p]
    intro v3 w3 hr3 hb3 hg3 hat3
    have HR3 := Aside0.mk hr3
    have HB3 := Aside0.mk hb3
    have HG3 := Aside0.mk (blk_grown (blk_below HG1.out HBw2.out) hg3 (fun h => by cases h))
    have HS3 : Aside0 (w3.cell? ⟨gb, 0, none⟩ = some (.int .i64 h) ∧ w3.cell? ⟨gb, 1, none⟩ = some (.string p)) := ⟨(blk_cell HG3.out 0).trans rfl, (blk_cell HG3.out 1).trans rfl⟩
    clear hr3 hb3 hg3 hat3
    refine hK.out _ _ HS3.out (fun hHeld => ?_)
    clear hK K
    refine wpAnyH_ready (rs := [6]) (by kernel_rfl) (by simp) ?_
    refine AllReadyH.cons rfl (fun K hK => ?_) AllReadyH.nil
    go_simp
    refine hK.out _ _ HS3.out (fun hHeld => ?_)
    clear hK K
    refine wpAnyH_done (by kernel_rfl) ?_ _
    have HR0 : Aside0 (Kd.string.R 9 w3 w.heap.size (fun _ => True) v3 ((encL h p (l.take 0)).map mk)) := ⟨by
      have : (encL h p (l.take 0)).map mk = [mk [u8 h], p] := by
        rw [List.take_zero]
        show [mk [u8 h], mk p.toList] = _
        rw [mk_of_toList]
      rw [this]
      exact HR3.out⟩
    clear hHeld
    go_wp2
    go_loopg [5, 6] n (fun kq v5 v6 w' => ∃ (i : Nat), v6 = .int .i64 (i : Int) ∧ Aside0 (i + kq = n) ∧ Aside0 (Kd.string.R 9 w' w.heap.size (fun _ => True) v5 ((encL h p (l.take i)).map mk)) ∧ Aside0 (w'.heap[gb]? = some (.cells #[.int .i64 h, .string p, .slice A n c] 24 (0, 0))) ∧ Aside0 (Below w.heap.size w w'))
    case atStart => exact ⟨0, rfl, ⟨by omega⟩, HR0, HG3, HB3⟩
    case round =>
      obtain ⟨i, rfl, HI, HRi, HGi, HBi⟩ := hrel
      have hi := HI.out
      have q2 : wr.cell? ⟨gb, 2, none⟩ = some (.slice A n c) := (blk_cell HGi.out 2).trans rfl
      by_cases hat : i < n
      · obtain ⟨k1, rfl⟩ : ∃ k1, gk = k1 + 1 := ⟨gk - 1, by omega⟩
        have hlt : decide ((i : Int) < (n : Int)) = true := decide_eq_true (by omega)
        have hil : i < l.length := by rw [← HN.out]; exact hat
        obtain ⟨ad, e101, sof⟩ := at53 HC.out HN.out hil
        cases e101
        obtain ⟨x0, x1, x2, x3, x4, x5⟩ := sof _ HBi.out
        have HT : Aside0 (l.take (i + 1) = l.take i ++ [l[i]]) := ⟨by rw [List.take_add_one, List.getElem?_eq_getElem hil]; rfl⟩
        have HQ : Aside0 (okQ l[i]) := ⟨HK.out.2.2.2.2 _ (List.getElem_mem hil)⟩
        have HL3 : Aside0 (((encL h p (l.take i)).map mk).length ≤ 4000) := ⟨by rw [List.length_map, encL_len, List.length_take]; omega⟩
        generalize l[i] = r at *
        have hq1 := HQ.out.2.1.1
        have HQ1 := Aside0.mk hq1
        have HI1 : Aside0 (i + 1 + k1 = n) := ⟨by omega⟩
        clear sof HI hq1
        go_upto_region 10 with (first | ((with_reducible refine gate_dst (N := 7) rfl ?_); refine box_event ?hg (N := 7) ?hd (cs := #[.int .i64 0, .int .i64 0, .int .i64 0, .int .i64 0, .string ⟨#[]⟩, .string ⟨#[]⟩]) (t := 53) ?hr ?_; (case hd => rfl); (case hg => rfl); (case hr => first | (go_simp; done) | (go_simp; rfl)); intro g hg w3 hbox hb; have HG3 := Aside0.mk hbox; have HGE := Aside0.mk (show wr.heap.size ≤ g by rw [hg]; exact Nat.le_refl _); have HB3 := Aside0.mk hb; have b0 : w3.cell? ⟨g, 0, none⟩ = some (.int .i64 0) := (blk_cell hbox 0).trans rfl; have bz0 : w3.frozen? ⟨g, 0, none⟩ = false := blk_frozen hbox 0; have b1 : w3.cell? ⟨g, 1, none⟩ = some (.int .i64 0) := (blk_cell hbox 1).trans rfl; have bz1 : w3.frozen? ⟨g, 1, none⟩ = false := blk_frozen hbox 1; have b2 : w3.cell? ⟨g, 2, none⟩ = some (.int .i64 0) := (blk_cell hbox 2).trans rfl; have bz2 : w3.frozen? ⟨g, 2, none⟩ = false := blk_frozen hbox 2; have b3 : w3.cell? ⟨g, 3, none⟩ = some (.int .i64 0) := (blk_cell hbox 3).trans rfl; have bz3 : w3.frozen? ⟨g, 3, none⟩ = false := blk_frozen hbox 3; have b4 : w3.cell? ⟨g, 4, none⟩ = some (.string ⟨#[]⟩) := (blk_cell hbox 4).trans rfl; have bz4 : w3.frozen? ⟨g, 4, none⟩ = false := blk_frozen hbox 4; have b5 : w3.cell? ⟨g, 5, none⟩ = some (.string ⟨#[]⟩) := (blk_cell hbox 5).trans rfl; have bz5 : w3.frozen? ⟨g, 5, none⟩ = false := blk_frozen hbox 5; clear hg hbox hb) | ((with_reducible refine gate_store (t := 53) (p := 7) (v := .tmp 33) rfl ?_); refine store_event (w1 := (set6 w3 g r)) ?hg rfl ?hN ?hr ?_; (case hg => rfl); (case hN => rfl); (case hr => first | (go_simp; done) | (go_simp; rfl)); intro w4 hw4; have hg4 : w4.heap[g]? = some (.cells (cR r) 53 (0, 0)) := (by rw [hw4]; exact set6_blk HG3.out r); have HB4 : Aside0 (Below w.heap.size w w4) := ⟨(by rw [hw4]; exact below_step HBi.out (set6_below HB3.out HGE.out r))⟩; have HBr : Aside0 (Below wr.heap.size wr w4) := ⟨(by rw [hw4]; exact set6_below HB3.out HGE.out r)⟩; have HG4 := Aside0.mk hg4; have z0 : w4.cell? ⟨g, 0, none⟩ = some (.int .i64 r.f0) := (blk_cell hg4 0).trans rfl; have zz0 : w4.frozen? ⟨g, 0, none⟩ = false := blk_frozen hg4 0; have z1 : w4.cell? ⟨g, 1, none⟩ = some (.int .i64 r.f1) := (blk_cell hg4 1).trans rfl; have zz1 : w4.frozen? ⟨g, 1, none⟩ = false := blk_frozen hg4 1; have z2 : w4.cell? ⟨g, 2, none⟩ = some (.int .i64 r.f2.f0) := (blk_cell hg4 2).trans rfl; have zz2 : w4.frozen? ⟨g, 2, none⟩ = false := blk_frozen hg4 2; have z3 : w4.cell? ⟨g, 3, none⟩ = some (.int .i64 r.f2.f1) := (blk_cell hg4 3).trans rfl; have zz3 : w4.frozen? ⟨g, 3, none⟩ = false := blk_frozen hg4 3; have z4 : w4.cell? ⟨g, 4, none⟩ = some (.string r.f2.f2) := (blk_cell hg4 4).trans rfl; have zz4 : w4.frozen? ⟨g, 4, none⟩ = false := blk_frozen hg4 4; have z5 : w4.cell? ⟨g, 5, none⟩ = some (.string r.f2.f3) := (blk_cell hg4 5).trans rfl; have zz5 : w4.frozen? ⟨g, 5, none⟩ = false := blk_frozen hg4 5; clear hw4 hg4) | ((with_reducible refine gate_callee (f := 27) rfl ?_); refine goesL_ (some 37) rfl rfl Tryd.func27 (by kernel_rfl) rfl #[.agg (cK r.f2)] rfl (by (try simp only [List.map_toArray, List.map_cons, List.map_nil]); first | done | rfl) ?_; (with_reducible refine (rcommandC HQ.out _).mono ?_); rintro e w5 ⟨rfl, hb⟩; refine ⟨_, rfl, ?_⟩; have HG5 := Aside0.mk (blk_below HG4.out hb); have HGb5 := Aside0.mk (blk_below (blk_below HGi.out HBr.out) hb); have HR5 := Aside0.mk (Kd.R_below HRi.out (below_step HBr.out hb)); have HB5 := Aside0.mk (below_step HB4.out hb); clear hb))
        (try simp only [Act.put, List.setIfInBounds_toArray, List.set_cons_zero, List.set_cons_succ])
        have SOF : Aside0 (∀ w', Below w5.heap.size w5 w' → w'.cell? ⟨g, 0, none⟩ = some (.int .i64 r.f0) ∧ w'.cell? ⟨g, 1, none⟩ = some (.int .i64 r.f1)) := ⟨fun w' hb => ⟨(blk_cell (blk_below HG5.out hb) 0).trans rfl, (blk_cell (blk_below HG5.out hb) 1).trans rfl⟩⟩
        have SOG : Aside0 (∀ w' : World, w'.heap[g]? = some (.cells (cR r) 53 (0, 0)) → w'.cell? ⟨g, 0, none⟩ = some (.int .i64 r.f0) ∧ w'.cell? ⟨g, 1, none⟩ = some (.int .i64 r.f1)) := ⟨fun w' h => ⟨(blk_cell h 0).trans rfl, (blk_cell h 1).trans rfl⟩⟩
        have NE9 : Aside0 (some g ≠ u5.ownBlock) := ⟨Kd.R_ne HR5.out HG5.out (by decide)⟩
        have NEb : Aside0 (some gb ≠ u5.ownBlock) := ⟨Kd.R_ne HR5.out HGb5.out (by decide)⟩
        have cc1 : ¬ 9223372036854775807 < (mk [SG.u8 (r.f1 / 16777216)]).size + (mk [SG.u8 (r.f1 / 65536)]).size := by simp only [mk_size, List.length_cons, List.length_nil]; decide
        have cc2 : ¬ 9223372036854775807 < (mk [SG.u8 (r.f1 / 16777216)]).size + (mk [SG.u8 (r.f1 / 65536)]).size + (mk [SG.u8 (r.f1 / 256)]).size := by simp only [mk_size, List.length_cons, List.length_nil]; decide
        have cc3 : ¬ 9223372036854775807 < (mk [SG.u8 (r.f1 / 16777216)]).size + (mk [SG.u8 (r.f1 / 65536)]).size + (mk [SG.u8 (r.f1 / 256)]).size + (mk [SG.u8 r.f1]).size := by simp only [mk_size, List.length_cons, List.length_nil]; decide
        clear x0 x1 x2 x3 x4 x5 q2 z0 zz0 z1 zz1 z2 zz2 z3 zz3 z4 zz4 z5 zz5 b0 bz0 b1 bz1 b2 bz2 b3 bz3 b4 bz4 b5 bz5
        refine wp_region_held_drew (S := fun w' => w'.cell? ⟨g, 0, none⟩ = some (.int .i64 r.f0) ∧ w'.cell? ⟨g, 1, none⟩ = some (.int .i64 r.f1)) (by kernel_rfl) (SOF.out _ (below_drew (Below.refl _ _))) (fun hHeld => ?_)
        (refine wpAnyH_take (i := 0) (v := ?hv5) rfl (by kernel_rfl) (by kernel_rfl) (by kernel_rfl) (fun _ _ _ h => h) (Or.inl ⟨by rfl, ?hy5⟩) (by assumption) ?hrest5; (case hy5 => (intro w hSw; obtain ⟨sA, sB⟩ := hSw; first | (go_simp; done) | (go_simp; with_reducible rfl))); (try simp only [Act.put, List.getElem_toArray, List.getElem_cons_succ, List.getElem_cons_zero, List.setIfInBounds_toArray, List.set_cons_zero, List.set_cons_succ]))
        (refine wpAnyH_take (i := 1) (v := ?hv6) rfl (by kernel_rfl) (by kernel_rfl) (by kernel_rfl) (fun _ _ _ h => h) (Or.inl ⟨by rfl, ?hy6⟩) (by assumption) ?hrest6; (case hy6 => (intro w hSw; obtain ⟨sA, sB⟩ := hSw; first | (go_simp; done) | (go_simp; with_reducible rfl))); (try simp only [Act.put, List.getElem_toArray, List.getElem_cons_succ, List.getElem_cons_zero, List.setIfInBounds_toArray, List.set_cons_zero, List.set_cons_succ]))
        (refine wpAnyH_take (i := 2) (v := ?hv7) rfl (by kernel_rfl) (by kernel_rfl) (by kernel_rfl) (fun _ _ _ h => h) (Or.inl ⟨by rfl, ?hy7⟩) (by assumption) ?hrest7; (case hy7 => (intro w hSw; obtain ⟨sA, sB⟩ := hSw; first | (go_simp; done) | (go_simp; with_reducible rfl))); (try simp only [Act.put, List.getElem_toArray, List.getElem_cons_succ, List.getElem_cons_zero, List.setIfInBounds_toArray, List.set_cons_zero, List.set_cons_succ]))
        (refine wpAnyH_take (i := 4) (v := ?hv8) rfl (by kernel_rfl) (by kernel_rfl) (by kernel_rfl) (fun _ _ _ h => h) (Or.inl ⟨by rfl, ?hy8⟩) (by assumption) ?hrest8; (case hy8 => (intro w hSw; obtain ⟨sA, sB⟩ := hSw; first | (go_simp; done) | (go_simp; with_reducible rfl))); (try simp only [Act.put, List.getElem_toArray, List.getElem_cons_succ, List.getElem_cons_zero, List.setIfInBounds_toArray, List.set_cons_zero, List.set_cons_succ]))
        (refine wpAnyH_take (i := 5) (v := ?hv9) rfl (by kernel_rfl) (by kernel_rfl) (by kernel_rfl) (fun _ _ _ h => h) (Or.inl ⟨by rfl, ?hy9⟩) (by assumption) ?hrest9; (case hy9 => (intro w hSw; obtain ⟨sA, sB⟩ := hSw; first | (go_simp; done) | (go_simp; with_reducible rfl))); (try simp only [Act.put, List.getElem_toArray, List.getElem_cons_succ, List.getElem_cons_zero, List.setIfInBounds_toArray, List.set_cons_zero, List.set_cons_succ]))
        (refine wpAnyH_take (i := 6) (v := ?hv10) rfl (by kernel_rfl) (by kernel_rfl) (by kernel_rfl) (fun _ _ _ h => h) (Or.inl ⟨by rfl, ?hy10⟩) (by assumption) ?hrest10; (case hy10 => (intro w hSw; obtain ⟨sA, sB⟩ := hSw; first | (go_simp; done) | (go_simp; with_reducible rfl))); (try simp only [Act.put, List.getElem_toArray, List.getElem_cons_succ, List.getElem_cons_zero, List.setIfInBounds_toArray, List.set_cons_zero, List.set_cons_succ]))
        (refine wpAnyH_take (i := 8) (v := ?hv11) rfl (by kernel_rfl) (by kernel_rfl) (by kernel_rfl) (fun _ _ _ h => h) (Or.inl ⟨by rfl, ?hy11⟩) (by assumption) ?hrest11; (case hy11 => (intro w hSw; obtain ⟨sA, sB⟩ := hSw; first | (go_simp; done) | (go_simp; with_reducible rfl))); (try simp only [Act.put, List.getElem_toArray, List.getElem_cons_succ, List.getElem_cons_zero, List.setIfInBounds_toArray, List.set_cons_zero, List.set_cons_succ]))
        (refine wpAnyH_take (i := 9) (v := ?hv12) rfl (by kernel_rfl) (by kernel_rfl) (by kernel_rfl) (fun _ _ _ h => h) (Or.inl ⟨by rfl, ?hy12⟩) (by assumption) ?hrest12; (case hy12 => (intro w hSw; obtain ⟨sA, sB⟩ := hSw; first | (go_simp; done) | (go_simp; with_reducible rfl))); (try simp only [Act.put, List.getElem_toArray, List.getElem_cons_succ, List.getElem_cons_zero, List.setIfInBounds_toArray, List.set_cons_zero, List.set_cons_succ]))
        (refine wpAnyH_take (i := 10) (v := ?hv13) rfl (by kernel_rfl) (by kernel_rfl) (by kernel_rfl) (fun _ _ _ h => h) (Or.inl ⟨by rfl, ?hy13⟩) (by assumption) ?hrest13; (case hy13 => (intro w hSw; obtain ⟨sA, sB⟩ := hSw; first | (go_simp; done) | (go_simp; with_reducible rfl))); (try simp only [Act.put, List.getElem_toArray, List.getElem_cons_succ, List.getElem_cons_zero, List.setIfInBounds_toArray, List.set_cons_zero, List.set_cons_succ]))
        (refine wpAnyH_take (i := 13) (v := ?hv14) rfl (by kernel_rfl) (by kernel_rfl) (by kernel_rfl) (fun _ _ _ h => h) (Or.inl ⟨by rfl, ?hy14⟩) (by assumption) ?hrest14; (case hy14 => (intro w hSw; obtain ⟨sA, sB⟩ := hSw; first | (go_simp; done) | (go_simp; with_reducible rfl))); (try simp only [Act.put, List.getElem_toArray, List.getElem_cons_succ, List.getElem_cons_zero, List.setIfInBounds_toArray, List.set_cons_zero, List.set_cons_succ]))
        (refine wpAnyH_take (i := 14) (v := ?hv15) rfl (by kernel_rfl) (by kernel_rfl) (by kernel_rfl) (fun _ _ _ h => h) (Or.inl ⟨by rfl, ?hy15⟩) (by assumption) ?hrest15; (case hy15 => (intro w hSw; obtain ⟨sA, sB⟩ := hSw; first | (go_simp; done) | (go_simp; with_reducible rfl))); (try simp only [Act.put, List.getElem_toArray, List.getElem_cons_succ, List.getElem_cons_zero, List.setIfInBounds_toArray, List.set_cons_zero, List.set_cons_succ]))
        (refine wpAnyH_take (i := 15) (v := ?hv16) rfl (by kernel_rfl) (by kernel_rfl) (by kernel_rfl) (fun _ _ _ h => h) (Or.inl ⟨by rfl, ?hy16⟩) (by assumption) ?hrest16; (case hy16 => (intro w hSw; obtain ⟨sA, sB⟩ := hSw; first | (go_simp; done) | (go_simp; with_reducible rfl))); (try simp only [Act.put, List.getElem_toArray, List.getElem_cons_succ, List.getElem_cons_zero, List.setIfInBounds_toArray, List.set_cons_zero, List.set_cons_succ]))
        (refine wpAnyH_take (i := 18) (v := ?hv17) rfl (by kernel_rfl) (by kernel_rfl) (by kernel_rfl) (fun _ _ _ h => h) (Or.inl ⟨by rfl, ?hy17⟩) (by assumption) ?hrest17; (case hy17 => (intro w hSw; obtain ⟨sA, sB⟩ := hSw; first | (go_simp; done) | (go_simp; with_reducible rfl))); (try simp only [Act.put, List.getElem_toArray, List.getElem_cons_succ, List.getElem_cons_zero, List.setIfInBounds_toArray, List.set_cons_zero, List.set_cons_succ]))
        (refine wpAnyH_take (i := 19) (v := ?hv18) rfl (by kernel_rfl) (by kernel_rfl) (by kernel_rfl) (fun _ _ _ h => h) (Or.inl ⟨by rfl, ?hy18⟩) (by assumption) ?hrest18; (case hy18 => (intro w hSw; obtain ⟨sA, sB⟩ := hSw; first | (go_simp; done) | (go_simp; with_reducible rfl))); (try simp only [Act.put, List.getElem_toArray, List.getElem_cons_succ, List.getElem_cons_zero, List.setIfInBounds_toArray, List.set_cons_zero, List.set_cons_succ]))
        (refine wpAnyH_take (i := 22) (v := ?hv19) rfl (by kernel_rfl) (by kernel_rfl) (by kernel_rfl) (fun _ _ _ h => h) (Or.inl ⟨by rfl, ?hy19⟩) (by assumption) ?hrest19; (case hy19 => (intro w hSw; obtain ⟨sA, sB⟩ := hSw; first | (go_simp; done) | (go_simp; with_reducible rfl))); (try simp only [Act.put, List.getElem_toArray, List.getElem_cons_succ, List.getElem_cons_zero, List.setIfInBounds_toArray, List.set_cons_zero, List.set_cons_succ]))
        refine wpAnyH_ready (rs := [3]) (by kernel_rfl) (by simp) ?_
        refine AllReadyH.cons rfl (fun K hK => ?_) AllReadyH.nil
        go_simp
        go_at_call 26
        refine (oneC _ _).mono ?_
        rintro e wa ⟨rfl, hb⟩
        have HBwa := Aside0.mk (below_step (below_drew (Below.refl w5.heap.size w5)) hb)
        clear hb
        refine hK.out _ _ (SOF.out _ HBwa.out) (fun hHeld => ?_)
        clear hK K
        refine wpAnyH_ready (rs := [7]) (by kernel_rfl) (by simp) ?_
        refine AllReadyH.cons rfl (fun K hK => ?_) AllReadyH.nil
        go_simp
        go_at_call 26
        refine (oneC _ _).mono ?_
        rintro e wb2 ⟨rfl, hb⟩
        have HBwb2 := Aside0.mk (below_step HBwa.out hb)
        clear hb
        refine hK.out _ _ (SOF.out _ HBwb2.out) (fun hHeld => ?_)
        clear hK K
        refine wpAnyH_ready (rs := [11]) (by kernel_rfl) (by simp) ?_
        refine AllReadyH.cons rfl (fun K hK => ?_) AllReadyH.nil
        go_simp
        go_at_call 26
        refine (oneC _ _).mono ?_
        rintro e wc ⟨rfl, hb⟩
        have HBwc := Aside0.mk (below_step HBwb2.out hb)
        clear hb
        refine hK.out _ _ (SOF.out _ HBwc.out) (fun hHeld => ?_)
        clear hK K
        (refine wpAnyH_take (i := 12) (v := ?hv20) rfl (by kernel_rfl) (by kernel_rfl) (by kernel_rfl) (fun _ _ _ h => h) (Or.inl ⟨by rfl, ?hy20⟩) (by assumption) ?hrest20; (case hy20 => (intro w hSw; obtain ⟨sA, sB⟩ := hSw; first | (go_simp; done) | (go_simp; with_reducible rfl))); (try simp only [Act.put, List.getElem_toArray, List.getElem_cons_succ, List.getElem_cons_zero, List.setIfInBounds_toArray, List.set_cons_zero, List.set_cons_succ]))
        refine wpAnyH_ready (rs := [16]) (by kernel_rfl) (by simp) ?_
        refine AllReadyH.cons rfl (fun K hK => ?_) AllReadyH.nil
        go_simp
        go_at_call 26
        refine (oneC _ _).mono ?_
        rintro e wd ⟨rfl, hb⟩
        have HBwd := Aside0.mk (below_step HBwc.out hb)
        clear hb
        refine hK.out _ _ (SOF.out _ HBwd.out) (fun hHeld => ?_)
        clear hK K
        (refine wpAnyH_take (i := 17) (v := ?hv21) rfl (by kernel_rfl) (by kernel_rfl) (by kernel_rfl) (fun _ _ _ h => h) (Or.inl ⟨by rfl, ?hy21⟩) (by assumption) ?hrest21; (case hy21 => (intro w hSw; obtain ⟨sA, sB⟩ := hSw; first | (go_simp; done) | (go_simp; with_reducible rfl))); (try simp only [Act.put, List.getElem_toArray, List.getElem_cons_succ, List.getElem_cons_zero, List.setIfInBounds_toArray, List.set_cons_zero, List.set_cons_succ]))
        refine wpAnyH_ready (rs := [20]) (by kernel_rfl) (by simp) ?_
        refine AllReadyH.cons rfl (fun K hK => ?_) AllReadyH.nil
        go_simp
        go_at_call 26
        refine (oneC _ _).mono ?_
        rintro e we ⟨rfl, hb⟩
        have HBwe := Aside0.mk (below_step HBwd.out hb)
        clear hb
        refine hK.out _ _ (SOF.out _ HBwe.out) (fun hHeld => ?_)
        clear hK K
        (refine wpAnyH_take (i := 21) (v := ?hv22) rfl (by kernel_rfl) (by kernel_rfl) (by kernel_rfl) (fun _ _ _ h => h) (Or.inl ⟨by rfl, ?hy22⟩) (by assumption) ?hrest22; (case hy22 => (intro w hSw; obtain ⟨sA, sB⟩ := hSw; first | (go_simp; done) | (go_simp; with_reducible rfl))); (try simp only [Act.put, List.getElem_toArray, List.getElem_cons_succ, List.getElem_cons_zero, List.setIfInBounds_toArray, List.set_cons_zero, List.set_cons_succ]))
        refine wpAnyH_ready (rs := [23]) (by kernel_rfl) (by simp) ?_
        refine AllReadyH.cons rfl (fun K hK => ?_) AllReadyH.nil
        go_simp
        rw [four_mk _ HQ1.out]
        refine hK.out _ _ (SOF.out _ (below_alloc HBwe.out _)) (fun hHeld => ?_)
        clear hK K
        refine wpAnyH_ready (rs := [24]) (by kernel_rfl) (by simp) ?_
        refine AllReadyH.cons rfl (fun K hK => ?_) AllReadyH.nil
        refine Kd.R_append_rows_step Kd.string (Rr := fun x cs => cs = [Value.string x]) (w0 := w5) w.heap.size rfl (.tmp 40) (.tmp 63) 42 9 (.string ⟨#[]⟩) 16 rfl Tryd.underlying42 (by kernel_rfl) rfl (by decide) (by decide) u5 ((encL h p (l.take i)).map mk) ((parts r).map mk) (some ⟨_, 0, none⟩) 3 3 (fun _ => True) (fun _ => False) rfl rfl (Kd.R_below HR5.out (below_alloc HBwe.out _)) (strs3_C _ _ _ _) (fun _ _ h => h) (fun _ hk => hk.elim) (fun _ _ => trivial) (Below.mono (below_alloc HBwe.out _) HB5.out.size) (Nat.le_trans HB5.out.size (Below.size (B := w5.heap.size) (below_alloc HBwe.out _))) (by have := HL3.out; omega) ?_
        intro v1 w9 hr9 hb9 hg9 hat9
        have HR9 := Aside0.mk hr9
        have HB9 := Aside0.mk (HB5.out.trans hb9)
        have HGb9 := Aside0.mk (blk_grown (blk_below HGb5.out (below_alloc HBwe.out _)) hg9 NEb.out)
        have HS9 : Aside0 (w9.cell? ⟨g, 0, none⟩ = some (.int .i64 r.f0) ∧ w9.cell? ⟨g, 1, none⟩ = some (.int .i64 r.f1)) := ⟨SOG.out _ (blk_grown (blk_below HG5.out (below_alloc HBwe.out _)) hg9 NE9.out)⟩
        clear hr9 hb9 hg9 hat9
        refine hK.out _ _ HS9.out (fun hHeld => ?_)
        clear hK K
        refine wpAnyH_ready (rs := [25]) (by kernel_rfl) (by simp) ?_
        refine AllReadyH.cons rfl (fun K hK => ?_) AllReadyH.nil
        go_simp
        refine hK.out _ _ HS9.out (fun hHeld => ?_)
        clear hK K
        refine wpAnyH_done (by kernel_rfl) ?_ _
        clear hHeld
        go_wp2
        go_roundg k1
        case measure => omega
        case rel => exact ⟨i + 1, by first | rfl | (simp; done), HI1, ⟨by rw [HT.out, encL_snoc, List.map_append]; exact HR9.out⟩, HGb9, HB9⟩
      · obtain rfl : gk = 0 := by omega
        have hge : decide ((i : Int) < (n : Int)) = false := decide_eq_false (by omega)
        have HT : Aside0 (l.take i = l) := ⟨List.take_of_length_le (by have := HN.out; omega)⟩
        have hr0 := HRi.out
        rw [HT.out] at hr0
        obtain ⟨A6, c6, rfl, hc6, hC6⟩ := Kd.R_reads hr0
        have HC6 := Aside0.mk hC6
        have hshort : ∀ x ∈ encL h p l, x.length ≤ 100000 := encL_short HK.out
        have HSH := Aside0.mk hshort
        have hlen : (encL h p l).length ≤ 100000 := by rw [encL_len]; have := HN.out; omega
        have HLN := Aside0.mk hlen
        obtain ⟨T, hT⟩ : ∃ T, T = texts (encL h p l) := ⟨_, rfl⟩
        have HTE := Aside0.mk hT
        generalize ((encL h p l).map mk).length = pl at *
        clear hr0 HRi hC6 hshort hlen hT HI
        have HE2 : Aside0 (encO h p l = if T.length > 4096 then ([], 2) else (T, 0)) := ⟨by unfold encO; rw [← HTE.out]⟩
        have hsz : (mk T).size = T.length := mk_size T
        by_cases h96 : T.length > 4096
        · have t96 : decide (4096 < ((mk T).size : Int)) = true := by rw [hsz]; exact decide_eq_true (by omega)
          have HE3 : Aside0 (encO h p l = ([], 2)) := ⟨by rw [HE2.out, if_pos h96]⟩
          clear hsz h96
          go_wp2_with (first | ((with_reducible refine gate_callee (f := 28) rfl ?_); refine goesL_ (some 66) rfl rfl Tryd.func28 (by kernel_rfl) rfl #[.slice A6 pl c6] rfl (by (try simp only [List.map_toArray, List.map_cons, List.map_nil]); first | done | rfl) ?_; (with_reducible refine (rtextsC A6 pl c6 (encL h p l) _ HC6.out hc6 HLN.out HSH.out).mono ?_); rintro e w7 ⟨rfl, hb⟩; refine ⟨_, rfl, ?_⟩; rw [← HTE.out]; have HB7 := Aside0.mk (below_step HBi.out hb); clear hb))
          go_ret2
          exact ⟨by rw [HE3.out]; rfl, HB7.out⟩
        · have t96 : decide (4096 < ((mk T).size : Int)) = false := by rw [hsz]; exact decide_eq_false (by omega)
          have HE3 : Aside0 (encO h p l = (T, 0)) := ⟨by rw [HE2.out, if_neg h96]⟩
          clear hsz h96
          go_wp2_with (first | ((with_reducible refine gate_callee (f := 28) rfl ?_); refine goesL_ (some 66) rfl rfl Tryd.func28 (by kernel_rfl) rfl #[.slice A6 pl c6] rfl (by (try simp only [List.map_toArray, List.map_cons, List.map_nil]); first | done | rfl) ?_; (with_reducible refine (rtextsC A6 pl c6 (encL h p l) _ HC6.out hc6 HLN.out HSH.out).mono ?_); rintro e w7 ⟨rfl, hb⟩; refine ⟨_, rfl, ?_⟩; rw [← HTE.out]; have HB7 := Aside0.mk (below_step HBi.out hb); clear hb))
          go_ret2
          exact ⟨by rw [HE3.out]; rfl, HB7.out⟩
  · have HK := Aside0.mk hk
    have HE : Aside0 (encF h p l = ([], 1)) := ⟨by unfold encF; rw [if_neg hk]⟩
    rw [HE.out]
    clear hk
    unfold cB
    go_enter Tryd.func11, Tryd.ntmps11
    go_wp2_with (first | ((with_reducible refine gate_dst (N := 1) rfl ?_); refine box_event ?hg (N := 1) ?hd (cs := #[.int .i64 h, .string p, .slice A n c]) (t := 24) ?hr ?_; (case hd => rfl); (case hg => rfl); (case hr => first | (go_simp; done) | (go_simp; rfl)); intro gb hgb wb hboxb hbb; have HGB := Aside0.mk hboxb; have HBB := Aside0.mk hbb; have y0 : wb.cell? ⟨gb, 0, none⟩ = some (.int .i64 h) := (blk_cell hboxb 0).trans rfl; have yz0 : wb.frozen? ⟨gb, 0, none⟩ = false := blk_frozen hboxb 0; have y1 : wb.cell? ⟨gb, 1, none⟩ = some (.string p) := (blk_cell hboxb 1).trans rfl; have yz1 : wb.frozen? ⟨gb, 1, none⟩ = false := blk_frozen hboxb 1; have y2 : wb.cell? ⟨gb, 2, none⟩ = some (.slice A n c) := (blk_cell hboxb 2).trans rfl; have yz2 : wb.frozen? ⟨gb, 2, none⟩ = false := blk_frozen hboxb 2; clear hgb hboxb hbb) | ((with_reducible refine gate_callee (f := 13) rfl ?_); refine goesL_ (some 12) rfl rfl Tryd.func13 (by kernel_rfl) rfl #[.agg (cB h p A n c)] rfl (by (try simp only [List.map_toArray, List.map_cons, List.map_nil]); first | done | rfl) ?_; (with_reducible refine (rcheckC h p A n c l _ HN.out (Kd.C_below HC.out HBB.out) hnc).mono ?_); rintro e w1 ⟨rfl, hb⟩; refine ⟨_, rfl, ?_⟩; rw [eB_neg HK.out]; have HB1 := Aside0.mk (below_step HBB.out hb); clear hb))
    go_ret2
    exact ⟨rfl, HB1.out⟩
end Go.Proofs.YtifpomknkjegeaaDoor.Bk
