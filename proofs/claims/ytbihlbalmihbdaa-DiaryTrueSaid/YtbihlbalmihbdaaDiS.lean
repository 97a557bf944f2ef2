import Derived.Test.YtbihlbalmihbdaaDiAll
namespace Go.Proofs.Ytbihlbalmihbdaa.Di
open Go.RowKit Go.Proofs.Ytbihlbalmihbdaa.PAll Go.Proofs.YtbihlbalmihbdaaW.PrintWords Go.Proofs.YtbihlbalmihbdaaW.PrintLast Go.Proofs.YtbihlbalmihbdaaW.PrintMore SG Go.Proofs.Ytbihlbalmihbdaa.Fun Go.Proofs.Ytbihlbalmihbdaa.Wal
open Go.Proofs.Ytbihlbalmihbdaa.WFun (okT recT recT_len E_chkT E_rec rdX E_dr tup rdX_rec rdX_ok)
set_option linter.unusedVariables false
set_option linter.unusedSimpArgs false
attribute [local go_sem high] eqA31
/-- A deed's cells. -/
def cD (x : S34) : Array Value := #[.int .i64 x.f0, .int .i64 x.f1.f0, .int .i64 x.f1.f1.f0, .int .i64 x.f1.f1.f1, .int .i64 x.f1.f1.f2, .int .i64 x.f1.f1.f3, .string x.f1.f1.f4, .int .u64 x.f2]
/-- A deed's variable that gets its value. -/
def set8 (w : World) (g : Nat) (x : S34) : World := (((((((w.setCell ⟨g, 0, none⟩ (.int .i64 x.f0)).setCell ⟨g, 1, none⟩ (.int .i64 x.f1.f0)).setCell ⟨g, 2, none⟩ (.int .i64 x.f1.f1.f0)).setCell ⟨g, 3, none⟩ (.int .i64 x.f1.f1.f1)).setCell ⟨g, 4, none⟩ (.int .i64 x.f1.f1.f2)).setCell ⟨g, 5, none⟩ (.int .i64 x.f1.f1.f3)).setCell ⟨g, 6, none⟩ (.string x.f1.f1.f4)).setCell ⟨g, 7, none⟩ (.int .u64 x.f2)
theorem set8_blk {w : World} {g : Nat} {a b c d e f h i : Value} (hg : w.heap[g]? = some (.cells #[a, b, c, d, e, f, h, i] 34 (0, 0))) (x : S34) : (set8 w g x).heap[g]? = some (.cells (cD x) 34 (0, 0)) := by
  simpa [set8, cD] using blk_set (blk_set (blk_set (blk_set (blk_set (blk_set (blk_set (blk_set hg 0 (.int .i64 x.f0)) 1 (.int .i64 x.f1.f0)) 2 (.int .i64 x.f1.f1.f0)) 3 (.int .i64 x.f1.f1.f1)) 4 (.int .i64 x.f1.f1.f2)) 5 (.int .i64 x.f1.f1.f3)) 6 (.string x.f1.f1.f4)) 7 (.int .u64 x.f2)
theorem set8_below {w w' : World} {g B : Nat} (h : Below B w w') (hg : B ≤ g) (x : S34) : Below B w (set8 w' g x) := by
  unfold set8
  exact Below.setCell (Below.setCell (Below.setCell (Below.setCell (Below.setCell (Below.setCell (Below.setCell (Below.setCell h hg _) hg _) hg _) hg _) hg _) hg _) hg _) hg _
theorem crash_wait (s : St) (keep : Int) : (crashF s keep).wait = [] := rfl
set_option maxHeartbeats 16000000 in
set_option maxRecDepth 100000 in
theorem DiaryTrue_many (A0 : Option Addr) (c0 : Nat) (l : List S34) (w : World) (hr0 : Kd.C k34 w A0 l.length l) (hc0 : l.length ≤ c0) (hf : sandglasslaw44_few.f (l.length + 1) l = some false) :
    Calls Try.prog 3 #[.slice A0 l.length c0] w fun e w' => e = .returned (.bool true) ∧ Below w.heap.size w w' := by
  go_enter Try.func3, Try.ntmps3
  go_wp2_with (first | ((with_reducible refine gate_callee (f := 7) rfl ?_); refine goesL_ (some 10) rfl rfl Try.func7 (by kernel_rfl) rfl #[.slice A0 l.length c0] rfl (by (try simp only [List.map_toArray, List.map_cons, List.map_nil]); first | done | rfl) ?_; (with_reducible refine (sandglasslaw44_few.calls _ A0 c0 l false _ hr0 hc0 hf).mono ?_); rintro e w1 ⟨rfl, hb⟩; refine ⟨_, rfl, ?_⟩; have HB1 := Aside0.mk hb.below; clear hb) | ((with_reducible refine gate_callee (f := 8) rfl ?_); refine goesL_ (some 12) rfl rfl Try.func8 (by kernel_rfl) rfl #[] rfl (by (try simp only [List.map_toArray, List.map_cons, List.map_nil]); first | done | rfl) ?_; (with_reducible refine (awake _).mono ?_); rintro e w2 ⟨rfl, hb⟩; refine ⟨_, rfl, ?_⟩; have HB2 := Aside0.mk (below_step HB1.out hb); clear hb))
  go_ret
  exact ⟨rfl, HB2.out⟩
set_option maxHeartbeats 16000000 in
set_option maxRecDepth 100000 in
theorem DiaryTrue_few (A0 : Option Addr) (c0 : Nat) (l : List S34) (w : World) (hr0 : Kd.C k34 w A0 l.length l) (hc0 : l.length ≤ c0) (hf : sandglasslaw44_few.f (l.length + 1) l = some true) (hfl : l.length ≤ 80) :
    Calls Try.prog 3 #[.slice A0 l.length c0] w fun e w' => e = .returned (.bool true) ∧ Below w.heap.size w w' := by
  have HR0 := Aside0.mk hr0
  have HF := Aside0.mk hf
  clear hf
  go_enter Try.func3, Try.ntmps3
  go_wp2_with (first | ((with_reducible refine gate_callee (f := 7) rfl ?_); refine goesL_ (some 10) rfl rfl Try.func7 (by kernel_rfl) rfl #[.slice A0 l.length c0] rfl (by (try simp only [List.map_toArray, List.map_cons, List.map_nil]); first | done | rfl) ?_; (with_reducible refine (sandglasslaw44_few.calls _ A0 c0 l true _ hr0 hc0 HF.out).mono ?_); rintro e w1 ⟨rfl, hb⟩; refine ⟨_, rfl, ?_⟩; have HB1 := Aside0.mk hb.below; clear hb) | ((with_reducible refine gate_callee (f := 9) rfl ?_); refine goesL_ (some 13) rfl rfl Try.func9 (by kernel_rfl) rfl #[] rfl (by (try simp only [List.map_toArray, List.map_cons, List.map_nil]); first | done | rfl) ?_; (with_reducible refine (DNewz _).mono ?_); rintro e w2 ⟨d, rfl, hz, hb⟩; refine ⟨_, rfl, ?_⟩; have HI2 := Aside0.mk (OI_0 hz hb); clear hz hb))
  clear hr0
  go_loopg [4, 5] l.length (fun kq v4 v5 w' => ∃ (i : Nat) (came : List S31) (s : St), v5 = .int .i64 (i : Int) ∧ Aside0 (i + kq = l.length) ∧ Aside0 (OI w1 w' d v4 came s) ∧ Aside0 (came.length + s.wait.length ≤ i))
  case atStart => exact ⟨0, [], st0, rfl, ⟨by omega⟩, HI2, ⟨Nat.le_refl _⟩⟩
  case round =>
    obtain ⟨i, came, s, rfl, HI, HIi, HLN⟩ := hrel
    have hi := HI.out
    have HLB : Aside0 ((came.length + s.wait.length) * 56 ≤ 140737488355328) := ⟨by have := HLN.out; omega⟩
    by_cases hat : i < l.length
    · obtain ⟨k1, rfl⟩ : ∃ k1, gk = k1 + 1 := ⟨gk - 1, by omega⟩
      have hlt : decide ((i : Int) < (l.length : Int)) = true := decide_eq_true (by omega)
      obtain ⟨ad, e101, sof⟩ := at34 HR0.out hat
      cases e101
      have SOF := Aside0.mk (fun w' (hb : Below w1.heap.size w1 w') => sof w' (below_step HB1.out hb))
      clear sof
      obtain ⟨x0, x1, x2, x3, x4, x5, x6, x7⟩ := SOF.out _ (HIi.out.2.2.2)
      generalize l[i] = x at *
      clear HI
      by_cases hk : x.f0 = 1
      · have e1 : (x.f0 == 1) = true := by simp [hk]
        clear hk
        go_wp2_with (first | ((with_reducible refine gate_dst (N := 6) rfl ?_); refine box_event ?hg (N := 6) ?hd (cs := #[.int .i64 0, .int .i64 0, .int .i64 0, .int .i64 0, .int .i64 0, .int .i64 0, .string ⟨#[]⟩, .int .u64 0]) (t := 34) ?hr ?_; (case hd => rfl); (case hg => rfl); (case hr => first | (go_simp; done) | (go_simp; rfl)); intro g hg w3 hbox hb; have HG3 := Aside0.mk hbox; have HGE := Aside0.mk (show wr.heap.size ≤ g by rw [hg]; exact Nat.le_refl _); have HB3 := Aside0.mk hb; have b0 : w3.cell? ⟨g, 0, none⟩ = some (.int .i64 0) := (blk_cell hbox 0).trans rfl; have bz0 : w3.frozen? ⟨g, 0, none⟩ = false := blk_frozen hbox 0; have b1 : w3.cell? ⟨g, 1, none⟩ = some (.int .i64 0) := (blk_cell hbox 1).trans rfl; have bz1 : w3.frozen? ⟨g, 1, none⟩ = false := blk_frozen hbox 1; have b2 : w3.cell? ⟨g, 2, none⟩ = some (.int .i64 0) := (blk_cell hbox 2).trans rfl; have bz2 : w3.frozen? ⟨g, 2, none⟩ = false := blk_frozen hbox 2; have b3 : w3.cell? ⟨g, 3, none⟩ = some (.int .i64 0) := (blk_cell hbox 3).trans rfl; have bz3 : w3.frozen? ⟨g, 3, none⟩ = false := blk_frozen hbox 3; have b4 : w3.cell? ⟨g, 4, none⟩ = some (.int .i64 0) := (blk_cell hbox 4).trans rfl; have bz4 : w3.frozen? ⟨g, 4, none⟩ = false := blk_frozen hbox 4; have b5 : w3.cell? ⟨g, 5, none⟩ = some (.int .i64 0) := (blk_cell hbox 5).trans rfl; have bz5 : w3.frozen? ⟨g, 5, none⟩ = false := blk_frozen hbox 5; have b6 : w3.cell? ⟨g, 6, none⟩ = some (.string ⟨#[]⟩) := (blk_cell hbox 6).trans rfl; have bz6 : w3.frozen? ⟨g, 6, none⟩ = false := blk_frozen hbox 6; have b7 : w3.cell? ⟨g, 7, none⟩ = some (.int .u64 0) := (blk_cell hbox 7).trans rfl; have bz7 : w3.frozen? ⟨g, 7, none⟩ = false := blk_frozen hbox 7; clear hg hbox hb) | ((with_reducible refine gate_store (t := 34) (p := 6) (v := .tmp 23) rfl ?_); refine store_event (w1 := (set8 w3 g x)) ?hg rfl ?hN ?hr ?_; (case hg => rfl); (case hN => rfl); (case hr => first | (go_simp; done) | (go_simp; rfl)); intro w4 hw4; have hg4 : w4.heap[g]? = some (.cells (cD x) 34 (0, 0)) := (by rw [hw4]; exact set8_blk HG3.out x); have HI4 := Aside0.mk (HIi.out.below (show Below wr.heap.size wr w4 by rw [hw4]; exact set8_below HB3.out HGE.out x)); have y0 : w4.cell? ⟨g, 0, none⟩ = some (.int .i64 x.f0) := (blk_cell hg4 0).trans rfl; have yz0 : w4.frozen? ⟨g, 0, none⟩ = false := blk_frozen hg4 0; have y1 : w4.cell? ⟨g, 1, none⟩ = some (.int .i64 x.f1.f0) := (blk_cell hg4 1).trans rfl; have yz1 : w4.frozen? ⟨g, 1, none⟩ = false := blk_frozen hg4 1; have y2 : w4.cell? ⟨g, 2, none⟩ = some (.int .i64 x.f1.f1.f0) := (blk_cell hg4 2).trans rfl; have yz2 : w4.frozen? ⟨g, 2, none⟩ = false := blk_frozen hg4 2; have y3 : w4.cell? ⟨g, 3, none⟩ = some (.int .i64 x.f1.f1.f1) := (blk_cell hg4 3).trans rfl; have yz3 : w4.frozen? ⟨g, 3, none⟩ = false := blk_frozen hg4 3; have y4 : w4.cell? ⟨g, 4, none⟩ = some (.int .i64 x.f1.f1.f2) := (blk_cell hg4 4).trans rfl; have yz4 : w4.frozen? ⟨g, 4, none⟩ = false := blk_frozen hg4 4; have y5 : w4.cell? ⟨g, 5, none⟩ = some (.int .i64 x.f1.f1.f3) := (blk_cell hg4 5).trans rfl; have yz5 : w4.frozen? ⟨g, 5, none⟩ = false := blk_frozen hg4 5; have y6 : w4.cell? ⟨g, 6, none⟩ = some (.string x.f1.f1.f4) := (blk_cell hg4 6).trans rfl; have yz6 : w4.frozen? ⟨g, 6, none⟩ = false := blk_frozen hg4 6; have y7 : w4.cell? ⟨g, 7, none⟩ = some (.int .u64 x.f2) := (blk_cell hg4 7).trans rfl; have yz7 : w4.frozen? ⟨g, 7, none⟩ = false := blk_frozen hg4 7; clear hg4 hw4) | ((with_reducible refine gate_callee (f := 10) rfl ?_); refine goesL_ (some 34) rfl rfl Try.func10 (by kernel_rfl) rfl #[.pointer (some ⟨d, 0, none⟩)] rfl (by (try simp only [List.map_toArray, List.map_cons, List.map_nil]); first | done | rfl) ?_; (with_reducible refine (OIOut HI4.out).mono ?_); rintro e w5 ⟨A3, c3, rfl, ho⟩; refine ⟨_, rfl, ?_⟩; have HO3 := Aside0.mk ho; clear ho) | ((with_reducible refine gate_builtin (b := .append) (xs := #[.tmp 32, .tmp 34]) rfl ?_); at_builtin; refine Kd.R_append_rows k31 (Rr := fun x cs => k31.K w5 x cs) (w0 := w1) w1.heap.size rfl (.tmp 32) (.tmp 34) 27 31 (.agg (cT z31)) 56 rfl Try.underlying27 info31 rfl (by decide) (by decide) u4 came s.wait A3 s.wait.length c3 (fun k => Value.ownBlock u4 = some k ∨ w5.heap.size ≤ k) (fun _ => False) rfl rfl ?aO ?aR ?aK ?aP ?aF ?aB ?aS ?aL ?_; (case aO => exact HO3.out.row); (case aR => exact HO3.out.reads); (case aK => intro x cs hk; obtain rfl := k31_open hk; exact k31_mkM _ _ _ x); (case aP => exact fun _ hk => hk.elim); (case aF => intro k hk; exact .inr hk); (case aB => exact HO3.out.bel); (case aS => exact HO3.out.bel.size); (case aL => exact HLB.out); intro v6 w6 hr4 hb4 hg4 hat4; have HI6 := Aside0.mk (HO3.out.grown hr4 hb4 hg4 hat4); clear hr4 hb4 hg4 hat4))
        go_roundg k1
        case measure => omega
        case rel => exact ⟨i + 1, _, outF s, by first | rfl | (simp; done), ⟨by omega⟩, HI6, ⟨by have := HLN.out; rw [List.length_append]; show _ + 0 ≤ _; omega⟩⟩
      · have e1 : (x.f0 == 1) = false := by simpa using hk
        clear hk
        by_cases hk : x.f0 = 2
        · have e2 : (x.f0 == 2) = true := by simp [hk]
          clear hk
          go_wp2_with (first | ((with_reducible refine gate_dst (N := 6) rfl ?_); refine box_event ?hg (N := 6) ?hd (cs := #[.int .i64 0, .int .i64 0, .int .i64 0, .int .i64 0, .int .i64 0, .int .i64 0, .string ⟨#[]⟩, .int .u64 0]) (t := 34) ?hr ?_; (case hd => rfl); (case hg => rfl); (case hr => first | (go_simp; done) | (go_simp; rfl)); intro g hg w3 hbox hb; have HG3 := Aside0.mk hbox; have HGE := Aside0.mk (show wr.heap.size ≤ g by rw [hg]; exact Nat.le_refl _); have HB3 := Aside0.mk hb; have b0 : w3.cell? ⟨g, 0, none⟩ = some (.int .i64 0) := (blk_cell hbox 0).trans rfl; have bz0 : w3.frozen? ⟨g, 0, none⟩ = false := blk_frozen hbox 0; have b1 : w3.cell? ⟨g, 1, none⟩ = some (.int .i64 0) := (blk_cell hbox 1).trans rfl; have bz1 : w3.frozen? ⟨g, 1, none⟩ = false := blk_frozen hbox 1; have b2 : w3.cell? ⟨g, 2, none⟩ = some (.int .i64 0) := (blk_cell hbox 2).trans rfl; have bz2 : w3.frozen? ⟨g, 2, none⟩ = false := blk_frozen hbox 2; have b3 : w3.cell? ⟨g, 3, none⟩ = some (.int .i64 0) := (blk_cell hbox 3).trans rfl; have bz3 : w3.frozen? ⟨g, 3, none⟩ = false := blk_frozen hbox 3; have b4 : w3.cell? ⟨g, 4, none⟩ = some (.int .i64 0) := (blk_cell hbox 4).trans rfl; have bz4 : w3.frozen? ⟨g, 4, none⟩ = false := blk_frozen hbox 4; have b5 : w3.cell? ⟨g, 5, none⟩ = some (.int .i64 0) := (blk_cell hbox 5).trans rfl; have bz5 : w3.frozen? ⟨g, 5, none⟩ = false := blk_frozen hbox 5; have b6 : w3.cell? ⟨g, 6, none⟩ = some (.string ⟨#[]⟩) := (blk_cell hbox 6).trans rfl; have bz6 : w3.frozen? ⟨g, 6, none⟩ = false := blk_frozen hbox 6; have b7 : w3.cell? ⟨g, 7, none⟩ = some (.int .u64 0) := (blk_cell hbox 7).trans rfl; have bz7 : w3.frozen? ⟨g, 7, none⟩ = false := blk_frozen hbox 7; clear hg hbox hb) | ((with_reducible refine gate_store (t := 34) (p := 6) (v := .tmp 23) rfl ?_); refine store_event (w1 := (set8 w3 g x)) ?hg rfl ?hN ?hr ?_; (case hg => rfl); (case hN => rfl); (case hr => first | (go_simp; done) | (go_simp; rfl)); intro w4 hw4; have hg4 : w4.heap[g]? = some (.cells (cD x) 34 (0, 0)) := (by rw [hw4]; exact set8_blk HG3.out x); have HI4 := Aside0.mk (HIi.out.below (show Below wr.heap.size wr w4 by rw [hw4]; exact set8_below HB3.out HGE.out x)); have y0 : w4.cell? ⟨g, 0, none⟩ = some (.int .i64 x.f0) := (blk_cell hg4 0).trans rfl; have yz0 : w4.frozen? ⟨g, 0, none⟩ = false := blk_frozen hg4 0; have y1 : w4.cell? ⟨g, 1, none⟩ = some (.int .i64 x.f1.f0) := (blk_cell hg4 1).trans rfl; have yz1 : w4.frozen? ⟨g, 1, none⟩ = false := blk_frozen hg4 1; have y2 : w4.cell? ⟨g, 2, none⟩ = some (.int .i64 x.f1.f1.f0) := (blk_cell hg4 2).trans rfl; have yz2 : w4.frozen? ⟨g, 2, none⟩ = false := blk_frozen hg4 2; have y3 : w4.cell? ⟨g, 3, none⟩ = some (.int .i64 x.f1.f1.f1) := (blk_cell hg4 3).trans rfl; have yz3 : w4.frozen? ⟨g, 3, none⟩ = false := blk_frozen hg4 3; have y4 : w4.cell? ⟨g, 4, none⟩ = some (.int .i64 x.f1.f1.f2) := (blk_cell hg4 4).trans rfl; have yz4 : w4.frozen? ⟨g, 4, none⟩ = false := blk_frozen hg4 4; have y5 : w4.cell? ⟨g, 5, none⟩ = some (.int .i64 x.f1.f1.f3) := (blk_cell hg4 5).trans rfl; have yz5 : w4.frozen? ⟨g, 5, none⟩ = false := blk_frozen hg4 5; have y6 : w4.cell? ⟨g, 6, none⟩ = some (.string x.f1.f1.f4) := (blk_cell hg4 6).trans rfl; have yz6 : w4.frozen? ⟨g, 6, none⟩ = false := blk_frozen hg4 6; have y7 : w4.cell? ⟨g, 7, none⟩ = some (.int .u64 x.f2) := (blk_cell hg4 7).trans rfl; have yz7 : w4.frozen? ⟨g, 7, none⟩ = false := blk_frozen hg4 7; clear hg4 hw4) | ((with_reducible refine gate_callee (f := 11) rfl ?_); refine goesL_ (some 41) rfl rfl Try.func11 (by kernel_rfl) rfl #[.pointer (some ⟨d, 0, none⟩), .int .u64 x.f2] rfl (by (try simp only [List.map_toArray, List.map_cons, List.map_nil]); first | done | rfl) ?_; (with_reducible refine (OICrash HI4.out x.f2).mono ?_); rintro e w5 ⟨rfl, ho⟩; refine ⟨_, rfl, ?_⟩; have HI5 := Aside0.mk ho; clear ho))
          go_roundg k1
          case measure => omega
          case rel => exact ⟨i + 1, came, crashF s x.f2, by first | rfl | (simp; done), ⟨by omega⟩, HI5, ⟨by have := HLN.out; rw [crash_wait]; show _ + 0 ≤ _; omega⟩⟩
        · have e2 : (x.f0 == 2) = false := by simpa using hk
          clear hk
          obtain ⟨r, s1, hsay⟩ : ∃ r s1, sayF s x.f1 = (r, s1) := ⟨_, _, rfl⟩
          have hsw := say_wait s x.f1
          rw [hsay] at hsw
          have HS1 := Aside0.mk hsay
          have HSW := Aside0.mk (show s1.wait.length ≤ s.wait.length + 1 from hsw.1)
          clear hsay hsw
          go_wp2_with (first | ((with_reducible refine gate_dst (N := 6) rfl ?_); refine box_event ?hg (N := 6) ?hd (cs := #[.int .i64 0, .int .i64 0, .int .i64 0, .int .i64 0, .int .i64 0, .int .i64 0, .string ⟨#[]⟩, .int .u64 0]) (t := 34) ?hr ?_; (case hd => rfl); (case hg => rfl); (case hr => first | (go_simp; done) | (go_simp; rfl)); intro g hg w3 hbox hb; have HG3 := Aside0.mk hbox; have HGE := Aside0.mk (show wr.heap.size ≤ g by rw [hg]; exact Nat.le_refl _); have HB3 := Aside0.mk hb; have b0 : w3.cell? ⟨g, 0, none⟩ = some (.int .i64 0) := (blk_cell hbox 0).trans rfl; have bz0 : w3.frozen? ⟨g, 0, none⟩ = false := blk_frozen hbox 0; have b1 : w3.cell? ⟨g, 1, none⟩ = some (.int .i64 0) := (blk_cell hbox 1).trans rfl; have bz1 : w3.frozen? ⟨g, 1, none⟩ = false := blk_frozen hbox 1; have b2 : w3.cell? ⟨g, 2, none⟩ = some (.int .i64 0) := (blk_cell hbox 2).trans rfl; have bz2 : w3.frozen? ⟨g, 2, none⟩ = false := blk_frozen hbox 2; have b3 : w3.cell? ⟨g, 3, none⟩ = some (.int .i64 0) := (blk_cell hbox 3).trans rfl; have bz3 : w3.frozen? ⟨g, 3, none⟩ = false := blk_frozen hbox 3; have b4 : w3.cell? ⟨g, 4, none⟩ = some (.int .i64 0) := (blk_cell hbox 4).trans rfl; have bz4 : w3.frozen? ⟨g, 4, none⟩ = false := blk_frozen hbox 4; have b5 : w3.cell? ⟨g, 5, none⟩ = some (.int .i64 0) := (blk_cell hbox 5).trans rfl; have bz5 : w3.frozen? ⟨g, 5, none⟩ = false := blk_frozen hbox 5; have b6 : w3.cell? ⟨g, 6, none⟩ = some (.string ⟨#[]⟩) := (blk_cell hbox 6).trans rfl; have bz6 : w3.frozen? ⟨g, 6, none⟩ = false := blk_frozen hbox 6; have b7 : w3.cell? ⟨g, 7, none⟩ = some (.int .u64 0) := (blk_cell hbox 7).trans rfl; have bz7 : w3.frozen? ⟨g, 7, none⟩ = false := blk_frozen hbox 7; clear hg hbox hb) | ((with_reducible refine gate_store (t := 34) (p := 6) (v := .tmp 23) rfl ?_); refine store_event (w1 := (set8 w3 g x)) ?hg rfl ?hN ?hr ?_; (case hg => rfl); (case hN => rfl); (case hr => first | (go_simp; done) | (go_simp; rfl)); intro w4 hw4; have hg4 : w4.heap[g]? = some (.cells (cD x) 34 (0, 0)) := (by rw [hw4]; exact set8_blk HG3.out x); have HI4 := Aside0.mk (HIi.out.below (show Below wr.heap.size wr w4 by rw [hw4]; exact set8_below HB3.out HGE.out x)); have y0 : w4.cell? ⟨g, 0, none⟩ = some (.int .i64 x.f0) := (blk_cell hg4 0).trans rfl; have yz0 : w4.frozen? ⟨g, 0, none⟩ = false := blk_frozen hg4 0; have y1 : w4.cell? ⟨g, 1, none⟩ = some (.int .i64 x.f1.f0) := (blk_cell hg4 1).trans rfl; have yz1 : w4.frozen? ⟨g, 1, none⟩ = false := blk_frozen hg4 1; have y2 : w4.cell? ⟨g, 2, none⟩ = some (.int .i64 x.f1.f1.f0) := (blk_cell hg4 2).trans rfl; have yz2 : w4.frozen? ⟨g, 2, none⟩ = false := blk_frozen hg4 2; have y3 : w4.cell? ⟨g, 3, none⟩ = some (.int .i64 x.f1.f1.f1) := (blk_cell hg4 3).trans rfl; have yz3 : w4.frozen? ⟨g, 3, none⟩ = false := blk_frozen hg4 3; have y4 : w4.cell? ⟨g, 4, none⟩ = some (.int .i64 x.f1.f1.f2) := (blk_cell hg4 4).trans rfl; have yz4 : w4.frozen? ⟨g, 4, none⟩ = false := blk_frozen hg4 4; have y5 : w4.cell? ⟨g, 5, none⟩ = some (.int .i64 x.f1.f1.f3) := (blk_cell hg4 5).trans rfl; have yz5 : w4.frozen? ⟨g, 5, none⟩ = false := blk_frozen hg4 5; have y6 : w4.cell? ⟨g, 6, none⟩ = some (.string x.f1.f1.f4) := (blk_cell hg4 6).trans rfl; have yz6 : w4.frozen? ⟨g, 6, none⟩ = false := blk_frozen hg4 6; have y7 : w4.cell? ⟨g, 7, none⟩ = some (.int .u64 x.f2) := (blk_cell hg4 7).trans rfl; have yz7 : w4.frozen? ⟨g, 7, none⟩ = false := blk_frozen hg4 7; clear hg4 hw4) | ((with_reducible refine gate_callee (f := 12) rfl ?_); refine goesL_ (some 29) rfl rfl Try.func12 (by kernel_rfl) rfl #[.pointer (some ⟨d, 0, none⟩), .agg (cT x.f1)] rfl (by (try simp only [List.map_toArray, List.map_cons, List.map_nil]); first | done | rfl) ?_; (with_reducible refine (OISay HI4.out HS1.out).mono ?_); rintro e w5 ⟨rfl, ho⟩; refine ⟨_, rfl, ?_⟩; have HI5 := Aside0.mk ho; clear ho))
          go_roundg k1
          case measure => omega
          case rel => exact ⟨i + 1, came, s1, by first | rfl | (simp; done), ⟨by omega⟩, HI5, ⟨by have := HLN.out; have := HSW.out; omega⟩⟩
    · obtain rfl : gk = 0 := by omega
      have hge : decide ((i : Int) < (l.length : Int)) = false := decide_eq_false (by omega)
      clear HI
      go_wp2_with (first | ((with_reducible refine gate_callee (f := 10) rfl ?_); refine goesL_ (some 44) rfl rfl Try.func10 (by kernel_rfl) rfl #[.pointer (some ⟨d, 0, none⟩)] rfl (by (try simp only [List.map_toArray, List.map_cons, List.map_nil]); first | done | rfl) ?_; (with_reducible refine (OIOut HIi.out).mono ?_); rintro e w3 ⟨A3, c3, rfl, ho⟩; refine ⟨_, rfl, ?_⟩; have HO3 := Aside0.mk ho; clear ho) | ((with_reducible refine gate_builtin (b := .append) (xs := #[.tmp 42, .tmp 44]) rfl ?_); at_builtin; refine Kd.R_append_rows k31 (Rr := fun x cs => k31.K w3 x cs) (w0 := w1) w1.heap.size rfl (.tmp 42) (.tmp 44) 27 31 (.agg (cT z31)) 56 rfl Try.underlying27 info31 rfl (by decide) (by decide) u4 came s.wait A3 s.wait.length c3 (fun k => Value.ownBlock u4 = some k ∨ w3.heap.size ≤ k) (fun _ => False) rfl rfl ?aO ?aR ?aK ?aP ?aF ?aB ?aS ?aL ?_; (case aO => exact HO3.out.row); (case aR => exact HO3.out.reads); (case aK => intro x cs hk; obtain rfl := k31_open hk; exact k31_mkM _ _ _ x); (case aP => exact fun _ hk => hk.elim); (case aF => intro k hk; exact .inr hk); (case aB => exact HO3.out.bel); (case aS => exact HO3.out.bel.size); (case aL => exact HLB.out); intro v4 w4 hr4 hb4 hg4 hat4; have HI4 := Aside0.mk (HO3.out.grown hr4 hb4 hg4 hat4); clear hr4 hb4 hg4 hat4))
      obtain ⟨A5, n5, rfl⟩ := Kd.R_slice HI4.out.2.1
      have HNL : Aside0 ((came ++ s.wait).length ≤ 80) := ⟨by have := HLN.out; rw [List.length_append]; omega⟩
      have HW : Aside0 ((outF s).wait = []) := ⟨rfl⟩
      generalize outF s = s2 at *
      generalize came ++ s.wait = all at *
      go_loopg [7] all.length (fun kq v7 w' => ∃ (i : Nat), v7 = .int .i64 (i : Int) ∧ Aside0 (i + kq = all.length) ∧ Aside0 (Below w4.heap.size w4 w'))
      case atStart => exact ⟨0, rfl, ⟨by omega⟩, ⟨Below.refl _ _⟩⟩
      case round =>
        obtain ⟨i2, rfl, HI2, HB⟩ := hrel
        have hi2 := HI2.out
        by_cases hat2 : i2 < all.length
        · obtain ⟨k1, rfl⟩ : ∃ k1, gk = k1 + 1 := ⟨gk - 1, by omega⟩
          have hlt2 : decide ((i2 : Int) < (all.length : Int)) = true := decide_eq_true (by omega)
          clear HI2
          go_wp2
          go_loopg [8] i2 (fun kq v8 w' => ∃ (j : Nat), v8 = .int .i64 (j : Int) ∧ Aside0 (j + kq = i2) ∧ Aside0 (Below w4.heap.size w4 w'))
          case atStart => exact ⟨0, rfl, ⟨by omega⟩, HB⟩
          case round =>
            obtain ⟨j, rfl, HJ, HBj⟩ := hrel
            have hj := HJ.out
            by_cases hat3 : j < i2
            · obtain ⟨k2, rfl⟩ : ∃ k2, gk = k2 + 1 := ⟨gk - 1, by omega⟩
              have hlt3 : decide ((j : Int) < (i2 : Int)) = true := decide_eq_true (by omega)
              have HBd := Aside0.mk (below_drew HBj.out)
              obtain ⟨ad1, e1, sof1⟩ := at31 (Kd.R_reads' HI4.out.2.1).2.2 hat2
              cases e1
              obtain ⟨ad2, e2, sof2⟩ := at31 (Kd.R_reads' HI4.out.2.1).2.2 (Nat.lt_trans hat3 hat2)
              cases e2
              obtain ⟨a0, a1, a2, a3, a4, a5⟩ := sof1 _ HBd.out
              obtain ⟨b0, b1, b2, b3, b4, b5⟩ := sof2 _ HBd.out
              have HP := Aside0.mk (HI4.out.apart hat3 hat2)
              have hjl : j < all.length := Nat.lt_trans hat3 hat2
              clear sof1 sof2
              generalize all[i2] = x at *
              generalize all[j] = y at *
              clear HJ
              go_wp2
              go_still_tail 8, (by kernel_rfl)
              go_wp2_with (first | ((with_reducible refine gate_callee (f := 13) rfl ?_); refine goesL_ (some 65) rfl rfl Try.func13 (by kernel_rfl) rfl #[.agg (cT x), .agg (cT y)] rfl (by (try simp only [List.map_toArray, List.map_cons, List.map_nil]); first | done | rfl) ?_; (with_reducible refine (AgainstNo HP.out _).mono ?_); rintro e w5 ⟨rfl, hb⟩; refine ⟨_, rfl, ?_⟩; have HB5 := Aside0.mk (below_step HBd.out hb); clear hb) | ((refine (AgainstNo HP.out _).mono ?_); rintro e w5 ⟨rfl, hb⟩; have HB5 := Aside0.mk (below_step HBd.out hb); clear hb))
              go_roundg k2
              case measure => omega
              case rel => exact ⟨j + 1, by have := HNL.out; first | rfl | (simp; done) | (simp; unfold wrap64; omega), ⟨by omega⟩, HB5⟩
            · obtain rfl : gk = 0 := by omega
              have hge3 : decide ((j : Int) < (i2 : Int)) = false := decide_eq_false (by omega)
              clear HJ
              go_wp2
              go_roundg k1
              case measure => omega
              case rel => exact ⟨i2 + 1, by have := HNL.out; first | rfl | (simp; done) | (simp; unfold wrap64; omega), ⟨by omega⟩, HBj⟩
        · obtain rfl : gk = 0 := by omega
          have hge2 : decide ((i2 : Int) < (all.length : Int)) = false := decide_eq_false (by omega)
          clear HI2
          go_wp2_with (first | ((with_reducible refine gate_callee (f := 8) rfl ?_); refine goesL_ (some 66) rfl rfl Try.func8 (by kernel_rfl) rfl #[] rfl (by (try simp only [List.map_toArray, List.map_cons, List.map_nil]); first | done | rfl) ?_; (with_reducible refine (awake _).mono ?_); rintro e w8 ⟨rfl, hb⟩; refine ⟨_, rfl, ?_⟩; have HB8 := Aside0.mk (below_step HB.out hb); clear hb))
          go_ret
          exact ⟨rfl, below_step HB1.out (below_step HI4.out.2.2.2 HB8.out)⟩
theorem DiaryTrue_walk (A0 : Option Addr) (c0 : Nat) (l : List S34) (w : World) (hr0 : Kd.C k34 w A0 l.length l) (hc0 : l.length ≤ c0) :
    Calls Try.prog 3 #[.slice A0 l.length c0] w fun e w' => e = .returned (.bool true) ∧ Below w.heap.size w w' := by
  rcases few_f l with ⟨h1, h2⟩ | h1
  · exact DiaryTrue_few A0 c0 l w hr0 hc0 h1 h2.1
  · exact DiaryTrue_many A0 c0 l w hr0 hc0 h1
end Go.Proofs.Ytbihlbalmihbdaa.Di
