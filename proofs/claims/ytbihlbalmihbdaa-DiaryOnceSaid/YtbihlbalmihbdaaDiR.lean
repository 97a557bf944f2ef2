import Derived.Test.YtbihlbalmihbdaaDiAll
namespace Go.Proofs.Ytbihlbalmihbdaa.Di
open Go.RowKit Go.Proofs.Ytbihlbalmihbdaa.PAll Go.Proofs.YtbihlbalmihbdaaW.PrintWords Go.Proofs.YtbihlbalmihbdaaW.PrintLast Go.Proofs.YtbihlbalmihbdaaW.PrintMore SG Go.Proofs.Ytbihlbalmihbdaa.Fun Go.Proofs.Ytbihlbalmihbdaa.Wal
open Go.Proofs.Ytbihlbalmihbdaa.WFun (okT recT recT_len E_chkT E_rec rdX E_dr tup rdX_rec rdX_ok)
set_option linter.unusedVariables false
set_option linter.unusedSimpArgs false
attribute [local go_sem high] eqA31
set_option maxHeartbeats 16000000 in
set_option maxRecDepth 100000 in
theorem DiaryOnce_many (A0 : Option Addr) (c0 : Nat) (l : List S34) (w : World) (hr0 : Kd.C k34 w A0 l.length l) (hc0 : l.length ≤ c0) (hf : sandglasslaw44_few.f (l.length + 1) l = some false) :
    Calls Try.prog 5 #[.slice A0 l.length c0] w fun e w' => e = .returned (.bool true) ∧ Below w.heap.size w w' := by
  go_enter Try.func5, Try.ntmps5
  go_wp2_with (first | ((with_reducible refine gate_callee (f := 7) rfl ?_); refine goesL_ (some 12) rfl rfl Try.func7 (by kernel_rfl) rfl #[.slice A0 l.length c0] rfl (by (try simp only [List.map_toArray, List.map_cons, List.map_nil]); first | done | rfl) ?_; (with_reducible refine (sandglasslaw44_few.calls _ A0 c0 l false _ hr0 hc0 hf).mono ?_); rintro e w1 ⟨rfl, hb⟩; refine ⟨_, rfl, ?_⟩; have HB1 := Aside0.mk hb.below; clear hb) | ((with_reducible refine gate_callee (f := 8) rfl ?_); refine goesL_ (some 14) rfl rfl Try.func8 (by kernel_rfl) rfl #[] rfl (by (try simp only [List.map_toArray, List.map_cons, List.map_nil]); first | done | rfl) ?_; (with_reducible refine (awake _).mono ?_); rintro e w2 ⟨rfl, hb⟩; refine ⟨_, rfl, ?_⟩; have HB2 := Aside0.mk (below_step HB1.out hb); clear hb))
  go_ret
  exact ⟨rfl, HB2.out⟩
set_option maxHeartbeats 16000000 in
set_option maxRecDepth 100000 in
theorem DiaryOnce_few (A0 : Option Addr) (c0 : Nat) (l : List S34) (w : World) (hr0 : Kd.C k34 w A0 l.length l) (hc0 : l.length ≤ c0) (hf : sandglasslaw44_few.f (l.length + 1) l = some true) (hfl : l.length ≤ 80) :
    Calls Try.prog 5 #[.slice A0 l.length c0] w fun e w' => e = .returned (.bool true) ∧ Below w.heap.size w w' := by
  have HR0 := Aside0.mk hr0
  have HF := Aside0.mk hf
  clear hf
  go_enter Try.func5, Try.ntmps5
  go_wp2_with (first | ((with_reducible refine gate_callee (f := 7) rfl ?_); refine goesL_ (some 12) rfl rfl Try.func7 (by kernel_rfl) rfl #[.slice A0 l.length c0] rfl (by (try simp only [List.map_toArray, List.map_cons, List.map_nil]); first | done | rfl) ?_; (with_reducible refine (sandglasslaw44_few.calls _ A0 c0 l true _ hr0 hc0 HF.out).mono ?_); rintro e w1 ⟨rfl, hb⟩; refine ⟨_, rfl, ?_⟩; have HB1 := Aside0.mk hb.below; clear hb) | ((with_reducible refine gate_callee (f := 9) rfl ?_); refine goesL_ (some 15) rfl rfl Try.func9 (by kernel_rfl) rfl #[] rfl (by (try simp only [List.map_toArray, List.map_cons, List.map_nil]); first | done | rfl) ?_; (with_reducible refine (DNewz _).mono ?_); rintro e w2 ⟨d, rfl, hz, hb⟩; refine ⟨_, rfl, ?_⟩; have HI2 := Aside0.mk (OI_0 hz hb); clear hz hb))
  clear hr0
  go_loopg [4, 5] l.length (fun kq v4 v5 w' => ∃ (i : Nat) (came : List S31) (s : St), v5 = .int .i64 (i : Int) ∧ Aside0 (i + kq = l.length) ∧ Aside0 (OI w1 w' d v4 came s) ∧ Aside0 (came.length + s.wait.length ≤ i))
  case atStart => exact ⟨0, [], st0, rfl, ⟨by omega⟩, HI2, ⟨Nat.le_refl _⟩⟩
  case round =>
    obtain ⟨i, came, s, rfl, HI, HIi, HLN⟩ := hrel
    have hi := HI.out
    have HLB : Aside0 ((came.length + s.wait.length) * 56 ≤ 140737488355328) := ⟨by have := HLN.out; omega⟩
    by_cases hat : i < l.length
    · obtain ⟨k1, rfl⟩ : ∃ k1, gk = k1 + 1 := ⟨gk - 1, by omega⟩
      have hlt : decide ((i : Int) < (l.length : Int)) = true := decide_eq_true (by omega)
      obtain ⟨ad, e101, sof⟩ := at34 HR0.out hat
      cases e101
      have SOF := Aside0.mk (fun w' (hb : Below w1.heap.size w1 w') => sof w' (below_step HB1.out hb))
      clear sof
      obtain ⟨x0, x1, x2, x3, x4, x5, x6, x7⟩ := SOF.out _ (HIi.out.2.2.2)
      generalize l[i] = x at *
      clear HI
      by_cases hk : x.f0 = 1
      · have e1 : (x.f0 == 1) = true := by simp [hk]
        clear hk
        go_wp2_with (first | ((with_reducible refine gate_callee (f := 10) rfl ?_); refine goesL_ (some 30) rfl rfl Try.func10 (by kernel_rfl) rfl #[.pointer (some ⟨d, 0, none⟩)] rfl (by (try simp only [List.map_toArray, List.map_cons, List.map_nil]); first | done | rfl) ?_; (with_reducible refine (OIOut HIi.out).mono ?_); rintro e w3 ⟨A3, c3, rfl, ho⟩; refine ⟨_, rfl, ?_⟩; have HO3 := Aside0.mk ho; clear ho) | ((with_reducible refine gate_builtin (b := .append) (xs := #[.tmp 28, .tmp 30]) rfl ?_); at_builtin; refine Kd.R_append_rows k31 (Rr := fun x cs => k31.K w3 x cs) (w0 := w1) w1.heap.size rfl (.tmp 28) (.tmp 30) 27 31 (.agg (cT z31)) 56 rfl Try.underlying27 info31 rfl (by decide) (by decide) u4 came s.wait A3 s.wait.length c3 (fun k => Value.ownBlock u4 = some k ∨ w3.heap.size ≤ k) (fun _ => False) rfl rfl ?aO ?aR ?aK ?aP ?aF ?aB ?aS ?aL ?_; (case aO => exact HO3.out.row); (case aR => exact HO3.out.reads); (case aK => intro x cs hk; obtain rfl := k31_open hk; exact k31_mkM _ _ _ x); (case aP => exact fun _ hk => hk.elim); (case aF => intro k hk; exact .inr hk); (case aB => exact HO3.out.bel); (case aS => exact HO3.out.bel.size); (case aL => exact HLB.out); intro v4 w4 hr4 hb4 hg4 hat4; have HI4 := Aside0.mk (HO3.out.grown hr4 hb4 hg4 hat4); clear hr4 hb4 hg4 hat4))
        go_roundg k1
        case measure => omega
        case rel => exact ⟨i + 1, _, outF s, by first | rfl | (simp; done), ⟨by omega⟩, HI4, ⟨by have := HLN.out; rw [List.length_append]; show _ + 0 ≤ _; omega⟩⟩
      · have e1 : (x.f0 == 1) = false := by simpa using hk
        clear hk
        obtain ⟨r, s1, hsay⟩ : ∃ r s1, sayF s x.f1 = (r, s1) := ⟨_, _, rfl⟩
        have hs2 : sayF s1 x.f1 = (r, s1) := by
          have := say_twice s x.f1
          rw [hsay] at this
          exact this
        have hsw := say_wait s x.f1
        rw [hsay] at hsw
        have HS1 := Aside0.mk hsay
        have HS2 := Aside0.mk hs2
        have HSW := Aside0.mk hsw
        have HN : Aside0 (s.wait.length ≤ 80) := ⟨by have := HLN.out; omega⟩
        obtain ⟨n0, hn0⟩ : ∃ n0 : Nat, s.wait.length = n0 := ⟨_, rfl⟩
        obtain ⟨n1, hn1⟩ : ∃ n1 : Nat, s1.wait.length = n1 := ⟨_, rfl⟩
        have HN0 := Aside0.mk (show (s.wait.length : Int) = (n0 : Int) by rw [hn0])
        have HN1 := Aside0.mk (show (s1.wait.length : Int) = (n1 : Int) by rw [hn1])
        have hle : n1 ≤ n0 + 1 := by have := hsw.1; change s1.wait.length ≤ _ at this; omega
        have h80 : n0 ≤ 80 := by have := HN.out; omega
        have HLE := Aside0.mk hle
        have hgt : decide (wrap64 ((n0 : Int) + 1) < (n1 : Int)) = false := decide_eq_false (by rw [w64m n0 (by omega)]; omega)
        have hrr : (r != r) = false := by simp
        by_cases hr0 : r = 0
        · have e2 : (r != 0) = false := by simp [hr0]
          clear hsay hs2 hsw hn0 hn1 hle h80 hr0
          go_wp2_with (first | ((with_reducible refine gate_callee (f := 16) rfl ?_); refine goesL_ (some 33) rfl rfl Try.func16 (by kernel_rfl) rfl #[.pointer (some ⟨d, 0, none⟩)] rfl (by (try simp only [List.map_toArray, List.map_cons, List.map_nil]); first | done | rfl) ?_; (with_reducible refine (OIWait HIi.out HN0.out).mono ?_); rintro e w2 ⟨rfl, hw⟩; refine ⟨_, rfl, ?_⟩; subst hw) | ((with_reducible refine gate_callee (f := 12) rfl ?_); refine goesL_ (some 40) rfl rfl Try.func12 (by kernel_rfl) rfl #[.pointer (some ⟨d, 0, none⟩), .agg (cT x.f1)] rfl (by (try simp only [List.map_toArray, List.map_cons, List.map_nil]); first | done | rfl) ?_; (with_reducible refine (OISay HIi.out HS1.out).mono ?_); rintro e w3 ⟨rfl, ho⟩; refine ⟨_, rfl, ?_⟩; have HI3 := Aside0.mk ho; obtain ⟨y0, y1, y2, y3, y4, y5, y6, y7⟩ := SOF.out _ (ho.2.2.2); clear ho) | ((with_reducible refine gate_callee (f := 12) rfl ?_); refine goesL_ (some 47) rfl rfl Try.func12 (by kernel_rfl) rfl #[.pointer (some ⟨d, 0, none⟩), .agg (cT x.f1)] rfl (by (try simp only [List.map_toArray, List.map_cons, List.map_nil]); first | done | rfl) ?_; (with_reducible refine (OISay HI3.out HS2.out).mono ?_); rintro e w4 ⟨rfl, ho⟩; refine ⟨_, rfl, ?_⟩; have HI4 := Aside0.mk ho; clear ho) | ((refine (OIWait HI4.out HN1.out).mono ?_); rintro e w5 ⟨rfl, hw⟩; subst hw))
          go_roundg k1
          case measure => omega
          case rel => exact ⟨i + 1, came, s1, by first | rfl | (simp; done), ⟨by omega⟩, HI4, ⟨by have := HLN.out; have := HN0.out; have := HN1.out; have := HLE.out; omega⟩⟩
        · have e2 : (r != 0) = true := by simp [hr0]
          have e3 : ((n1 : Int) != (n0 : Int)) = false := by have := hsw.2 hr0; change s1.wait.length = _ at this; simp; omega
          clear hsay hs2 hsw hn0 hn1 hle h80 hr0
          go_wp2_with (first | ((with_reducible refine gate_callee (f := 16) rfl ?_); refine goesL_ (some 33) rfl rfl Try.func16 (by kernel_rfl) rfl #[.pointer (some ⟨d, 0, none⟩)] rfl (by (try simp only [List.map_toArray, List.map_cons, List.map_nil]); first | done | rfl) ?_; (with_reducible refine (OIWait HIi.out HN0.out).mono ?_); rintro e w2 ⟨rfl, hw⟩; refine ⟨_, rfl, ?_⟩; subst hw) | ((with_reducible refine gate_callee (f := 12) rfl ?_); refine goesL_ (some 40) rfl rfl Try.func12 (by kernel_rfl) rfl #[.pointer (some ⟨d, 0, none⟩), .agg (cT x.f1)] rfl (by (try simp only [List.map_toArray, List.map_cons, List.map_nil]); first | done | rfl) ?_; (with_reducible refine (OISay HIi.out HS1.out).mono ?_); rintro e w3 ⟨rfl, ho⟩; refine ⟨_, rfl, ?_⟩; have HI3 := Aside0.mk ho; obtain ⟨y0, y1, y2, y3, y4, y5, y6, y7⟩ := SOF.out _ (ho.2.2.2); clear ho) | ((with_reducible refine gate_callee (f := 12) rfl ?_); refine goesL_ (some 47) rfl rfl Try.func12 (by kernel_rfl) rfl #[.pointer (some ⟨d, 0, none⟩), .agg (cT x.f1)] rfl (by (try simp only [List.map_toArray, List.map_cons, List.map_nil]); first | done | rfl) ?_; (with_reducible refine (OISay HI3.out HS2.out).mono ?_); rintro e w4 ⟨rfl, ho⟩; refine ⟨_, rfl, ?_⟩; have HI4 := Aside0.mk ho; clear ho) | ((refine (OIWait HI4.out HN1.out).mono ?_); rintro e w5 ⟨rfl, hw⟩; subst hw))
          go_roundg k1
          case measure => omega
          case rel => exact ⟨i + 1, came, s1, by first | rfl | (simp; done), ⟨by omega⟩, HI4, ⟨by have := HLN.out; have := HN0.out; have := HN1.out; have := HLE.out; omega⟩⟩
    · obtain rfl : gk = 0 := by omega
      have hge : decide ((i : Int) < (l.length : Int)) = false := decide_eq_false (by omega)
      clear HI
      go_wp2_with (first | ((with_reducible refine gate_callee (f := 10) rfl ?_); refine goesL_ (some 70) rfl rfl Try.func10 (by kernel_rfl) rfl #[.pointer (some ⟨d, 0, none⟩)] rfl (by (try simp only [List.map_toArray, List.map_cons, List.map_nil]); first | done | rfl) ?_; (with_reducible refine (OIOut HIi.out).mono ?_); rintro e w3 ⟨A3, c3, rfl, ho⟩; refine ⟨_, rfl, ?_⟩; have HO3 := Aside0.mk ho; clear ho) | ((with_reducible refine gate_builtin (b := .append) (xs := #[.tmp 68, .tmp 70]) rfl ?_); at_builtin; refine Kd.R_append_rows k31 (Rr := fun x cs => k31.K w3 x cs) (w0 := w1) w1.heap.size rfl (.tmp 68) (.tmp 70) 27 31 (.agg (cT z31)) 56 rfl Try.underlying27 info31 rfl (by decide) (by decide) u4 came s.wait A3 s.wait.length c3 (fun k => Value.ownBlock u4 = some k ∨ w3.heap.size ≤ k) (fun _ => False) rfl rfl ?aO ?aR ?aK ?aP ?aF ?aB ?aS ?aL ?_; (case aO => exact HO3.out.row); (case aR => exact HO3.out.reads); (case aK => intro x cs hk; obtain rfl := k31_open hk; exact k31_mkM _ _ _ x); (case aP => exact fun _ hk => hk.elim); (case aF => intro k hk; exact .inr hk); (case aB => exact HO3.out.bel); (case aS => exact HO3.out.bel.size); (case aL => exact HLB.out); intro v4 w4 hr4 hb4 hg4 hat4; have HI4 := Aside0.mk (HO3.out.grown hr4 hb4 hg4 hat4); clear hr4 hb4 hg4 hat4))
      obtain ⟨A5, n5, rfl⟩ := Kd.R_slice HI4.out.2.1
      have HNL : Aside0 ((came ++ s.wait).length ≤ 80) := ⟨by have := HLN.out; rw [List.length_append]; omega⟩
      have HW : Aside0 ((outF s).wait = []) := ⟨rfl⟩
      generalize outF s = s2 at *
      generalize came ++ s.wait = all at *
      go_loopg [9] all.length (fun kq v9 w' => ∃ (i : Nat), v9 = .int .i64 (i : Int) ∧ Aside0 (i + kq = all.length) ∧ Aside0 (Below w4.heap.size w4 w'))
      case atStart => exact ⟨0, rfl, ⟨by omega⟩, ⟨Below.refl _ _⟩⟩
      case round =>
        obtain ⟨i2, rfl, HI2, HB⟩ := hrel
        have hi2 := HI2.out
        by_cases hat2 : i2 < all.length
        · obtain ⟨k1, rfl⟩ : ∃ k1, gk = k1 + 1 := ⟨gk - 1, by omega⟩
          have hlt2 : decide ((i2 : Int) < (all.length : Int)) = true := decide_eq_true (by omega)
          clear HI2
          go_wp2
          go_loopg [10] i2 (fun kq v10 w' => ∃ (j : Nat), v10 = .int .i64 (j : Int) ∧ Aside0 (j + kq = i2) ∧ Aside0 (Below w4.heap.size w4 w'))
          case atStart => exact ⟨0, rfl, ⟨by omega⟩, HB⟩
          case round =>
            obtain ⟨j, rfl, HJ, HBj⟩ := hrel
            have hj := HJ.out
            by_cases hat3 : j < i2
            · obtain ⟨k2, rfl⟩ : ∃ k2, gk = k2 + 1 := ⟨gk - 1, by omega⟩
              have hlt3 : decide ((j : Int) < (i2 : Int)) = true := decide_eq_true (by omega)
              have HBd := Aside0.mk (below_drew HBj.out)
              obtain ⟨ad1, e1, sof1⟩ := at31 (Kd.R_reads' HI4.out.2.1).2.2 hat2
              cases e1
              obtain ⟨ad2, e2, sof2⟩ := at31 (Kd.R_reads' HI4.out.2.1).2.2 (Nat.lt_trans hat3 hat2)
              cases e2
              obtain ⟨a0, a1, a2, a3, a4, a5⟩ := sof1 _ HBd.out
              obtain ⟨b0, b1, b2, b3, b4, b5⟩ := sof2 _ HBd.out
              have HP := Aside0.mk (HI4.out.apart hat3 hat2)
              have hjl : j < all.length := Nat.lt_trans hat3 hat2
              clear sof1 sof2
              generalize all[i2] = x at *
              generalize all[j] = y at *
              have hne := pl_ne HP.out
              clear HJ
              go_wp2
              go_still_tail 8, (by kernel_rfl)
              go_wp2
              go_roundg k2
              case measure => omega
              case rel => exact ⟨j + 1, by have := HNL.out; first | rfl | (simp; done) | (simp; unfold wrap64; omega), ⟨by omega⟩, HBd⟩
            · obtain rfl : gk = 0 := by omega
              have hge3 : decide ((j : Int) < (i2 : Int)) = false := decide_eq_false (by omega)
              clear HJ
              go_wp2
              go_roundg k1
              case measure => omega
              case rel => exact ⟨i2 + 1, by have := HNL.out; first | rfl | (simp; done) | (simp; unfold wrap64; omega), ⟨by omega⟩, HBj⟩
        · obtain rfl : gk = 0 := by omega
          have hge2 : decide ((i2 : Int) < (all.length : Int)) = false := decide_eq_false (by omega)
          clear HI2
          have HWL : Aside0 ((s2.wait.length : Int) = 0) := ⟨by rw [HW.out]; rfl⟩
          go_wp2_with (first | ((with_reducible refine gate_callee (f := 16) rfl ?_); refine goesL_ (some 93) rfl rfl Try.func16 (by kernel_rfl) rfl #[.pointer (some ⟨d, 0, none⟩)] rfl (by (try simp only [List.map_toArray, List.map_cons, List.map_nil]); first | done | rfl) ?_; (with_reducible refine (OIWait (HI4.out.below HB.out) HWL.out).mono ?_); rintro e w5 ⟨rfl, hw⟩; refine ⟨_, rfl, ?_⟩; subst hw) | ((refine (awake _).mono ?_); rintro e w8 ⟨rfl, hb⟩; have HB8 := Aside0.mk (below_step HB.out hb); clear hb))
          go_ret
          exact ⟨rfl, below_step HB1.out (below_step HI4.out.2.2.2 HB8.out)⟩
theorem DiaryOnce_walk (A0 : Option Addr) (c0 : Nat) (l : List S34) (w : World) (hr0 : Kd.C k34 w A0 l.length l) (hc0 : l.length ≤ c0) :
    Calls Try.prog 5 #[.slice A0 l.length c0] w fun e w' => e = .returned (.bool true) ∧ Below w.heap.size w w' := by
  rcases few_f l with ⟨h1, h2⟩ | h1
  · exact DiaryOnce_few A0 c0 l w hr0 hc0 h1 h2.1
  · exact DiaryOnce_many A0 c0 l w hr0 hc0 h1
end Go.Proofs.Ytbihlbalmihbdaa.Di
