/- Contracts of functions that the law runs, for every input: ShaA, ShaB, ShaC, ShaD, ShaE, ShaF, ShaG; no condition. -/
import Derived.Test.YtifpomknkjegeaaDoorCrc
import Derived.Test.YtifpomknkjegeaaDoorPAllx0
import Derived.StillTailTactics
import Derived.Laws.Rows
import Derived.Laws.Tables
import Derived.Laws.CopyOwn
import Derived.ChangeKeysEq
import Derived.Deep.AppendSrc
import Derived.Deep.RegionLaw
namespace Go.Proofs.YtifpomknkjegeaaDoor.Sha
open Go.RowKit Go.Proofs.YtifpomknkjegeaaDoor.PAll Go.Proofs.YtifpomknkjegeaaDoorW.PrintWords Go.Proofs.YtifpomknkjegeaaDoorW.PrintLast Go.Proofs.YtifpomknkjegeaaDoorW.PrintMore SG
set_option linter.unusedVariables false
set_option linter.unusedSimpArgs false
attribute [local go_sem] all_u8 all_u32 all_u64
def iv (v : BitVec 32) : Int := (v.toNat : Int)
theorem iv_nonneg (v : BitVec 32) : 0 ≤ iv v := Int.natCast_nonneg _
theorem iv_lt (v : BitVec 32) : iv v < 4294967296 := by
 have := v.isLt
 unfold iv
 omega
theorem iv_inj {a b : BitVec 32} (h : iv a = iv b) : a = b := BitVec.eq_of_toNat_eq (by unfold iv at h; omega)
def rr (v : BitVec 32) (n : Nat) : BitVec 32 := (v <<< (32 - n)) ||| (v >>> n)
theorem orU (a b : BitVec 32) : bits .or .u32 (iv a) (iv b) = iv (a ||| b) := by
 have ha := (a ||| b).isLt
 show IntKind.u32.wrap ((BitVec.ofInt 32 (a.toNat : Int) ||| BitVec.ofInt 32 (b.toNat : Int)).toNat : Int) = ((a ||| b).toNat : Int)
 rw [BitVec.ofInt_natCast, BitVec.ofInt_natCast, BitVec.ofNat_toNat, BitVec.ofNat_toNat, BitVec.setWidth_eq, BitVec.setWidth_eq, IntKind.wrap_u32]
 omega
theorem xorU (a b : BitVec 32) : bits .xor .u32 (iv a) (iv b) = iv (a ^^^ b) := bits_xor a b
theorem andU (a b : BitVec 32) : bits .and .u32 (iv a) (iv b) = iv (a &&& b) := bits_and a b
theorem wrapU (v : BitVec 32) : IntKind.u32.wrap (iv v) = iv v := by
 have := v.isLt
 unfold iv
 rw [IntKind.wrap_u32]
 omega
theorem addU (a b : BitVec 32) : IntKind.u32.wrap (iv a + iv b) = iv (a + b) := by
 unfold iv
 rw [IntKind.wrap_u32, BitVec.toNat_add]
 show ((a.toNat : Int) + (b.toNat : Int)) % 4294967296 = (((a.toNat + b.toNat) % 4294967296 : Nat) : Int)
 omega
theorem shlU (v : BitVec 32) (n : Nat) : IntKind.u32.wrap (iv v * ((2 ^ n : Nat) : Int)) = iv (v <<< n) := by
 unfold iv
 rw [IntKind.wrap_u32, BitVec.toNat_shiftLeft, Nat.shiftLeft_eq]
 show ((v.toNat : Int) * ((2 ^ n : Nat) : Int)) % 4294967296 = ((v.toNat * 2 ^ n % 4294967296 : Nat) : Int)
 rw [Int.natCast_emod, Int.natCast_mul]
 rfl
theorem shlU24 (v : BitVec 32) : IntKind.u32.wrap (iv v * (16777216 : Int)) = iv (v <<< 24) := shlU v 24
theorem shlU16 (v : BitVec 32) : IntKind.u32.wrap (iv v * (65536 : Int)) = iv (v <<< 16) := shlU v 16
theorem shlU8 (v : BitVec 32) : IntKind.u32.wrap (iv v * (256 : Int)) = iv (v <<< 8) := shlU v 8
theorem shrU (v : BitVec 32) (n : Nat) : iv v / ((2 ^ n : Nat) : Int) = iv (v >>> n) := by
 unfold iv
 rw [BitVec.toNat_ushiftRight, Nat.shiftRight_eq_div_pow]
 norm_cast
theorem shrU3 (v : BitVec 32) : iv v / (8 : Int) = iv (v >>> 3) := shrU v 3
theorem shrU10 (v : BitVec 32) : iv v / (1024 : Int) = iv (v >>> 10) := shrU v 10
theorem shrU24 (v : BitVec 32) : iv v / (16777216 : Int) = iv (v >>> 24) := shrU v 24
theorem shrU16 (v : BitVec 32) : iv v / (65536 : Int) = iv (v >>> 16) := shrU v 16
theorem shrU8 (v : BitVec 32) : iv v / (256 : Int) = iv (v >>> 8) := shrU v 8
theorem shr_w (v : BitVec 32) (n : Nat) (hn : n ≤ 32) : shr .u32 (iv v) (n : Int) = iv (v >>> n) := by
 rw [← shr_small rfl (show (n : Int) ≤ ((32 : Nat) : Int) by omega), Int.toNat_natCast]
 exact_mod_cast shrU v n
theorem shl_w (v : BitVec 32) (n : Nat) (hn : n ≤ 32) : shl .u32 (iv v) (n : Int) = iv (v <<< n) := by
 rw [← shl_small rfl (show (n : Int) ≤ ((32 : Nat) : Int) by omega), Int.toNat_natCast]
 have := shlU v n
 rw [Int.natCast_pow] at this
 exact this
theorem rot_k : ∀ n : Fin 32, 1 ≤ n.val → bits .and .u64 (IntKind.u64.wrap (wrap64 (-(n.val : Int)))) 31 = ((32 - n.val : Nat) : Int) ∧ IntKind.u64.wrap (32 - ((32 - n.val : Nat) : Int)) = (n.val : Int) := by
 decide +kernel
set_option maxHeartbeats 8000000 in
set_option maxRecDepth 100000 in
theorem rot_same (x a1 m k : Int) (w : World) (hm : bits .and .u64 (IntKind.u64.wrap a1) 31 = m) (h0 : 0 ≤ m) (hk : IntKind.u64.wrap (32 - m) = k) (h1 : 0 ≤ k) :
  Calls Tryd.prog 70 #[.int .u32 x, .int .i64 a1] w fun e w' => e = .returned (.int .u32 (bits .or .u32 (shl .u32 x m) (shr .u32 x k))) ∧ w' = w := by
 have d0 : decide (0 ≤ m) = true := decide_eq_true h0
 have d1 : decide (0 ≤ k) = true := decide_eq_true h1
 go_enter Tryd.func70, Tryd.ntmps70
 go_wp2
 go_ret
 exact ⟨rfl, rfl⟩
set_option maxHeartbeats 8000000 in
set_option maxRecDepth 100000 in
theorem right_same (v : BitVec 32) (n : Nat) (h1 : 1 ≤ n) (h2 : n < 32) (w : World) :
  Calls Tryd.prog 69 #[.int .u32 (iv v), .int .i64 (n : Int)] w fun e w' => e = .returned (.int .u32 (iv (rr v n))) ∧ w' = w := by
 obtain ⟨hk1, hk2⟩ : bits .and .u64 (IntKind.u64.wrap (wrap64 (-(n : Int)))) 31 = ((32 - n : Nat) : Int) ∧ IntKind.u64.wrap (32 - ((32 - n : Nat) : Int)) = (n : Int) := rot_k ⟨n, h2⟩ h1
 have hr : bits .or .u32 (shl .u32 (iv v) ((32 - n : Nat) : Int)) (shr .u32 (iv v) (n : Int)) = iv (rr v n) := by
  rw [shl_w v _ (by omega), shr_w v _ (by omega), orU]
  rfl
 have HK1 := sqA hk1
 have HK2 := sqA hk2
 have HR := sqA hr
 clear hk1 hk2 hr h1 h2
 go_enter Tryd.func69, Tryd.ntmps69
 go_wp2_with (first | ((with_reducible refine gate_callee (f := 70) rfl ?_); refine goesL_ (some 8) rfl rfl Tryd.func70 (by kernel_rfl) rfl #[.int .u32 (iv v), .int .i64 (wrap64 (-(n : Int)))] rfl sqm ?_; (with_reducible refine (rot_same _ _ ((32 - n : Nat) : Int) (n : Int) _ HK1.out (Int.natCast_nonneg _) HK2.out (Int.natCast_nonneg _)).mono ?_); rintro e w' ⟨rfl, hw⟩; refine ⟨_, rfl, ?_⟩; subst hw; rw [HR.out]))
 go_ret
 exact ⟨rfl, rfl⟩
theorem right2 (v : BitVec 32) (w : World) : Calls Tryd.prog 69 #[.int .u32 (iv v), .int .i64 2] w fun e w' => e = .returned (.int .u32 (iv (rr v 2))) ∧ w' = w := right_same v 2 (by decide) (by decide) w
theorem right6 (v : BitVec 32) (w : World) : Calls Tryd.prog 69 #[.int .u32 (iv v), .int .i64 6] w fun e w' => e = .returned (.int .u32 (iv (rr v 6))) ∧ w' = w := right_same v 6 (by decide) (by decide) w
theorem right7 (v : BitVec 32) (w : World) : Calls Tryd.prog 69 #[.int .u32 (iv v), .int .i64 7] w fun e w' => e = .returned (.int .u32 (iv (rr v 7))) ∧ w' = w := right_same v 7 (by decide) (by decide) w
theorem right11 (v : BitVec 32) (w : World) : Calls Tryd.prog 69 #[.int .u32 (iv v), .int .i64 11] w fun e w' => e = .returned (.int .u32 (iv (rr v 11))) ∧ w' = w := right_same v 11 (by decide) (by decide) w
theorem right13 (v : BitVec 32) (w : World) : Calls Tryd.prog 69 #[.int .u32 (iv v), .int .i64 13] w fun e w' => e = .returned (.int .u32 (iv (rr v 13))) ∧ w' = w := right_same v 13 (by decide) (by decide) w
theorem right17 (v : BitVec 32) (w : World) : Calls Tryd.prog 69 #[.int .u32 (iv v), .int .i64 17] w fun e w' => e = .returned (.int .u32 (iv (rr v 17))) ∧ w' = w := right_same v 17 (by decide) (by decide) w
theorem right18 (v : BitVec 32) (w : World) : Calls Tryd.prog 69 #[.int .u32 (iv v), .int .i64 18] w fun e w' => e = .returned (.int .u32 (iv (rr v 18))) ∧ w' = w := right_same v 18 (by decide) (by decide) w
theorem right19 (v : BitVec 32) (w : World) : Calls Tryd.prog 69 #[.int .u32 (iv v), .int .i64 19] w fun e w' => e = .returned (.int .u32 (iv (rr v 19))) ∧ w' = w := right_same v 19 (by decide) (by decide) w
theorem right22 (v : BitVec 32) (w : World) : Calls Tryd.prog 69 #[.int .u32 (iv v), .int .i64 22] w fun e w' => e = .returned (.int .u32 (iv (rr v 22))) ∧ w' = w := right_same v 22 (by decide) (by decide) w
theorem right25 (v : BitVec 32) (w : World) : Calls Tryd.prog 69 #[.int .u32 (iv v), .int .i64 25] w fun e w' => e = .returned (.int .u32 (iv (rr v 25))) ∧ w' = w := right_same v 25 (by decide) (by decide) w
end Go.Proofs.YtifpomknkjegeaaDoor.Sha
namespace Go.Proofs.YtifpomknkjegeaaDoor.Sha
open Go.RowKit Go.Proofs.YtifpomknkjegeaaDoor.PAll Go.Proofs.YtifpomknkjegeaaDoorW.PrintWords Go.Proofs.YtifpomknkjegeaaDoorW.PrintLast Go.Proofs.YtifpomknkjegeaaDoorW.PrintMore SG
set_option linter.unusedVariables false
set_option linter.unusedSimpArgs false
attribute [local go_sem] all_u8 all_u32 all_u64 wrapU addU shlU24 shlU16 shlU8 shrU3 shrU10 orU xorU andU
def vw (v : BitVec 32) : Value := .int .u32 (iv v)
theorem iv0 : iv 0 = 0 := rfl
def iB (l : List UInt8) : List Int := l.map (fun b => (b.toNat : Int))
def be4w (a b c d : BitVec 32) : BitVec 32 := ((a <<< 24 ||| b <<< 16) ||| c <<< 8) ||| d
def be4 (a b c d : UInt8) : BitVec 32 := be4w (byteV a) (byteV b) (byteV c) (byteV d)
def sig0 (x : BitVec 32) : BitVec 32 := (rr x 7 ^^^ rr x 18) ^^^ (x >>> 3)
def sig1 (y : BitVec 32) : BitVec 32 := (rr y 17 ^^^ rr y 19) ^^^ (y >>> 10)
def wnext (l : List UInt8) (ws : List (BitVec 32)) : BitVec 32 :=
 if ws.length < 16 then be4 (l.getD (4 * ws.length) 0) (l.getD (4 * ws.length + 1) 0) (l.getD (4 * ws.length + 2) 0) (l.getD (4 * ws.length + 3) 0)
 else ((ws.getD (ws.length - 16) 0 + ws.getD (ws.length - 7) 0) + sig0 (ws.getD (ws.length - 15) 0)) + sig1 (ws.getD (ws.length - 2) 0)
def wl (l : List UInt8) : Nat → List (BitVec 32)
 | 0 => []
 | n + 1 => wl l n ++ [wnext l (wl l n)]
theorem wl_len (l : List UInt8) (n : Nat) : (wl l n).length = n := by
 induction n with
 | zero => rfl
 | succ n ih => rw [wl, List.length_append, ih]; rfl
def arr (ws : List (BitVec 32)) : Array Value := (ws.map vw ++ List.replicate (64 - ws.length) (Value.int .u32 0)).toArray
theorem arr_size {ws : List (BitVec 32)} (h : ws.length ≤ 64) : (arr ws).size = 64 := by
 simp [arr]; omega
theorem arr_get {ws : List (BitVec 32)} {i : Nat} (h : i < ws.length) : (arr ws)[i]? = some (.int .u32 (iv (ws.getD i 0))) := by
 simp [arr, List.getElem?_append, h, vw]
theorem arr_zero {ws : List (BitVec 32)} {i : Nat} (h : ws.length ≤ i) (h2 : i < 64) : (arr ws)[i]? = some (.int .u32 0) := by
 simp [arr, List.getElem?_append, Nat.not_lt.2 h, List.getElem?_replicate]; omega
theorem arr_set {ws : List (BitVec 32)} (h : ws.length < 64) (v : BitVec 32) : (arr ws).setIfInBounds ws.length (.int .u32 (iv v)) = arr (ws ++ [v]) := by
 apply Array.ext_getElem?
 intro i
 rw [Array.getElem?_setIfInBounds, arr_size (by omega)]
 by_cases hi : ws.length = i
 ·
  subst hi
  rw [if_pos rfl, if_pos h, arr_get (by simp)]
  simp
 ·
  rw [if_neg hi]
  by_cases h1 : i < ws.length
  ·
   rw [arr_get h1, arr_get (by simp; omega)]
   simp [List.getElem?_append, h1]
  ·
   by_cases h2 : i < 64
   ·
    rw [arr_zero (by omega) h2, arr_zero (by simp; omega) h2]
   ·
    rw [Array.getElem?_eq_none (by rw [arr_size (by omega)]; omega), Array.getElem?_eq_none (by rw [arr_size (by simp; omega)]; omega)]
theorem arr_one {ws : List (BitVec 32)} : (arr ws).all (·.oneCell') = true := by
 simp only [arr, List.all_toArray, List.all_append, List.all_map, Bool.and_eq_true, List.all_eq_true]
 exact ⟨fun x _ => rfl, fun x hx => by rw [(List.mem_replicate.1 hx).2]; rfl⟩
theorem gate_load {P : Program} {ops : Array Oper} {rest : List Oper} {o : Oper} {a : Act} {Q : Exit → Act → World → Prop} {W : World} {t : TypeId} {x : Operand} (_ho : o.op = .load t x) (h : wpList P ops Q (o :: rest) a W) : wpList P ops Q (o :: rest) a W := h
theorem atB {l : List UInt8} {A : Option Addr} {n : Nat} {w : World} (h : Kd.C (Kd.int .u8) w A n (iB l)) (h0 : 0 < n) : ∃ ad, A = some ad ∧ ∀ w', Below w.heap.size w w' → ∀ j, j < n → w'.cell? (ad.add j) = some (.int .u8 (iv (byteV (l.getD j 0)))) := by
 obtain ⟨ad, e, _⟩ := Kd.at_int h 0 (by omega) (by omega)
 refine ⟨ad, e, fun w' hb j hj => ?_⟩
 obtain ⟨ad', e', x⟩ := Kd.at_int (Kd.C_below h hb) (j : Int) (by omega) (by omega)
 rw [e] at e'
 injection e' with e'
 subst e'
 rw [Int.toNat_natCast] at x
 rw [x, iv, byteV_toNat]
 simp only [rd, iB, Int.toNat_natCast, List.getD_eq_getElem?_getD, List.getElem?_map]
 cases l[j]? <;> rfl
theorem wrapI (x : Int) : IntKind.i64.wrap x = wrap64 x := by
 rw [IntKind.wrap_i64]
 unfold wrap64
 rfl
set_option maxHeartbeats 4000000 in
set_option maxRecDepth 100000 in
theorem words_walk (l : List UInt8) (hl : l.length = 64) (A : Option Addr) (c : Nat) (w : World) (hr : Kd.C (Kd.int .u8) w A 64 (iB l)) :
  Calls Tryd.prog 68 #[.slice A 64 c] w fun e w' => e = .returned (.agg (arr (wl l 64))) ∧ Below w.heap.size w w' := by
 have HR0 := sqA hr
 clear hr
 go_enter Tryd.func68, Tryd.ntmps68
 go_wp2_with (first | ((with_reducible refine gate_dst (N := 2) rfl ?_); refine sqo (N := 2) (cs := (arr [])) (t := 93) ?_; intro g2 hg2 w2 hbox2 hb2; have HX2 := sqA hbox2; have HB2 := sqA hb2; have HG2 := sqA hg2; clear hg2 hbox2 hb2) | ((with_reducible refine gate_dst (N := 3) rfl ?_); refine sqo (N := 3) (cs := (arr [])) (t := 93) ?_; intro g3 hg3 w3 hbox3 hb3; have HX3 := sqA hbox3; have HB3 := sqA hb3; have HG3 := sqA hg3; clear hg3 hbox3 hb3))
 go_loopg [7] 64 (fun kq v7 w' => ∃ (i : Nat), v7 = .int .i64 (i : Int) ∧ Aside0 (i + kq = 64) ∧ Aside0 (w'.heap[g3]? = some (.cells (arr (wl l i)) 93 (0, 0))) ∧ Aside0 (Below w2.heap.size w2 w'))
 case atStart => exact ⟨0, rfl, ⟨by omega⟩, HX3, HB3⟩
 case round =>
  obtain ⟨i, rfl, HI, HXi, HBi⟩ := hrel
  have hi := HI.out
  by_cases hat : i < 64
  ·
   obtain ⟨k1, rfl⟩ : ∃ k1, gk = k1 + 1 := ⟨gk - 1, by omega⟩
   have hlt : decide ((i : Int) < 64) = true := decide_eq_true (by omega)
   have hil : (i : Int) < 64 := by omega
   clear HI
   by_cases h16 : i < 16
   ·
    have hlt2 : decide ((i : Int) < 16) = true := decide_eq_true (by omega)
    have HBd := sqA (below_drew (below_step HB2.out HBi.out))
    obtain ⟨ad, e101, xs⟩ := atB HR0.out (by decide)
    cases e101
    obtain ⟨p0, hp0⟩ : ∃ p : Nat, p = 4 * i := ⟨_, rfl⟩
    obtain ⟨p1, hp1⟩ : ∃ p : Nat, p = 4 * i + 1 := ⟨_, rfl⟩
    obtain ⟨p2, hp2⟩ : ∃ p : Nat, p = 4 * i + 2 := ⟨_, rfl⟩
    obtain ⟨p3, hp3⟩ : ∃ p : Nat, p = 4 * i + 3 := ⟨_, rfl⟩
    have HP := sqA (And.intro hp0 (And.intro hp1 (And.intro hp2 hp3)))
    have j0 : (p0 : Int) < 64 := by omega
    have j1 : (p1 : Int) < 64 := by omega
    have j2 : (p2 : Int) < 64 := by omega
    have j3 : (p3 : Int) < 64 := by omega
    have x0 := xs _ HBd.out p0 (by omega)
    have x1 := xs _ HBd.out p1 (by omega)
    have x2 := xs _ HBd.out p2 (by omega)
    have x3 := xs _ HBd.out p3 (by omega)
    have q0 : IntKind.i64.wrap (4 * (i : Int)) = (p0 : Int) := by rw [wrapI]; unfold wrap64; omega
    have q1 : IntKind.i64.wrap ((p0 : Int) + 1) = (p1 : Int) := by rw [wrapI]; unfold wrap64; omega
    have q2 : IntKind.i64.wrap ((p0 : Int) + 2) = (p2 : Int) := by rw [wrapI]; unfold wrap64; omega
    have q3 : IntKind.i64.wrap ((p0 : Int) + 3) = (p3 : Int) := by rw [wrapI]; unfold wrap64; omega
    obtain ⟨b0, hb0⟩ : ∃ b, b = byteV (l.getD p0 0) := ⟨_, rfl⟩
    rw [← hb0] at x0
    obtain ⟨b1, hb1⟩ : ∃ b, b = byteV (l.getD p1 0) := ⟨_, rfl⟩
    rw [← hb1] at x1
    obtain ⟨b2, hb2⟩ : ∃ b, b = byteV (l.getD p2 0) := ⟨_, rfl⟩
    rw [← hb2] at x2
    obtain ⟨b3, hb3⟩ : ∃ b, b = byteV (l.getD p3 0) := ⟨_, rfl⟩
    rw [← hb3] at x3
    have HV : Aside0 (wnext l (wl l i) = be4w b0 b1 b2 b3) := ⟨by
     unfold wnext be4
     rw [wl_len, if_pos h16, hb0, hb1, hb2, hb3, hp0, hp1, hp2, hp3]⟩
    have hXd : wr.drew.heap[g3]? = some (.cells (arr (wl l i)) 93 (0, 0)) := HXi.out
    have HXd := sqA hXd
    have xc := (blk_cell hXd i).trans (arr_zero (by rw [wl_len]; exact Nat.le_refl _) hat)
    have xf := blk_frozen hXd i
    have HBD := sqA (below_drew HBi.out)
    clear xs hp0 hp1 hp2 hp3 hb0 hb1 hb2 hb3 hXd
    go_wp2
    go_still_tail 35, (by kernel_rfl)
    change wpList _ _ _ _ _ wr.drew
    generalize wr.drew = wd at *
    go_wp2_with (first | ((with_reducible refine gate_store (t := 89) (p := 46) (v := .tmp 45) rfl ?_); refine sqp (w1 := (wd.setCell ⟨g3, i, none⟩ (.int .u32 (iv (be4w b0 b1 b2 b3))))) ?_; intro w4 hw4; have HW4 := sqA hw4; clear hw4))
    go_roundg k1
    case measure => omega
    case rel =>
     refine ⟨i + 1, by first | rfl | (simp; done), ⟨by omega⟩, ⟨?_⟩, ⟨?_⟩⟩
     ·
      rw [HW4.out, wl, HV.out]
      have := blk_set HXd.out i (.int .u32 (iv (be4w b0 b1 b2 b3)))
      rw [← arr_set (by rw [wl_len]; exact hat), wl_len]
      exact this
     ·
      rw [HW4.out]
      exact Below.setCell HBD.out (Nat.le_of_eq HG3.out.symm) _
   ·
    have hlt2 : decide ((i : Int) < 16) = false := decide_eq_false (by omega)
    have HBd := sqA (below_drew HBi.out)
    have hlen := wl_len l i
    have HLEN := sqA hlen
    obtain ⟨x, hx⟩ : ∃ x, x = (wl l i).getD (i - 15) 0 := ⟨_, rfl⟩
    obtain ⟨y, hy⟩ : ∃ y, y = (wl l i).getD (i - 2) 0 := ⟨_, rfl⟩
    obtain ⟨u, hu⟩ : ∃ u, u = (wl l i).getD (i - 16) 0 := ⟨_, rfl⟩
    obtain ⟨v, hv⟩ : ∃ v, v = (wl l i).getD (i - 7) 0 := ⟨_, rfl⟩
    have HV : Aside0 (wnext l (wl l i) = ((u + v) + sig0 x) + sig1 y) := ⟨by
     unfold wnext
     rw [hlen, if_neg h16, ← hx, ← hy, ← hu, ← hv]⟩
    obtain ⟨p15, hp15⟩ : ∃ p : Nat, p = i - 15 := ⟨_, rfl⟩
    obtain ⟨p2, hp2⟩ : ∃ p : Nat, p = i - 2 := ⟨_, rfl⟩
    obtain ⟨p16, hp16⟩ : ∃ p : Nat, p = i - 16 := ⟨_, rfl⟩
    obtain ⟨p7, hp7⟩ : ∃ p : Nat, p = i - 7 := ⟨_, rfl⟩
    have j15 : (p15 : Int) < 64 := by omega
    have j2 : (p2 : Int) < 64 := by omega
    have j16 : (p16 : Int) < 64 := by omega
    have j7 : (p7 : Int) < 64 := by omega
    have q15 : IntKind.i64.wrap ((i : Int) - 15) = (p15 : Int) := by rw [wrapI]; unfold wrap64; omega
    have q2 : IntKind.i64.wrap ((i : Int) - 2) = (p2 : Int) := by rw [wrapI]; unfold wrap64; omega
    have q16 : IntKind.i64.wrap ((i : Int) - 16) = (p16 : Int) := by rw [wrapI]; unfold wrap64; omega
    have q7 : IntKind.i64.wrap ((i : Int) - 7) = (p7 : Int) := by rw [wrapI]; unfold wrap64; omega
    have hXd : wr.drew.heap[g3]? = some (.cells (arr (wl l i)) 93 (0, 0)) := HXi.out
    have x15 : wr.drew.cell? ⟨g3, p15, none⟩ = some (.int .u32 (iv x)) := by rw [hx, hp15]; exact (blk_cell hXd _).trans (arr_get (by omega))
    have x2 : wr.drew.cell? ⟨g3, p2, none⟩ = some (.int .u32 (iv y)) := by rw [hy, hp2]; exact (blk_cell hXd _).trans (arr_get (by omega))
    have hXe : wr.drew.drew.heap[g3]? = some (.cells (arr (wl l i)) 93 (0, 0)) := HXi.out
    have HXe := sqA hXe
    have x16 : wr.drew.drew.cell? ⟨g3, p16, none⟩ = some (.int .u32 (iv u)) := by rw [hu, hp16]; exact (blk_cell hXe _).trans (arr_get (by omega))
    have x7 : wr.drew.drew.cell? ⟨g3, p7, none⟩ = some (.int .u32 (iv v)) := by rw [hv, hp7]; exact (blk_cell hXe _).trans (arr_get (by omega))
    have xc := (blk_cell hXe i).trans (arr_zero (by omega) hat)
    have xf := blk_frozen hXe i
    have HBD := sqA (below_drew HBd.out)
    clear hp15 hp2 hp16 hp7 hx hy hu hv hXd hXe hlen
    go_wp2
    go_still (by kernel_rfl)
    go_wp2
    change Code.wp Tryd.prog _ _ _ wr.drew
    generalize wr.drew = wd at *
    refine wp_region_still_tail 29 (by kernel_rfl) (by kernel_rfl) ?_
    simp only [List.take_succ_cons, List.take_zero, List.drop_succ_cons, List.drop_zero]
    repeat still_step
    still_call (right7 _ _)
    repeat still_step
    still_call (right18 _ _)
    repeat still_step
    still_call (right17 _ _)
    repeat still_step
    still_call (right19 _ _)
    repeat still_step
    refine wpStill_nil ?_
    change wpList _ _ _ _ _ wd.drew
    generalize wd.drew = we at *
    go_wp2_with (first | ((with_reducible refine gate_store (t := 89) (p := 83) (v := .tmp 82) rfl ?_); refine sqp (w1 := (we.setCell ⟨g3, i, none⟩ (.int .u32 (iv (((u + v) + ((rr x 7 ^^^ rr x 18) ^^^ (x >>> 3))) + ((rr y 17 ^^^ rr y 19) ^^^ (y >>> 10))))))) ?_; intro w4 hw4; have HW4 := sqA hw4; clear hw4))
    go_roundg k1
    case measure => omega
    case rel =>
     refine ⟨i + 1, by first | rfl | (simp; done), ⟨by omega⟩, ⟨?_⟩, ⟨?_⟩⟩
     ·
      rw [HW4.out, wl, HV.out]
      have := blk_set HXe.out i (.int .u32 (iv (((u + v) + sig0 x) + sig1 y)))
      rw [← arr_set (by rw [wl_len]; exact hat), wl_len]
      exact this
     ·
      rw [HW4.out]
      exact Below.setCell HBD.out (Nat.le_of_eq HG3.out.symm) _
  ·
   obtain rfl : gk = 0 := by omega
   obtain rfl : i = 64 := by omega
   have hge : decide (((64 : Nat) : Int) < 64) = false := by decide
   clear HI
   have HX2i := sqA (blk_below HX2.out HBi.out)
   go_wp2_with (first | ((with_reducible refine gate_load (t := 93) (x := .tmp 3) rfl ?_); refine wpList_load_row rfl 93 (.tmp 3) rfl g3 rfl 93 (arr (wl l 64)) (0, 0) _ HXi.out Tryd.underlying93 rfl (by rw [arr_size (Nat.le_of_eq (wl_len l 64))]; kernel_rfl) ?_) | ((with_reducible refine gate_store (t := 93) (p := 2) (v := .tmp 85) rfl ?_); refine wpList_store_row rfl 93 (.tmp 2) (.tmp 85) rfl g2 (arr (wl l 64)) rfl rfl 93 (arr []) HX2i.out (by rw [arr_size (Nat.le_of_eq (wl_len l 64))]; kernel_rfl) (by rw [arr_size (Nat.le_of_eq (wl_len l 64))]; rfl) arr_one ?_))
   refine bodyPost_ret (results_cell_row rfl _ _ g2 93 (arr (wl l 64)) (0, 0) _ rfl (setRow_heap _ _ _ _ _ _ HX2i.out) Tryd.underlying93 rfl (by rw [arr_size (Nat.le_of_eq (wl_len l 64))]; kernel_rfl)) rfl ⟨rfl, ?_⟩
   exact below_setRow ((HB2.out.trans (HBi.out.mono HB2.out.size))) (Nat.le_of_eq HG2.out.symm) _
end Go.Proofs.YtifpomknkjegeaaDoor.Sha
namespace Go.Proofs.YtifpomknkjegeaaDoor.Sha
open Go.RowKit Go.Proofs.YtifpomknkjegeaaDoor.PAll Go.Proofs.YtifpomknkjegeaaDoorW.PrintWords Go.Proofs.YtifpomknkjegeaaDoorW.PrintLast Go.Proofs.YtifpomknkjegeaaDoorW.PrintMore SG
set_option linter.unusedVariables false
set_option linter.unusedSimpArgs false
attribute [local go_sem] all_u8 all_u32 all_u64 wrapU addU shlU24 shlU16 shlU8 shrU3 shrU10 orU xorU andU
structure H8 where
 a : BitVec 32
 b : BitVec 32
 c : BitVec 32
 d : BitVec 32
 e : BitVec 32
 f : BitVec 32
 g : BitVec 32
 h : BitVec 32
def H8.l (s : H8) : List (BitVec 32) := [s.a, s.b, s.c, s.d, s.e, s.f, s.g, s.h]
def one (k w : BitVec 32) (s : H8) : BitVec 32 := (((s.h + ((rr s.e 6 ^^^ rr s.e 11) ^^^ rr s.e 25)) + (s.g ^^^ (s.e &&& (s.f ^^^ s.g)))) + k) + w
def two (s : H8) : BitVec 32 := ((rr s.a 2 ^^^ rr s.a 13) ^^^ rr s.a 22) + ((s.a &&& s.b) ||| (s.c &&& (s.a ||| s.b)))
def round (k w : BitVec 32) (s : H8) : H8 := ⟨one k w s + two s, s.a, s.b, s.c, s.d + one k w s, s.e, s.f, s.g⟩
def KT : List (BitVec 32) := [0x428a2f98, 0x71374491, 0xb5c0fbcf, 0xe9b5dba5, 0x3956c25b, 0x59f111f1, 0x923f82a4, 0xab1c5ed5, 0xd807aa98, 0x12835b01, 0x243185be, 0x550c7dc3, 0x72be5d74, 0x80deb1fe, 0x9bdc06a7, 0xc19bf174, 0xe49b69c1, 0xefbe4786, 0x0fc19dc6, 0x240ca1cc, 0x2de92c6f, 0x4a7484aa, 0x5cb0a9dc, 0x76f988da, 0x983e5152, 0xa831c66d, 0xb00327c8, 0xbf597fc7, 0xc6e00bf3, 0xd5a79147, 0x06ca6351, 0x14292967, 0x27b70a85, 0x2e1b2138, 0x4d2c6dfc, 0x53380d13, 0x650a7354, 0x766a0abb, 0x81c2c92e, 0x92722c85, 0xa2bfe8a1, 0xa81a664b, 0xc24b8b70, 0xc76c51a3, 0xd192e819, 0xd6990624, 0xf40e3585, 0x106aa070, 0x19a4c116, 0x1e376c08, 0x2748774c, 0x34b0bcb5, 0x391c0cb3, 0x4ed8aa4a, 0x5b9cca4f, 0x682e6ff3, 0x748f82ee, 0x78a5636f, 0x84c87814, 0x8cc70208, 0x90befffa, 0xa4506ceb, 0xbef9a3f7, 0xc67178f2]
def KA : Array Value := (KT.map vw).toArray
theorem KA_get {i : Nat} (h : i < 64) : KA[i]? = some (.int .u32 (iv (KT.getD i 0))) := by
 have : i < KT.length := h
 simp [KA, vw, List.getD_eq_getElem?_getD, List.getElem?_eq_getElem this]
def rs (ws : List (BitVec 32)) : Nat → H8 → H8
 | 0, s => s
 | t + 1, s => round (KT.getD t 0) (ws.getD t 0) (rs ws t s)
def add8 (s r : H8) : H8 := ⟨s.a + r.a, s.b + r.b, s.c + r.c, s.d + r.d, s.e + r.e, s.f + r.f, s.g + r.g, s.h + r.h⟩
def blk (s : H8) (l : List UInt8) : H8 := add8 s (rs (wl l 64) 64 s)
def st (hs : List (BitVec 32)) (W : Value) (n : Int) : Array Value := (hs.map vw ++ [W, .int .u64 n]).toArray
def part8 (s r : H8) (i : Nat) : List (BitVec 32) := (add8 s r).l.take i ++ s.l.drop i
theorem V8_get (r : H8) (i : Nat) (h : i < 8) : (#[.int .u32 (iv r.a), .int .u32 (iv r.b), .int .u32 (iv r.c), .int .u32 (iv r.d), .int .u32 (iv r.e), .int .u32 (iv r.f), .int .u32 (iv r.g), .int .u32 (iv r.h)] : Array Value)[i]? = some (.int .u32 (iv (r.l.getD i 0))) := by
 match i, h with
 | 0, _ => rfl
 | 1, _ => rfl
 | 2, _ => rfl
 | 3, _ => rfl
 | 4, _ => rfl
 | 5, _ => rfl
 | 6, _ => rfl
 | 7, _ => rfl
 | n + 8, h => exact absurd h (by omega)
theorem st_get (s r : H8) (W : Value) (n : Int) (i : Nat) (h : i < 8) : (st (part8 s r i) W n)[i]? = some (.int .u32 (iv (s.l.getD i 0))) := by
 match i, h with
 | 0, _ => rfl
 | 1, _ => rfl
 | 2, _ => rfl
 | 3, _ => rfl
 | 4, _ => rfl
 | 5, _ => rfl
 | 6, _ => rfl
 | 7, _ => rfl
 | n + 8, h => exact absurd h (by omega)
theorem st_set (s r : H8) (W : Value) (n : Int) (i : Nat) (h : i < 8) : (st (part8 s r i) W n).setIfInBounds i (.int .u32 (iv (s.l.getD i 0 + r.l.getD i 0))) = st (part8 s r (i + 1)) W n := by
 match i, h with
 | 0, _ => rfl
 | 1, _ => rfl
 | 2, _ => rfl
 | 3, _ => rfl
 | 4, _ => rfl
 | 5, _ => rfl
 | 6, _ => rfl
 | 7, _ => rfl
 | n + 8, h => exact absurd h (by omega)
theorem run_index {t e : TypeId} {len : Nat} {xs : Array Value} {i : Nat} {v : Value} (hu : Tryd.prog.underlying t = some (.array len e)) (he : Tryd.prog.plainKey e = true) (hs : ∀ w, (sizeOf e).run Tryd.prog w = .ok 1 w) (hi : i < len) (hx : xs[i]? = some v) (w : World) :
  (Instr.index t (.agg xs) (.int .i64 (i : Int))).run Tryd.prog w = .ok v w := by
 have hp := run_part_plain (P := Tryd.prog) (w := w) he hx
 simp only [Instr.index, asIntOf, Sem.run_bind, Sem.run_pure, Result.andThen_ok, run_underlying hu]
 rw [if_pos ⟨Int.natCast_nonneg _, by omega⟩]
 simp only [Sem.run_bind, hs, Result.andThen_ok, Int.toNat_natCast, Nat.mul_one]
 exact hp
theorem size89 (w : World) : (sizeOf 89).run Tryd.prog w = .ok 1 w := by
 have h : (Tryd.prog.info? 89).map (·.size) = some 1 := by kernel_rfl
 obtain ⟨i, hi, hs⟩ := Option.map_eq_some_iff.1 h
 simp [sizeOf, typeInfo, hi, hs]
set_option maxHeartbeats 4000000 in
set_option maxRecDepth 100000 in
theorem block_walk (s : H8) (g : Nat) (W : Value) (n : Int) (l : List UInt8) (hl : l.length = 64) (A : Option Addr) (c : Nat) (w : World) (t1 : TypeId) (fr : Nat × Nat) (hst : w.heap[g]? = some (.cells (st s.l W n) 100 (0, 0)))
  (hT : w.heap[1]? = some (.cells KA t1 fr)) (hr : Kd.C (Kd.int .u8) w A 64 (iB l)) :
  Calls Tryd.prog 61 #[.pointer (some ⟨g, 0, none⟩), .slice A 64 c] w fun e w' => e = .returned (.tuple #[]) ∧ w'.heap[g]? = some (.cells (st (blk s l).l W n) 100 (0, 0)) ∧ Below g w w' ∧ Kept w w' (fun k => k = g) := by
 have hKs : KA.size = 64 := by simp [KA, KT]
 have hKg : ∀ i, i < 64 → KA[i]? = some (.int .u32 (iv (KT.getD i 0))) := fun i h => KA_get h
 generalize KA = KX at hT hKs hKg
 have HKS := sqA hKs
 have HKG := sqA hKg
 have HR0 := sqA hr
 have HST := sqA hst
 have HT := sqA hT
 clear hr hst hT hKs hKg
 go_enter Tryd.func61, Tryd.ntmps61
 go_wp2_with (first | ((with_reducible refine gate_callee (f := 68) rfl ?_); refine goesL_ (some 20) rfl rfl Tryd.func68 (by kernel_rfl) rfl #[.slice A 64 c] rfl sqm ?_; (with_reducible refine (words_walk l hl A c _ HR0.out).mono ?_); rintro e w1 ⟨rfl, hb⟩; refine ⟨_, rfl, ?_⟩; have HB1 := sqA hb; clear hb) | ((with_reducible refine gate_dst (N := 4) rfl ?_); refine sqo (N := 4) (cs := (arr [])) (t := 93) ?_; intro g4 hg4 w2 hbox4 hb4; have HX2 := sqA hbox4; have HB2 := sqA (below_step HB1.out hb4); have HG4 := sqA (show w.heap.size ≤ g4 by rw [hg4]; exact HB1.out.size); clear hg4 hbox4 hb4) | ((with_reducible refine gate_store (t := 93) (p := 4) (v := .tmp 20) rfl ?_); refine wpList_store_row rfl 93 (.tmp 4) (.tmp 20) rfl g4 (arr (wl l 64)) rfl rfl 93 (arr []) HX2.out (by rw [arr_size (Nat.le_of_eq (wl_len l 64))]; kernel_rfl) (by rw [arr_size (Nat.le_of_eq (wl_len l 64))]; rfl) arr_one ?_))
 have HX3 := sqA (setRow_heap w2 g4 _ (arr (wl l 64)) _ _ HX2.out)
 have HB3 := sqA (below_setRow HB2.out HG4.out (arr (wl l 64)))
 generalize w2.setRow g4 (arr (wl l 64)) = w3 at *
 have HS3 : Aside0 (w3.drew.heap[g]? = some (.cells (st s.l W n) 100 (0, 0))) := ⟨blk_below HST.out (below_drew HB3.out)⟩
 have HT3 : Aside0 (w3.drew.heap[1]? = some (.cells KX t1 fr)) := ⟨blk_below HT.out (below_drew HB3.out)⟩
 have x0 : w3.drew.cell? ⟨g, 0, none⟩ = some (.int .u32 (iv s.a)) := (blk_cell HS3.out 0).trans rfl
 have x1 : w3.drew.cell? ⟨g, 1, none⟩ = some (.int .u32 (iv s.b)) := (blk_cell HS3.out 1).trans rfl
 have x2 : w3.drew.cell? ⟨g, 2, none⟩ = some (.int .u32 (iv s.c)) := (blk_cell HS3.out 2).trans rfl
 have x3 : w3.drew.cell? ⟨g, 3, none⟩ = some (.int .u32 (iv s.d)) := (blk_cell HS3.out 3).trans rfl
 have x4 : w3.drew.cell? ⟨g, 4, none⟩ = some (.int .u32 (iv s.e)) := (blk_cell HS3.out 4).trans rfl
 have x5 : w3.drew.cell? ⟨g, 5, none⟩ = some (.int .u32 (iv s.f)) := (blk_cell HS3.out 5).trans rfl
 have x6 : w3.drew.cell? ⟨g, 6, none⟩ = some (.int .u32 (iv s.g)) := (blk_cell HS3.out 6).trans rfl
 have x7 : w3.drew.cell? ⟨g, 7, none⟩ = some (.int .u32 (iv s.h)) := (blk_cell HS3.out 7).trans rfl
 go_wp2
 go_still (by kernel_rfl)
 clear x0 x1 x2 x3 x4 x5 x6 x7
 change Exit.then _ _ _ _ w3.drew
 have HB4 : Aside0 (Below w.heap.size w w3.drew) := ⟨below_drew HB3.out⟩
 have HX4 : Aside0 (w3.drew.heap[g4]? = some (.cells (arr (wl l 64)) 93 (0, 0))) := HX3
 clear HX3 HB3
 generalize w3.drew = w5 at *
 go_wp2_with (first | ((with_reducible refine gate_load (t := 93) (x := .global 1) rfl ?_); refine wpList_load_row rfl 93 (.global 1) rfl 1 rfl t1 KX fr _ HT3.out Tryd.underlying93 rfl (by rw [HKS.out]; kernel_rfl) ?_))
 go_loopg [5, 6, 7, 8, 9, 10, 11, 12, 62] 64 (fun kq v5 v6 v7 v8 v9 v10 v11 v12 v62 w' => ∃ (i : Nat) (r : H8), v62 = .int .i64 (i : Int) ∧ v5 = .int .u32 (iv r.a) ∧ v6 = .int .u32 (iv r.b) ∧ v7 = .int .u32 (iv r.c) ∧ v8 = .int .u32 (iv r.d) ∧ v9 = .int .u32 (iv r.e) ∧ v10 = .int .u32 (iv r.f) ∧ v11 = .int .u32 (iv r.g) ∧ v12 = .int .u32 (iv r.h) ∧ Aside0 (i + kq = 64) ∧ Aside0 (r = rs (wl l 64) i s) ∧ Aside0 (Below w5.heap.size w5 w'))
 case atStart => exact ⟨0, s, rfl, rfl, rfl, rfl, rfl, rfl, rfl, rfl, rfl, ⟨by omega⟩, ⟨rfl⟩, ⟨Below.refl _ _⟩⟩
 case round =>
  obtain ⟨i, r, rfl, rfl, rfl, rfl, rfl, rfl, rfl, rfl, rfl, HI, HRr, HBi⟩ := hrel
  have hi := HI.out
  by_cases hat : i < 64
  ·
   obtain ⟨k1, rfl⟩ : ∃ k1, gk = k1 + 1 := ⟨gk - 1, by omega⟩
   have hlt : decide ((i : Int) < 64) = true := decide_eq_true (by omega)
   have hil : (i : Int) < 64 := by omega
   have hk := HKG.out i hat
   have hidx := run_index Tryd.underlying93 (by kernel_rfl) size89 hat hk
   have hw : wr.drew.cell? ⟨g4, i, none⟩ = some (.int .u32 (iv ((wl l 64).getD i 0))) := (blk_cell (blk_below HX4.out HBi.out) i).trans (arr_get (by rw [wl_len]; exact hat))
   obtain ⟨k, hke⟩ : ∃ k, k = KT.getD i 0 := ⟨_, rfl⟩
   obtain ⟨x, hxe⟩ : ∃ x, x = (wl l 64).getD i 0 := ⟨_, rfl⟩
   rw [← hke] at hidx
   rw [← hxe] at hw
   have HRN : Aside0 (rs (wl l 64) (i + 1) s = ⟨((((r.h + ((rr r.e 6 ^^^ rr r.e 11) ^^^ rr r.e 25)) + (r.g ^^^ (r.e &&& (r.f ^^^ r.g)))) + k) + x) + (((rr r.a 2 ^^^ rr r.a 13) ^^^ rr r.a 22) + ((r.a &&& r.b) ||| (r.c &&& (r.a ||| r.b)))), r.a, r.b, r.c, r.d + ((((r.h + ((rr r.e 6 ^^^ rr r.e 11) ^^^ rr r.e 25)) + (r.g ^^^ (r.e &&& (r.f ^^^ r.g)))) + k) + x), r.e, r.f, r.g⟩) := ⟨by rw [rs, ← hke, ← hxe, ← HRr.out]; simp only [round, one, two]⟩
   clear HI hke hxe HRr hk
   go_wp2
   refine wp_region_still_lit (by kernel_rfl) (by kernel_rfl) ?_
   repeat still_step
   still_call (right6 _ _)
   repeat still_step
   still_call (right11 _ _)
   repeat still_step
   still_call (right25 _ _)
   repeat still_step
   refine wpStill_nil ?_
   change Exit.then _ _ _ _ wr.drew
   have HBd := sqA (below_drew HBi.out)
   generalize wr.drew = wd at *
   go_wp2_with (first | ((with_reducible refine gate_callee (f := 69) rfl ?_); refine goesL_ (some 91) rfl rfl Tryd.func69 (by kernel_rfl) rfl #[.int .u32 (iv r.a), .int .i64 2] rfl sqm ?_; (with_reducible refine (right2 _ _).mono ?_); rintro e w' ⟨rfl, hw⟩; refine ⟨_, rfl, ?_⟩; subst hw) | ((with_reducible refine gate_callee (f := 69) rfl ?_); refine goesL_ (some 93) rfl rfl Tryd.func69 (by kernel_rfl) rfl #[.int .u32 (iv r.a), .int .i64 13] rfl sqm ?_; (with_reducible refine (right13 _ _).mono ?_); rintro e w' ⟨rfl, hw⟩; refine ⟨_, rfl, ?_⟩; subst hw) | ((with_reducible refine gate_callee (f := 69) rfl ?_); refine goesL_ (some 96) rfl rfl Tryd.func69 (by kernel_rfl) rfl #[.int .u32 (iv r.a), .int .i64 22] rfl sqm ?_; (with_reducible refine (right22 _ _).mono ?_); rintro e w' ⟨rfl, hw⟩; refine ⟨_, rfl, ?_⟩; subst hw))
   go_roundg k1
   case measure => omega
   case rel => exact ⟨i + 1, ⟨((((r.h + ((rr r.e 6 ^^^ rr r.e 11) ^^^ rr r.e 25)) + (r.g ^^^ (r.e &&& (r.f ^^^ r.g)))) + k) + x) + (((rr r.a 2 ^^^ rr r.a 13) ^^^ rr r.a 22) + ((r.a &&& r.b) ||| (r.c &&& (r.a ||| r.b)))), r.a, r.b, r.c, r.d + ((((r.h + ((rr r.e 6 ^^^ rr r.e 11) ^^^ rr r.e 25)) + (r.g ^^^ (r.e &&& (r.f ^^^ r.g)))) + k) + x), r.e, r.f, r.g⟩, by first | rfl | (simp; done), rfl, rfl, rfl, rfl, rfl, rfl, rfl, rfl, ⟨by omega⟩, ⟨HRN.out.symm⟩, HBd⟩
  ·
   obtain rfl : gk = 0 := by omega
   obtain rfl : i = 64 := by omega
   have hge : decide (((64 : Nat) : Int) < 64) = false := by decide
   clear HI
   have HRB : Aside0 (blk s l = add8 s r) := ⟨by rw [HRr.out]; rfl⟩
   have HK6 : Aside0 (Kept w wr (fun k => k = g)) := ⟨(Kept.of_below HB4.out _).below HBi.out⟩
   have HB6 : Aside0 (Below g w wr) := ⟨((HB4.out.mono (Nat.le_of_lt (blk_lt HST.out))).trans (HBi.out.mono (Nat.le_trans (Nat.le_of_lt (blk_lt HST.out)) HB4.out.size)))⟩
   have HS6 := sqA (blk_below HS3.out HBi.out)
   have hv8 := V8_get r
   clear HRr
   go_wp2
   generalize (#[.int .u32 (iv r.a), .int .u32 (iv r.b), .int .u32 (iv r.c), .int .u32 (iv r.d), .int .u32 (iv r.e), .int .u32 (iv r.f), .int .u32 (iv r.g), .int .u32 (iv r.h)] : Array Value) = VA at *
   have HV8 := sqA hv8
   clear hv8
   go_loopg [130] 8 (fun kq v130 w' => ∃ (i : Nat), v130 = .int .i64 (i : Int) ∧ Aside0 (i + kq = 8) ∧ Aside0 (w'.heap[g]? = some (.cells (st (part8 s r i) W n) 100 (0, 0))) ∧ Aside0 (Below g w w') ∧ Aside0 (Kept w w' (fun k => k = g)))
   case atStart => exact ⟨0, rfl, ⟨by omega⟩, HS6, HB6, HK6⟩
   case round =>
    obtain ⟨i, rfl, HI, HXi, HBi, HKi⟩ := hrel
    have hi := HI.out
    by_cases hat : i < 8
    ·
     obtain ⟨k1, rfl⟩ : ∃ k1, gk = k1 + 1 := ⟨gk - 1, by omega⟩
     have hlt : decide ((i : Int) < 8) = true := decide_eq_true (by omega)
     have hil : (i : Int) < 8 := by omega
     have hidx := run_index Tryd.underlying98 (by kernel_rfl) size89 hat (HV8.out i hat)
     have HXd : Aside0 (wr.drew.heap[g]? = some (.cells (st (part8 s r i) W n) 100 (0, 0))) := HXi
     have hc : wr.drew.cell? ⟨g, i, none⟩ = some (.int .u32 (iv (s.l.getD i 0))) := (blk_cell HXd.out i).trans (st_get s r W n i hat)
     have hf : wr.drew.frozen? ⟨g, i, none⟩ = false := blk_frozen HXd.out i
     have HSS := sqA (st_set s r W n i hat)
     have HBd : Aside0 (Below g w wr.drew) := ⟨below_drew HBi.out⟩
     have HKd : Aside0 (Kept w wr.drew (fun k => k = g)) := ⟨HKi.out.drew⟩
     generalize s.l.getD i 0 = x at *
     generalize r.l.getD i 0 = y at *
     clear HI
     go_wp2
     go_still_tail 11, (by kernel_rfl)
     change wpList _ _ _ _ _ wr.drew
     generalize wr.drew = wd at *
     go_wp2_with (first | ((with_reducible refine gate_store (t := 89) (p := 144) (v := .tmp 141) rfl ?_); refine sqp (w1 := (wd.setCell ⟨g, i, none⟩ (.int .u32 (iv (x + y))))) ?_; intro w4 hw4; have HW4 := sqA hw4; clear hw4))
     go_roundg k1
     case measure => omega
     case rel =>
      refine ⟨i + 1, by first | rfl | (simp; done), ⟨by omega⟩, ⟨?_⟩, ⟨?_⟩, ⟨?_⟩⟩
      ·
       rw [HW4.out, ← HSS.out]
       exact blk_set HXd.out i _
      ·
       rw [HW4.out]
       exact Below.setCell HBd.out (Nat.le_refl _) _
      ·
       rw [HW4.out]
       exact HKd.out.setCell (.inl rfl) _
    ·
     obtain rfl : gk = 0 := by omega
     obtain rfl : i = 8 := by omega
     have hge : decide (((8 : Nat) : Int) < 8) = false := by decide
     clear HI
     go_wp2
     refine bodyPost_end (results_none rfl _ _ _) rfl ⟨rfl, ?_, HBi.out, HKi.out⟩
     rw [HRB.out]
     exact HXi.out
end Go.Proofs.YtifpomknkjegeaaDoor.Sha
namespace Go.Proofs.YtifpomknkjegeaaDoor.Sha
open Go.RowKit Go.Proofs.YtifpomknkjegeaaDoor.PAll Go.Proofs.YtifpomknkjegeaaDoorW.PrintWords Go.Proofs.YtifpomknkjegeaaDoorW.PrintLast Go.Proofs.YtifpomknkjegeaaDoorW.PrintMore SG
set_option linter.unusedVariables false
set_option linter.unusedSimpArgs false
attribute [local go_sem] all_u8 all_u32 all_u64 wrapU addU shlU24 shlU16 shlU8 shrU3 shrU10 orU xorU andU
abbrev CB (w : World) (A : Option Addr) (l : List UInt8) : Prop := Kd.C (Kd.int .u8) w A l.length (iB l)
theorem iB_length (l : List UInt8) : (iB l).length = l.length := List.length_map _
theorem CB_cells {w : World} {A : Option Addr} {l : List UInt8} (h : CB w A l) (h0 : 0 < l.length) : ∃ ad, A = some ad ∧ ∀ j u, (l.map (fun b => Value.int .u8 (b.toNat : Int)))[j]? = some u → w.cell? (ad.add j) = some u := by
 obtain ⟨ad, e, hc⟩ := atB h h0
 refine ⟨ad, e, fun j u hu => ?_⟩
 rw [List.getElem?_map, Option.map_eq_some_iff] at hu
 obtain ⟨b, hb, rfl⟩ := hu
 have hj := (List.getElem?_eq_some_iff.1 hb).1
 rw [hc w (Below.refl _ _) j hj, iv, byteV_toNat, List.getD_eq_getElem?_getD, hb]
 rfl
theorem CB_of {w : World} {ad : Addr} {l : List UInt8} (hl : l.length ≤ 9223372036854775807) (h : ∀ j, (hj : j < l.length) → w.cell? (ad.add j) = some (.int .u8 (l[j].toNat : Int))) : CB w (some ad) l := by
 refine Kd.C_of_reads (d := 0) ⟨iB_length l, hl, fun _ => ⟨ad, rfl, fun j hj => ?_⟩⟩
 rw [h j hj]
 simp [iB, List.getD_eq_getElem?_getD, List.getElem?_eq_getElem hj]
theorem CB_nil (w : World) : CB w none [] := Kd.C_nil _ _
theorem CB_take {w : World} {ad : Option Addr} {l : List UInt8} (h : CB w ad l) (n : Nat) (hn : n ≤ l.length) : CB w ad (l.take n) := by
 rcases Nat.eq_zero_or_pos n with rfl | h0
 ·
  refine ⟨?_, ?_, ?_⟩
  ·
   simp [iB]
  ·
   simp
  ·
   intro h; simp at h
 ·
  obtain ⟨ad', rfl, hc⟩ := atB h (by omega)
  refine CB_of (by have := h.2.1; rw [List.length_take]; omega) (fun j hj => ?_)
  have hj' : j < l.length := by rw [List.length_take] at hj; omega
  rw [hc w (Below.refl _ _) j hj', iv, byteV_toNat, List.getElem_take, List.getD_eq_getElem?_getD, List.getElem?_eq_getElem hj']
  rfl
theorem CB_drop {w : World} {ad : Addr} {l : List UInt8} (h : CB w (some ad) l) (n : Nat) (hn : n < l.length) : CB w (some (ad.add n)) (l.drop n) := by
 obtain ⟨ad', e, hc⟩ := atB h (by omega)
 injection e with e
 subst e
 refine CB_of (by have := h.2.1; rw [List.length_drop]; omega) (fun j hj => ?_)
 have hj' : n + j < l.length := by rw [List.length_drop] at hj; omega
 have ha : (ad.add n).add j = ad.add (n + j) := by
  unfold Addr.add
  by_cases h1 : n = 0
  ·
   subst h1; simp
  ·
   by_cases h2 : j = 0
   ·
    subst h2; simp [h1]
   ·
    rw [if_neg h1, if_neg h2, if_neg (by omega)]
    simp [Nat.add_assoc]
 rw [ha, hc w (Below.refl _ _) (n + j) hj', iv, byteV_toNat, List.getElem_drop, List.getD_eq_getElem?_getD, List.getElem?_eq_getElem hj']
 rfl
theorem toList_length (y : ByteArray) : y.toList.length = y.size := by rw [toList_eq]; rfl
theorem run_append_cut (W : World) (A : Option Addr) (l : List UInt8) (y : ByteArray) (ty : TypeId) (hC : CB W A l) (hl : l.length + y.size ≤ 140737488355328) :
  ∃ A' c' w1, (Builtin.append_ #[54, 9] ty #[.slice A l.length l.length, .string y]).run Tryd.prog W = .ok (.slice A' (l.length + y.size) c') w1 ∧ l.length + y.size ≤ c' ∧ CB w1 A' (l ++ y.toList) ∧ Below W.heap.size W w1 := by
 have hinfo : (Tryd.prog.info? 5).map (fun i => (i.zero, i.size, i.bytes)) = some (some (.int .u8 0), 1, 1) := by kernel_rfl
 obtain ⟨i0, hi, hzz⟩ := Option.map_eq_some_iff.1 hinfo
 simp only [Prod.mk.injEq] at hzz
 obtain ⟨hz0, hz1, hz2⟩ := hzz
 have hs := Src.ofString (P := Tryd.prog) W Tryd.underlying9 y
 by_cases hy : y.size = 0
 ·
  have hyl : y.toList = [] := List.eq_nil_of_length_eq_zero (by rw [toList_length]; exact hy)
  refine ⟨A, l.length, W, ?_, by omega, by rw [hyl, List.append_nil]; exact hC, Below.refl _ _⟩
  have hnews : byteCells y = [] := List.eq_nil_of_length_eq_zero (by rw [byteCells_length]; exact hy)
  have hcells := hs.cells
  rw [hnews, hy] at hcells
  cases A with
  | none => simp [Builtin.append_, run_underlying Tryd.underlying54, run_underlying Tryd.underlying9, sizeOf, typeInfo, hi, hs.len, hz1, hy, hcells]
  | some ad => simp [Builtin.append_, run_underlying Tryd.underlying54, run_underlying Tryd.underlying9, sizeOf, typeInfo, hi, hs.len, hz1, hy, hcells, storeCells]
 ·
  have hold : (Builtin.firstCells i0.size l.length (.slice A l.length l.length)).run Tryd.prog W.drew = .ok (l.map (fun b => Value.int .u8 (b.toNat : Int))).toArray W.drew := by
   rw [hz1]
   rcases Nat.eq_zero_or_pos l.length with h0 | h0
   ·
    obtain rfl := List.eq_nil_of_length_eq_zero h0
    cases A with
    | none => exact run_firstCells_none W.drew 1 0 0 0
    | some ad => exact run_firstCells_some W.drew 1 0 ad 0 0 [] rfl (fun j u hu => by simp at hu)
   ·
    obtain ⟨ad, rfl, hc⟩ := CB_cells hC h0
    exact run_firstCells_some W.drew 1 _ ad _ _ _ (by simp) (by simpa using hc)
  have hrun := run_append_grow_src (P := Tryd.prog) W 54 9 ty 5 i0 (.int .u8 0) Tryd.underlying54 hi hz0 A l.length l.length _ hold (.string y) y.size (byteCells y) (by rw [hz1]; exact hs) (by omega) (by omega) (by rw [hz2]; exact growslice_fits (by omega) (by omega))
  refine ⟨_, _, _, hrun, ?_, ?_, ?_⟩
  ·
   exact grownCap_ge W (l.length + y.size) l.length 5
  ·
   have hcat : l.map (fun b => Value.int .u8 (b.toNat : Int)) ++ byteCells y = (l ++ y.toList).map (fun b => Value.int .u8 (b.toNat : Int)) := by
    rw [List.map_append, toList_eq]
    rfl
   rw [hcat]
   refine CB_of (by rw [List.length_append, toList_length]; omega) (fun j hj => ?_)
   rw [add_plain]
   refine (cell_of_row _ _ j _ 5 (0, 0) (heap_alloc_new W.drew _)).trans ?_
   rw [Array.getElem?_append_left (by simpa using hj), List.getElem?_toArray, List.getElem?_map, List.getElem?_eq_getElem hj]
   rfl
  ·
   exact below_alloc (below_drew (Below.refl _ _)) _
theorem wpList_append_cut {ops : Array Oper} {rest : List Oper} {o : Oper} {a : Act} {Q : Exit → Act → World → Prop} {W : World} (hgd : o.guard = none) (s x : Operand) (ho : o.op = .call { callee := .builtin .append, args := #[s, x], argTypes := #[54, 9] })
  (A : Option Addr) (l : List UInt8) (n c : Nat) (y : ByteArray) (hs : a.eval s = .slice A n c) (hx : a.eval x = .string y) (hn : n = l.length) (hc : c = l.length) (hC : CB W A l) (hl : l.length + y.size ≤ 140737488355328)
  (h : ∀ A' c' w1, l.length + y.size ≤ c' → CB w1 A' (l ++ y.toList) → Below W.heap.size W w1 → wpList Tryd.prog ops Q rest (a.put o.dst (.slice A' (l.length + y.size) c')) w1) :
  wpList Tryd.prog ops Q (o :: rest) a W := by
 subst hn hc
 obtain ⟨A', c', w1, hrun, h1, h2, h3⟩ := run_append_cut W A l y o.type hC hl
 refine wpList_plain hgd fun K hK => ?_
 unfold Oper.wp
 simp [execOp, ho, resolve, invoke, builtin, hs, hx, hrun, Result.andThen]
 exact hK _ _ (h A' c' w1 h1 h2 h3)
theorem step_append_cut {ops : Array Oper} {o : Oper} {a : Act} {Q : Exit → Act → World → Prop} {K : Act → World → Prop} {E : Prop} {W : World} (hgd : o.guard = none) (s x : Operand) (ho : o.op = .call { callee := .builtin .append, args := #[s, x], argTypes := #[54, 9] })
  (A : Option Addr) (l : List UInt8) (n c : Nat) (y : ByteArray) (hs : a.eval s = .slice A n c) (hx : a.eval x = .string y) (hn : n = l.length) (hc : c = l.length) (hC : CB W A l) (hl : l.length + y.size ≤ 140737488355328)
  (h : ∀ A' c' w1, l.length + y.size ≤ c' → CB w1 A' (l ++ y.toList) → Below W.heap.size W w1 → K (a.put o.dst (.slice A' (l.length + y.size) c')) w1) :
  if Region.wanted o (yielded ops a.tmps) = true then Oper.wp Tryd.prog o a W K Q else E := by
 subst hn hc
 obtain ⟨A', c', w1, hrun, h1, h2, h3⟩ := run_append_cut W A l y o.type hC hl
 have hw : Region.wanted o (yielded ops a.tmps) = true := by simp [Region.wanted, hgd]
 rw [if_pos hw]
 unfold Oper.wp
 simp [execOp, ho, resolve, invoke, builtin, hs, hx, hrun, Result.andThen]
 exact h A' c' w1 h1 h2 h3
def St (w : World) (g : Nat) (s : H8) (wt : List UInt8) (n : Nat) : Prop := ∃ A c, w.heap[g]? = some (.cells (st s.l (.slice A wt.length c) (n : Int)) 100 (0, 0)) ∧ wt.length ≤ c ∧ CB w A wt
def F0 : H8 := ⟨0x6a09e667, 0xbb67ae85, 0x3c6ef372, 0xa54ff53a, 0x510e527f, 0x9b05688c, 0x1f83d9ab, 0x5be0cd19⟩
def FA : Array Value := #[.int .u32 1779033703, .int .u32 3144134277, .int .u32 1013904242, .int .u32 2773480762, .int .u32 1359893119, .int .u32 2600822924, .int .u32 528734635, .int .u32 1541459225]
def Tab (w : World) : Prop := ∃ t0 f0 t1 f1, w.heap[0]? = some (.cells FA t0 f0) ∧ w.heap[1]? = some (.cells KA t1 f1)
theorem Tab.below {w w' : World} (h : Tab w) (hb : Below w.heap.size w w') : Tab w' := by
 obtain ⟨t0, f0, t1, f1, h0, h1⟩ := h
 exact ⟨t0, f0, t1, f1, blk_below h0 hb, blk_below h1 hb⟩
theorem F_cells (V : Value) (n : Int) : st F0.l V n = #[.int .u32 1779033703, .int .u32 3144134277, .int .u32 1013904242, .int .u32 2773480762, .int .u32 1359893119, .int .u32 2600822924, .int .u32 528734635, .int .u32 1541459225, V, .int .u64 n] := rfl
set_option maxHeartbeats 4000000 in
set_option maxRecDepth 100000 in
theorem new_walk (w : World) (hT : Tab w) : Calls Tryd.prog 52 #[] w fun e w' => ∃ g, e = .returned (.pointer (some ⟨g, 0, none⟩)) ∧ St w' g F0 [] 0 ∧ w.heap.size ≤ g ∧ Below w.heap.size w w' := by
 obtain ⟨t0, f0, t1, f1, h0, h1⟩ := hT
 have H0 := sqA h0
 clear h0 h1
 go_enter Tryd.func52, Tryd.ntmps52
 go_wp2_with (first | ((with_reducible refine gate_load (t := 98) (x := .global 0) rfl ?_); refine wpList_load_row rfl 98 (.global 0) rfl 0 rfl t0 FA f0 _ H0.out Tryd.underlying98 rfl (by kernel_rfl) ?_; simp only [FA]) | ((with_reducible refine gate_dst (N := 3) rfl ?_); refine sqo (N := 3) (cs := #[.int .u32 1779033703, .int .u32 3144134277, .int .u32 1013904242, .int .u32 2773480762, .int .u32 1359893119, .int .u32 2600822924, .int .u32 528734635, .int .u32 1541459225, .slice none 0 0, .int .u64 0]) (t := 100) ?_; intro g hg w3 hbox hb; have HG3 := sqA hbox; have HGE := sqA (show w.heap.size ≤ g by rw [hg]; exact Nat.le_refl _); have HB3 := sqA hb; clear hg hbox hb))
 go_ret
 exact ⟨g, rfl, ⟨none, 0, HG3.out, Nat.le_refl _, CB_nil _⟩, HGE.out, HB3.out⟩
end Go.Proofs.YtifpomknkjegeaaDoor.Sha
namespace Go.Proofs.YtifpomknkjegeaaDoor.Sha
open Go.RowKit Go.Proofs.YtifpomknkjegeaaDoor.PAll Go.Proofs.YtifpomknkjegeaaDoorW.PrintWords Go.Proofs.YtifpomknkjegeaaDoorW.PrintLast Go.Proofs.YtifpomknkjegeaaDoorW.PrintMore SG
set_option linter.unusedVariables false
set_option linter.unusedSimpArgs false
attribute [local go_sem] all_u8 all_u32 all_u64 wrapU addU shlU24 shlU16 shlU8 shrU3 shrU10 orU xorU andU
def blks (s : H8) (l : List UInt8) : Nat → H8
 | 0 => s
 | j + 1 => blk (blks s l j) ((l.drop (64 * j)).take 64)
theorem st_no8 (s : H8) (A : Option Addr) (m c : Nat) (n x : Int) (i : Nat) : (st s.l (.slice A m c) n)[i]? ≠ some (.int .u8 x) := by
 match i with
 | 0 => intro h; injection h with h; injection h with h; cases h
 | 1 => intro h; injection h with h; injection h with h; cases h
 | 2 => intro h; injection h with h; injection h with h; cases h
 | 3 => intro h; injection h with h; injection h with h; cases h
 | 4 => intro h; injection h with h; injection h with h; cases h
 | 5 => intro h; injection h with h; injection h with h; cases h
 | 6 => intro h; injection h with h; injection h with h; cases h
 | 7 => intro h; injection h with h; injection h with h; cases h
 | 8 => intro h; injection h with h; cases h
 | 9 => intro h; injection h with h; injection h with h; cases h
 | n + 10 => intro h; cases h
theorem st_n (s : H8) (V : Value) (n m : Int) : (st s.l V n).setIfInBounds 9 (.int .u64 m) = st s.l V m := rfl
theorem st_w (s : H8) (V V' : Value) (n : Int) : (st s.l V n).setIfInBounds 8 V' = st s.l V' n := rfl
theorem setN {w : World} {g : Nat} {s : H8} {V : Value} {n : Int} (h : w.heap[g]? = some (.cells (st s.l V n) 100 (0, 0))) (m : Int) : (w.setCell ⟨g, 9, none⟩ (.int .u64 m)).heap[g]? = some (.cells (st s.l V m) 100 (0, 0)) := by
 rw [blk_set h 9, st_n]
theorem setW {w : World} {g : Nat} {s : H8} {V : Value} {n : Int} (h : w.heap[g]? = some (.cells (st s.l V n) 100 (0, 0))) (V' : Value) : (w.setCell ⟨g, 8, none⟩ V').heap[g]? = some (.cells (st s.l V' n) 100 (0, 0)) := by
 rw [blk_set h 8, st_w]
theorem below_own {w w' : World} {g : Nat} (h : Below g w w') (i : Nat) (v : Value) : Below g w (w'.setCell ⟨g, i, none⟩ v) := Below.setCell (p := ⟨g, i, none⟩) h (Nat.le_refl g) v
theorem kept_own {w w' : World} {g : Nat} (h : Kept w w' (fun k => k = g)) (i : Nat) (v : Value) : Kept w (w'.setCell ⟨g, i, none⟩ v) (fun k => k = g) := Kept.setCell (p := ⟨g, i, none⟩) h (.inl rfl) v
theorem CB_kept {w w' : World} {A : Option Addr} {l : List UInt8} {g : Nat} {s : H8} {B : Option Addr} {m c : Nat} {n : Int} (h : CB w A l) (hk : Kept w w' (fun k => k = g)) (hg : w.heap[g]? = some (.cells (st s.l (.slice B m c) n) 100 (0, 0))) : CB w' A l := by
 rcases Nat.eq_zero_or_pos l.length with h0 | h0
 ·
  obtain rfl := List.eq_nil_of_length_eq_zero h0
  exact ⟨rfl, by simp, fun h => by simp at h⟩
 ·
  obtain ⟨ad, rfl, hc⟩ := atB h h0
  refine CB_of h.2.1 (fun j hj => ?_)
  have hx := hc w (Below.refl _ _) j hj
  rw [iv, byteV_toNat, List.getD_eq_getElem?_getD, List.getElem?_eq_getElem hj] at hx
  have hne : (ad.add j).block ≠ g := by
   intro he
   have hx2 := hx
   unfold World.cell? at hx2
   rw [he, hg] at hx2
   exact st_no8 s B m c n _ _ (by simp at hx2; exact hx2.2)
  have hlt := World.block_lt_of_cell? w _ hx
  have := hk.2 _ hlt hne
  unfold World.cell? at hx ⊢
  rw [this]
  exact hx
theorem St_put {w : World} {g : Nat} {s : H8} {A B : Option Addr} {m c m' c' : Nat} {n : Nat} {l : List UInt8} (h : w.heap[g]? = some (.cells (st s.l (.slice B m' c') (n : Int)) 100 (0, 0))) (hm : m = l.length) (hc : m ≤ c) (hC : CB w A l) : St (w.setCell ⟨g, 8, none⟩ (.slice A m c)) g s l n := by
 subst hm
 exact ⟨A, c, setW h _, hc, CB_kept hC (kept_own (Kept.refl w _) 8 _) h⟩
theorem CB_empty (w : World) (A : Option Addr) {l : List UInt8} (h : l.length = 0) : CB w A l := by
 obtain rfl := List.eq_nil_of_length_eq_zero h
 exact ⟨rfl, by simp, fun h => by simp at h⟩
theorem CB_rest {w : World} {A : Option Addr} {l : List UInt8} (h : CB w A l) : CB w (Option.map (fun x : Addr => { block := x.block, off := x.off + 64 }) A) (l.drop 64) := by
 by_cases hl : 64 < l.length
 ·
  obtain ⟨ad, rfl, _⟩ := atB h (by omega)
  exact CB_drop h 64 hl
 ·
  exact CB_empty _ _ (by rw [List.length_drop]; omega)
set_option maxHeartbeats 4000000 in
set_option maxRecDepth 100000 in
theorem write_walk (s : H8) (g : Nat) (wt : List UInt8) (n : Nat) (y : ByteArray) (w : World) (hS : St w g s wt n) (hT : Tab w) (hl : wt.length + y.size ≤ 1000000000) (hn : n ≤ 1000000000) :
  Calls Tryd.prog 53 #[.pointer (some ⟨g, 0, none⟩), .string y] w fun e w' => e = .returned (.tuple #[]) ∧ St w' g (blks s (wt ++ y.toList) ((wt ++ y.toList).length / 64)) ((wt ++ y.toList).drop (64 * ((wt ++ y.toList).length / 64))) (n + y.size) ∧ Below g w w' ∧ Kept w w' (fun k => k = g) := by
 obtain ⟨A, c, hg, hc, hC⟩ := hS
 have HG := sqA hg
 have hg0 := hg
 have HC := sqA hC
 have HT := sqA hT
 have x9 : w.cell? ⟨g, 9, none⟩ = some (.int .u64 (n : Int)) := (blk_cell hg 9).trans rfl
 have f9 : w.frozen? ⟨g, 9, none⟩ = false := blk_frozen hg 9
 have e1 : IntKind.u64.wrap (y.size : Int) = (y.size : Int) := by rw [IntKind.wrap_u64]; omega
 have e2 : IntKind.u64.wrap ((n : Int) + (y.size : Int)) = (n : Int) + (y.size : Int) := by rw [IntKind.wrap_u64]; omega
 clear hg hC hT
 go_enter Tryd.func53, Tryd.ntmps53
 go_upto_region 1 with (first | ((with_reducible refine gate_store (t := 87) (p := 13) (v := .tmp 11) rfl ?_); refine sqp (w1 := (w.setCell ⟨g, 9, none⟩ (.int .u64 ((n : Int) + (y.size : Int))))) ?_; intro w1 hw1; have HG1 : Aside0 (w1.heap[g]? = some (.cells (st s.l (.slice A wt.length c) ((n + y.size : Nat) : Int)) 100 (0, 0))) := ⟨(by rw [hw1]; exact setN HG.out _)⟩; have HB1 : Aside0 (Below g w w1) := ⟨(by rw [hw1]; exact below_own (Below.refl g w) 9 _)⟩; have HK1 : Aside0 (Kept w w1 (fun k => k = g)) := ⟨(by rw [hw1]; exact kept_own (Kept.refl w _) 9 _)⟩; clear hw1))
 (try simp only [Act.put, List.setIfInBounds_toArray, List.set_cons_zero, List.set_cons_succ])
 clear x9 f9 e1 e2
 go_cut [] (fun wc => Aside0 (St wc g s (wt ++ y.toList) (n + y.size)) ∧ Aside0 (Below g w wc) ∧ Aside0 (Kept w wc (fun k => k = g)))
 case first =>
  have hgd : w1.drew.heap[g]? = some (.cells (st s.l (.slice A wt.length c) ((n + y.size : Nat) : Int)) 100 (0, 0)) := HG1.out
  have x8 : w1.drew.cell? ⟨g, 8, none⟩ = some (.slice A wt.length c) := (blk_cell hgd 8).trans rfl
  have HGd := sqA hgd
  have hlc : (wt.length : Int) ≤ (c : Int) := by omega
  have HCd : Aside0 (CB w1.drew A wt) := ⟨CB_kept HC.out HK1.out.drew HG.out⟩
  clear hgd
  go_region_law (refine step_append_cut rfl (.tmp 29) (.tmp 30) rfl A wt wt.length wt.length y (by simp [Act.eval, Act.put]) (by simp [Act.eval, Act.put]) rfl rfl HCd.out (by omega) ?_; intro A2 c2 w2 hc2 hC2 hb2; have hg2 := blk_below HGd.out hb2; have y8 : w2.cell? ⟨g, 8, none⟩ = some (.slice A wt.length c) := (blk_cell hg2 8).trans rfl; have y8f : w2.frozen? ⟨g, 8, none⟩ = false := blk_frozen hg2 8; have HG2 := sqA hg2; have HC2 := sqA hC2; have HB2 := sqA hb2; clear hg2 hC2 hb2)
  all_goals
   go_wp2
   go_meet
   case rel =>
    have hk2 : Kept w (w2.setCell ⟨g, 8, none⟩ (.slice A2 (wt.length + y.size) c2)) (fun k => k = g) := kept_own (HK1.out.drew.below HB2.out) 8 _
    refine ⟨⟨A2, c2, ?_, ?_, ?_⟩, ⟨below_own ((below_drew HB1.out).trans (HB2.out.mono (Nat.le_of_lt (blk_lt HGd.out)))) 8 _⟩, ⟨hk2⟩⟩
    ·
     rw [List.length_append, toList_length]
     exact setW HG2.out _
    ·
     rw [List.length_append, toList_length]
     exact hc2
    ·
     exact CB_kept HC2.out (kept_own (Kept.refl w2 _) 8 _) HG2.out
 case rest =>
  obtain ⟨HSc, HBc, HKc⟩ := hcut
  have HLL : Aside0 ((wt ++ y.toList).length ≤ 1000000000) := ⟨by rw [List.length_append, toList_length]; exact hl⟩
  obtain ⟨L, hL⟩ : ∃ L, L = wt ++ y.toList := ⟨_, rfl⟩
  obtain ⟨N, hN⟩ : ∃ N, N = n + y.size := ⟨_, rfl⟩
  rw [← hL] at HSc HLL
  rw [← hN] at HSc
  have HLE := sqA hL
  have HNE := sqA hN
  clear hL hN
  clear HG HC HG1 HB1 HK1
  have HT1 : Aside0 (∃ t1 f1, w.heap[1]? = some (.cells KA t1 f1) ∧ 1 ≠ g) := ⟨by
   obtain ⟨t0, f0, t1, f1, h0, h1⟩ := HT.out
   refine ⟨t1, f1, h1, fun he => ?_⟩
   subst he
   rw [h1] at hg0
   injection hg0 with hg0
   injection hg0 with hg0 _
   have hz := congrArg Array.size hg0
   have h64 : KA.size = 64 := by simp [KA, KT]
   rw [h64] at hz
   simp [st, H8.l] at hz⟩
  clear HT hg0
  go_wp2
  go_loopg [] (L.length / 64) (fun kq w' => ∃ (j : Nat), Aside0 (j + kq = L.length / 64) ∧ Aside0 (St w' g (blks s L j) (L.drop (64 * j)) N) ∧ Aside0 (Below g w w') ∧ Aside0 (Kept w w' (fun k => k = g)))
  case atStart => exact ⟨0, ⟨by omega⟩, HSc, HBc, HKc⟩
  case round =>
   obtain ⟨j, HI, HSj, HBj, HKj⟩ := hrel
   have hi := HI.out
   obtain ⟨A1, c1, hg1, hc1, hC1⟩ := HSj.out
   obtain ⟨m, hm⟩ : ∃ m, m = (L.drop (64 * j)).length := ⟨_, rfl⟩
   have hm2 : m = L.length - 64 * j := by rw [hm, List.length_drop]
   rw [← hm] at hg1 hc1
   have x8 : wr.cell? ⟨g, 8, none⟩ = some (.slice A1 m c1) := (blk_cell hg1 8).trans rfl
   have HGj := sqA hg1
   have HCj := sqA hC1
   have HM := sqA hm
   have HM2 := sqA hm2
   clear hg1 hC1 hm
   by_cases hat : 64 ≤ m
   ·
    obtain ⟨k1, rfl⟩ : ∃ k1, gk = k1 + 1 := ⟨gk - 1, by omega⟩
    have hge : decide ((m : Int) ≥ 64) = true := decide_eq_true (by omega)
    have hc64 : (64 : Int) ≤ (c1 : Int) := by omega
    have hm64 : (64 : Int) ≤ (m : Int) := by omega
    have HW : Aside0 (((L.drop (64 * j)).take 64).length = 64) := ⟨by rw [List.length_take, ← HM.out]; omega⟩
    have HR : Aside0 (Kd.C (Kd.int .u8) wr A1 64 (iB ((L.drop (64 * j)).take 64))) := ⟨by have := CB_take HCj.out 64 (by rw [← HM.out]; exact hat); unfold CB at this; rw [HW.out] at this; exact this⟩
    obtain ⟨t1, f1, h1, hne⟩ := HT1.out
    have HT2 := sqA (blk_kept h1 HKj.out hne)
    have hms : (m : Int) - 64 = ((m - 64 : Nat) : Int) := by omega
    clear h1 hne hm2
    go_wp2_with (first | ((with_reducible refine gate_callee (f := 61) rfl ?_); refine goesL_ (some 46) rfl rfl Tryd.func61 (by kernel_rfl) rfl #[.pointer (some ⟨g, 0, none⟩), .slice A1 64 c1] rfl sqm ?_; (with_reducible refine (block_walk (blks s L j) g (.slice A1 m c1) (N : Int) ((L.drop (64 * j)).take 64) HW.out A1 c1 _ t1 f1 HGj.out HT2.out HR.out).mono ?_); rintro e w2 ⟨rfl, hg2, hb2, hk2⟩; refine ⟨_, rfl, ?_⟩; have x82 : w2.cell? ⟨g, 8, none⟩ = some (.slice A1 m c1) := (blk_cell hg2 8).trans rfl; have x82f : w2.frozen? ⟨g, 8, none⟩ = false := blk_frozen hg2 8; have HG2 := sqA hg2; have HB2 := sqA hb2; have HK2 := sqA hk2; clear hg2 hb2 hk2))
    all_goals
     go_roundg k1
     case measure => omega
     case rel =>
      have hdd : L.drop (64 * (j + 1)) = (L.drop (64 * j)).drop 64 := by rw [List.drop_drop, Nat.mul_add]
      have hdl : ((L.drop (64 * j)).drop 64).length = m - 64 := by rw [List.length_drop, ← HM.out]
      have hC2 : CB w2 A1 (L.drop (64 * j)) := CB_kept HCj.out HK2.out HGj.out
      refine ⟨j + 1, ⟨by omega⟩, ⟨?_⟩, ⟨below_own ((HBj.out).trans HB2.out) 8 _⟩, ⟨kept_own (HKj.out.then_ HK2.out (fun k h => .inl h)) 8 _⟩⟩
      rw [hdd]
      exact St_put HG2.out hdl.symm (by omega) (by first | exact CB_rest hC2 | exact CB_empty _ _ (by rw [hdl]; omega))
   ·
    obtain rfl : gk = 0 := by have := HM2.out; omega
    have hge : decide ((m : Int) ≥ 64) = false := decide_eq_false (by omega)
    have HJ : Aside0 (j = L.length / 64) := ⟨hi⟩
    clear HI hi hm2
    go_wp2
    refine bodyPost_end (results_none rfl _ _ _) rfl ⟨rfl, ?_, HBj.out, HKj.out⟩
    rw [← HLE.out, ← HNE.out, ← HJ.out]
    exact HSj.out
end Go.Proofs.YtifpomknkjegeaaDoor.Sha
namespace Go.Proofs.YtifpomknkjegeaaDoor.Sha
open Go.RowKit Go.Proofs.YtifpomknkjegeaaDoor.PAll Go.Proofs.YtifpomknkjegeaaDoorW.PrintWords Go.Proofs.YtifpomknkjegeaaDoorW.PrintLast Go.Proofs.YtifpomknkjegeaaDoorW.PrintMore SG
set_option linter.unusedVariables false
set_option linter.unusedSimpArgs false
attribute [local go_sem] all_u8 all_u32 all_u64 wrapU addU shlU24 shlU16 shlU8 shrU3 shrU10 shrU24 shrU16 shrU8 orU xorU andU
theorem run_append_nil (W : World) (A : Option Addr) (l : List UInt8) (c : Nat) (ty : TypeId) (hC : CB W A l) (hl : l.length ≤ 140737488355328) :
  ∃ A' c' w1, (Builtin.append_ #[54, 54] ty #[.slice none 0 0, .slice A l.length c]).run Tryd.prog W = .ok (.slice A' l.length c') w1 ∧ l.length ≤ c' ∧ CB w1 A' l ∧ Below W.heap.size W w1 := by
 have hinfo : (Tryd.prog.info? 5).map (fun i => (i.zero, i.size, i.bytes)) = some (some (.int .u8 0), 1, 1) := by kernel_rfl
 obtain ⟨i0, hi, hzz⟩ := Option.map_eq_some_iff.1 hinfo
 simp only [Prod.mk.injEq] at hzz
 obtain ⟨hz0, hz1, hz2⟩ := hzz
 rcases Nat.eq_zero_or_pos l.length with h0 | h0
 ·
  refine ⟨none, 0, W, ?_, by omega, CB_empty _ _ h0, Below.refl _ _⟩
  rw [h0]
  cases A with
  | none => simp [Builtin.append_, run_underlying Tryd.underlying54, sizeOf, typeInfo, hi, hz1, Builtin.lenOf, run_firstCells_none]
  | some ad => simp [Builtin.append_, run_underlying Tryd.underlying54, sizeOf, typeInfo, hi, hz1, Builtin.lenOf, run_firstCells_some W 1 0 ad 0 c [] rfl (fun j u hu => by simp at hu)]
 ·
  obtain ⟨ad, rfl, hc⟩ := CB_cells hC h0
  have hs : Src Tryd.prog 1 54 (.slice (some ad) l.length c) l.length (l.map (fun b => Value.int .u8 (b.toNat : Int))) W := Src.ofSlice W Tryd.underlying54 ad l.length c _ (by simp) hc (fun u hu => by
   obtain ⟨_, _, rfl⟩ := List.mem_map.1 hu
   rfl)
  have hrun := run_append_grow_src (P := Tryd.prog) W 54 54 ty 5 i0 (.int .u8 0) Tryd.underlying54 hi hz0 none 0 0 [] (by rw [hz1]; exact run_firstCells_none W.drew 1 0 0 0) (.slice (some ad) l.length c) l.length _ (by rw [hz1]; exact hs) (by omega) (by omega) (by rw [hz2]; exact growslice_fits (by omega) (by omega))
  rw [Nat.zero_add] at hrun
  refine ⟨_, _, _, hrun, ?_, ?_, below_alloc (below_drew (Below.refl _ _)) _⟩
  ·
   exact grownCap_ge W l.length 0 5
  ·
   refine CB_of (by omega) (fun j hj => ?_)
   rw [add_plain]
   refine (cell_of_row _ _ j _ 5 (0, 0) (heap_alloc_new W.drew _)).trans ?_
   rw [Array.getElem?_append_left (by simpa using hj), List.nil_append, List.getElem?_toArray, List.getElem?_map, List.getElem?_eq_getElem hj]
   rfl
theorem step_append_nil {ops : Array Oper} {o : Oper} {a : Act} {Q : Exit → Act → World → Prop} {K : Act → World → Prop} {E : Prop} {W : World} (hgd : o.guard = none) (s x : Operand) (ho : o.op = .call { callee := .builtin .append, args := #[s, x], argTypes := #[54, 54] })
  (A : Option Addr) (l : List UInt8) (n c : Nat) (hs : a.eval s = .slice none 0 0) (hx : a.eval x = .slice A n c) (hn : n = l.length) (hC : CB W A l) (hl : l.length ≤ 140737488355328)
  (h : ∀ A' c' w1, l.length ≤ c' → CB w1 A' l → Below W.heap.size W w1 → K (a.put o.dst (.slice A' l.length c')) w1) :
  if Region.wanted o (yielded ops a.tmps) = true then Oper.wp Tryd.prog o a W K Q else E := by
 subst hn
 obtain ⟨A', c', w1, hrun, h1, h2, h3⟩ := run_append_nil W A l c o.type hC hl
 have hw : Region.wanted o (yielded ops a.tmps) = true := by simp [Region.wanted, hgd]
 rw [if_pos hw]
 unfold Oper.wp
 simp [execOp, ho, resolve, invoke, builtin, hs, hx, hrun, Result.andThen]
 exact h A' c' w1 h1 h2 h3
def ib (b : UInt8) : Int := (b.toNat : Int)
def b8 (v : BitVec 32) : UInt8 := UInt8.ofNat v.toNat
theorem u8W (v : BitVec 32) : iv v % 256 = ((b8 v).toNat : Int) := by
 unfold iv b8
 rw [UInt8.toNat_ofNat']
 rfl
def by8 (x : Nat) (i : Nat) : UInt8 := UInt8.ofNat (x / 2 ^ (8 * i))
def be8 (x : Nat) : List UInt8 := [by8 x 7, by8 x 6, by8 x 5, by8 x 4, by8 x 3, by8 x 2, by8 x 1, by8 x 0]
def padF (r n : Nat) : List UInt8 := 0x80 :: (List.replicate ((119 - r) % 64) 0 ++ be8 (8 * n))
def out4 (v : BitVec 32) : List UInt8 := [b8 (v >>> 24), b8 (v >>> 16), b8 (v >>> 8), b8 v]
def sumF (s : H8) (wt : List UInt8) (n : Nat) : List UInt8 := (blks s (wt ++ padF wt.length n) ((wt ++ padF wt.length n).length / 64)).l.flatMap out4
theorem out4_C (w : World) (x : BitVec 32) : CB (w.alloc (.cells #[.int .u8 (iv (x >>> 24) % 256), .int .u8 (iv (x >>> 16) % 256), .int .u8 (iv (x >>> 8) % 256), .int .u8 (iv x % 256)] 5)) (some ⟨w.heap.size, 0, none⟩) (out4 x) := by
 refine CB_of (by show 4 ≤ _; decide) (fun j hj => ?_)
 rw [add_plain]
 refine (cell_of_row _ _ j _ 5 (0, 0) (heap_alloc_new w _)).trans ?_
 rw [u8W, u8W, u8W, u8W]
 match j, hj with
 | 0, _ => rfl
 | 1, _ => rfl
 | 2, _ => rfl
 | 3, _ => rfl
 | j + 4, h => exact absurd h (by simp [out4])
theorem St_below {w w' : World} {g : Nat} {s : H8} {wt : List UInt8} {n : Nat} (h : St w g s wt n) (hb : Below w.heap.size w w') : St w' g s wt n := by
 obtain ⟨A, c, h1, h2, h3⟩ := h
 exact ⟨A, c, blk_below h1 hb, h2, Kd.C_below h3 hb⟩
theorem str_iB (l : List UInt8) : strOfNums (iB l) = mk l := by
 rw [nums_mk, iB, List.map_map]
 congr 1
 refine (List.map_congr_left (fun b _ => ?_)).trans (List.map_id l)
 show UInt8.ofNat ((b.toNat : Int)).toNat = b
 rw [Int.toNat_natCast]
 exact UInt8.ofNat_toNat
theorem flat4 (l : List (BitVec 32)) (x : BitVec 32) : (l ++ [x]).flatMap out4 = l.flatMap out4 ++ out4 x := by simp
theorem flat4_len (l : List (BitVec 32)) : (l.flatMap out4).length = 4 * l.length := by
 induction l with
 | nil => rfl
 | cons x l ih => rw [List.flatMap_cons, List.length_append, ih]; simp [out4]; omega
theorem be8_take (x k : Nat) (h : k < 8) : (be8 x).take (8 - k) = (be8 x).take (8 - (k + 1)) ++ [by8 x k] := by
 match k, h with
 | 0, _ => rfl
 | 1, _ => rfl
 | 2, _ => rfl
 | 3, _ => rfl
 | 4, _ => rfl
 | 5, _ => rfl
 | 6, _ => rfl
 | 7, _ => rfl
 | k + 8, h => exact absurd h (by omega)
theorem by8_int (n k : Nat) : ((by8 (8 * n) k).toNat : Int) = (n : Int) * 8 / 2 ^ (8 * k) % 256 := by
 unfold by8
 rw [UInt8.toNat_ofNat', Nat.mul_comm 8 n]
 show ((n * 8 / 2 ^ (8 * k) % 256 : Nat) : Int) = _
 rw [Int.natCast_emod, Int.natCast_ediv, Int.natCast_mul, Int.natCast_pow]
 rfl
theorem iB_append (a b : List UInt8) : iB (a ++ b) = iB a ++ iB b := List.map_append
set_option maxHeartbeats 4000000 in
set_option maxRecDepth 100000 in
theorem sum_walk (s : H8) (g : Nat) (wt : List UInt8) (n : Nat) (w : World) (hS : St w g s wt n) (hT : Tab w) (hl : wt.length < 64) (hn : n ≤ 1000000) :
  Calls Tryd.prog 54 #[.pointer (some ⟨g, 0, none⟩)] w fun e w' => e = .returned (.string (mk (sumF s wt n))) ∧ Below w.heap.size w w' := by
 obtain ⟨A, c, hg, hc, hC⟩ := hS
 have HG := sqA hg
 have HC := sqA hC
 have HT := sqA hT
 clear hg hC hT
 go_enter Tryd.func54, Tryd.ntmps54
 go_upto_region 1 with fail
 (try simp only [Act.put, List.setIfInBounds_toArray, List.set_cons_zero, List.set_cons_succ])
 go_cut [3] (fun v3 wc => ∃ g2, v3 = .pointer (some ⟨g2, 0, none⟩) ∧ Aside0 (w.heap.size ≤ g2) ∧ Aside0 (St wc g2 s wt 0) ∧ Aside0 (Below w.heap.size w wc))
 case first =>
  have hgd : w.drew.heap[g]? = some (.cells (st s.l (.slice A wt.length c) (n : Int)) 100 (0, 0)) := HG.out
  have x8 : w.drew.cell? ⟨g, 8, none⟩ = some (.slice A wt.length c) := (blk_cell hgd 8).trans rfl
  have x0 : w.drew.cell? ⟨g, 0, none⟩ = some (.int .u32 (iv s.a)) := (blk_cell hgd 0).trans rfl
  have x1 : w.drew.cell? ⟨g, 1, none⟩ = some (.int .u32 (iv s.b)) := (blk_cell hgd 1).trans rfl
  have x2 : w.drew.cell? ⟨g, 2, none⟩ = some (.int .u32 (iv s.c)) := (blk_cell hgd 2).trans rfl
  have x3 : w.drew.cell? ⟨g, 3, none⟩ = some (.int .u32 (iv s.d)) := (blk_cell hgd 3).trans rfl
  have x4 : w.drew.cell? ⟨g, 4, none⟩ = some (.int .u32 (iv s.e)) := (blk_cell hgd 4).trans rfl
  have x5 : w.drew.cell? ⟨g, 5, none⟩ = some (.int .u32 (iv s.f)) := (blk_cell hgd 5).trans rfl
  have x6 : w.drew.cell? ⟨g, 6, none⟩ = some (.int .u32 (iv s.g)) := (blk_cell hgd 6).trans rfl
  have x7 : w.drew.cell? ⟨g, 7, none⟩ = some (.int .u32 (iv s.h)) := (blk_cell hgd 7).trans rfl
  have HGd := sqA hgd
  have HCd : Aside0 (CB w.drew A wt) := HC
  clear hgd
  go_region_law (refine step_append_nil rfl (.const (.slice none 0 0)) (.tmp 16) rfl A wt wt.length c rfl (by simp [Act.eval, Act.put]) rfl HCd.out (by omega) ?_; intro A2 c2 w2 hc2 hC2 hb2; have hg2 := blk_below HGd.out hb2; have y0 : w2.cell? ⟨g, 0, none⟩ = some (.int .u32 (iv s.a)) := (blk_cell hg2 0).trans rfl; have y1 : w2.cell? ⟨g, 1, none⟩ = some (.int .u32 (iv s.b)) := (blk_cell hg2 1).trans rfl; have y2 : w2.cell? ⟨g, 2, none⟩ = some (.int .u32 (iv s.c)) := (blk_cell hg2 2).trans rfl; have y3 : w2.cell? ⟨g, 3, none⟩ = some (.int .u32 (iv s.d)) := (blk_cell hg2 3).trans rfl; have y4 : w2.cell? ⟨g, 4, none⟩ = some (.int .u32 (iv s.e)) := (blk_cell hg2 4).trans rfl; have y5 : w2.cell? ⟨g, 5, none⟩ = some (.int .u32 (iv s.f)) := (blk_cell hg2 5).trans rfl; have y6 : w2.cell? ⟨g, 6, none⟩ = some (.int .u32 (iv s.g)) := (blk_cell hg2 6).trans rfl; have y7 : w2.cell? ⟨g, 7, none⟩ = some (.int .u32 (iv s.h)) := (blk_cell hg2 7).trans rfl; have HC2 := sqA hC2; have HB2 := sqA hb2; clear hg2 hC2 hb2)
  all_goals
   go_wp2
   go_meet
   case rel =>
    have hb3 : Below w.heap.size w w2 := below_step (below_drew (Below.refl _ _)) HB2.out
    exact ⟨w2.heap.size, rfl, ⟨hb3.size⟩, ⟨A2, c2, heap_alloc_new w2 _, hc2, Kd.C_alloc HC2.out _⟩, ⟨below_alloc hb3 _⟩⟩
 case rest =>
  obtain ⟨g2, rfl, HGE, HS2, HBc⟩ := hcut
  have hgc := blk_below HG.out HBc.out
  have x8 : wc.cell? ⟨g, 8, none⟩ = some (.slice A wt.length c) := (blk_cell hgc 8).trans rfl
  have HGc := sqA hgc
  clear hgc
  obtain ⟨m, hm⟩ : ∃ m, m = wt.length := ⟨_, rfl⟩
  have HM := sqA hm
  rw [← hm] at x8 hl
  clear hm
  go_wp2_with (first | ((with_reducible refine gate_dst (N := 20) rfl ?_); refine Kd.R_lit (Kd.int .u8) (w0 := wc) wc.heap.size 5 rfl (N := 20) rfl (xs := [128]) (inner := [.int .u8 128]) (okp := fun _ => False) (ok := fun _ => True) ?hr ?hrep (fun _ _ => trivial) trivial (Below.refl _ _) (Nat.le_refl _) (by decide) ?_; (case hr => first | (go_simp; done) | (go_simp; rfl)); (case hrep => exact Kd.reps_scalar (enc := Value.int .u8) [128]); intro v20 w20 hr20 hb20 hg20 hat20; have HR20 := sqA hr20; have HB20 := sqA hb20; have y8 : w20.cell? ⟨g, 8, none⟩ = some (.slice A m c) := pw_cell_below hb20 x8; clear hr20 hb20 hg20 hat20) | ((with_reducible refine gate_builtin (b := .append) (xs := #[.tmp 20, .tmp 27]) rfl ?_); at_builtin; refine Kd.R_append_zeros (Kd.int .u8) (w0 := wc) wc.heap.size rfl (.tmp 20) (.tmp 27) 54 3 5 (.int .u8 0) 1 rfl Tryd.underlying54 Tryd.underlying3 (by kernel_rfl) rfl (by decide) (by decide) v20 [128] 0 ((119 - (m : Int)) % 64) (fun _ => True) rfl rfl rfl (fun _ _ => trivial) HR20.out (by omega) HB20.out HB20.out.size (by simp only [List.length_singleton]; omega) ?_; intro v28 w28 hr28 hb28 hg28 hat28; have HR28 := sqA hr28; have HB28 := sqA hb28; clear hr28 hb28 hg28 hat28))
  have HP0 : Aside0 ([128] ++ List.replicate ((119 - (m : Int)) % 64).toNat (0 : Int) = iB (0x80 :: List.replicate ((119 - wt.length) % 64) 0)) := ⟨by
   have h0 : ((119 - (m : Int)) % 64).toNat = (119 - wt.length) % 64 := by have := HM.out; omega
   rw [h0]
   simp [iB]⟩
  rw [HP0.out] at HR28
  clear HP0
  generalize hP : (0x80 :: List.replicate ((119 - wt.length) % 64) 0 : List UInt8) = P at *
  have HP := sqA hP
  clear hP
  have HPL : Aside0 (P.length ≤ 65) := ⟨by rw [← HP.out]; simp; omega⟩
  go_loopg [4, 5] 8 (fun kq v4 v5 w' => v5 = .int .i64 ((kq : Int) - 1) ∧ Aside0 (kq ≤ 8) ∧ Aside0 ((Kd.int .u8).R 5 w' wc.heap.size (fun _ => True) v4 (iB (P ++ (be8 (8 * n)).take (8 - kq)))) ∧ Aside0 (Below wc.heap.size wc w'))
  case atStart => exact ⟨by first | rfl | (simp; done), ⟨by omega⟩, ⟨by simpa using HR28.out⟩, HB28⟩
  case round =>
   obtain ⟨rfl, HI, HRi, HBi⟩ := hrel
   have hi := HI.out
   have HGi := sqA (blk_below HGc.out HBi.out)
   rcases gk with _ | k1
   ·
    have hge : decide (((0 : Nat) : Int) - 1 ≥ 0) = false := by decide
    have hpad : P ++ (be8 (8 * n)).take (8 - 0) = padF wt.length n := by
     rw [← HP.out]
     rfl
    have hr0 := HRi.out
    rw [hpad] at hr0
    obtain ⟨A4, c4, rfl, hc4, hC4⟩ := Kd.R_reads hr0
    have cv := Kd.C_string (P := Tryd.prog) (src := 54) (dst := 9) (e := 5) Tryd.underlying54 Tryd.underlying5 Tryd.underlying9 (c := c4) hC4
    rw [str_iB] at cv
    clear hr0 HRi
    have hplen : (padF wt.length n).length ≤ 80 := by
     have h1 := HPL.out
     rw [← hpad, List.length_append, List.length_take]
     have h2 : (be8 (8 * n)).length = 8 := rfl
     omega
    have HPAD := sqA hplen
    have HSi := sqA (St_below HS2.out HBi.out)
    have HTi := sqA (HT.out.below (below_step HBc.out HBi.out))
    have HM1 : Aside0 (wt.length < 64) := ⟨by rw [← HM.out]; exact hl⟩
    generalize (iB (padF wt.length n)).length = pl at *
    obtain ⟨r, hr⟩ : ∃ r, r = blks s (wt ++ padF wt.length n) ((wt ++ padF wt.length n).length / 64) := ⟨_, rfl⟩
    have HRE := sqA hr
    have hv8 := V8_get r
    clear hC4 hpad hplen HI hr
    go_wp2_with (first | ((with_reducible refine gate_callee (f := 53) rfl ?_); refine goesL_ (some 48) rfl rfl Tryd.func53 (by kernel_rfl) rfl #[.pointer (some ⟨g2, 0, none⟩), .string (mk (padF wt.length n))] rfl sqm ?_; (with_reducible refine (write_walk s g2 wt 0 (mk (padF wt.length n)) _ HSi.out HTi.out (by rw [mk_size]; have h1 := HPAD.out; have h2 := HM1.out; omega) (by omega)).mono ?_); rintro e w5 ⟨rfl, hs5, hb5, hk5⟩; refine ⟨_, rfl, ?_⟩; rw [mk_toList, ← HRE.out] at hs5; obtain ⟨A5, c5, hg5, _, _⟩ := hs5; have x0 : w5.cell? ⟨g2, 0, none⟩ = some (.int .u32 (iv r.a)) := (blk_cell hg5 0).trans rfl; have x1 : w5.cell? ⟨g2, 1, none⟩ = some (.int .u32 (iv r.b)) := (blk_cell hg5 1).trans rfl; have x2 : w5.cell? ⟨g2, 2, none⟩ = some (.int .u32 (iv r.c)) := (blk_cell hg5 2).trans rfl; have x3 : w5.cell? ⟨g2, 3, none⟩ = some (.int .u32 (iv r.d)) := (blk_cell hg5 3).trans rfl; have x4 : w5.cell? ⟨g2, 4, none⟩ = some (.int .u32 (iv r.e)) := (blk_cell hg5 4).trans rfl; have x5 : w5.cell? ⟨g2, 5, none⟩ = some (.int .u32 (iv r.f)) := (blk_cell hg5 5).trans rfl; have x6 : w5.cell? ⟨g2, 6, none⟩ = some (.int .u32 (iv r.g)) := (blk_cell hg5 6).trans rfl; have x7 : w5.cell? ⟨g2, 7, none⟩ = some (.int .u32 (iv r.h)) := (blk_cell hg5 7).trans rfl; have HB5 : Aside0 (Below w.heap.size w w5) := ⟨(below_step HBc.out HBi.out).trans (hb5.mono HGE.out)⟩; clear hg5 hb5 hk5))
    generalize (#[.int .u32 (iv r.a), .int .u32 (iv r.b), .int .u32 (iv r.c), .int .u32 (iv r.d), .int .u32 (iv r.e), .int .u32 (iv r.f), .int .u32 (iv r.g), .int .u32 (iv r.h)] : Array Value) = VA at *
    have HV8 := sqA hv8
    clear hv8 x0 x1 x2 x3 x4 x5 x6 x7 cv
    go_loopg [6, 53] 8 (fun kq v6 v53 w' => ∃ (i : Nat), v53 = .int .i64 (i : Int) ∧ Aside0 (i + kq = 8) ∧ Aside0 ((Kd.int .u8).R 5 w' w5.heap.size (fun _ => True) v6 (iB ((r.l.take i).flatMap out4))) ∧ Aside0 (Below w5.heap.size w5 w'))
    case atStart => exact ⟨0, rfl, ⟨by omega⟩, ⟨Kd.R_nil _ _ _ _ _⟩, ⟨Below.refl _ _⟩⟩
    case round =>
     obtain ⟨i, rfl, HI, HRi, HBi5⟩ := hrel
     have hi := HI.out
     by_cases hat : i < 8
     ·
      obtain ⟨k1, rfl⟩ : ∃ k1, gk = k1 + 1 := ⟨gk - 1, by omega⟩
      have hlt : decide ((i : Int) < 8) = true := decide_eq_true (by omega)
      have hil : (i : Int) < 8 := by omega
      have hidx := run_index Tryd.underlying98 (by kernel_rfl) size89 hat (HV8.out i hat)
      obtain ⟨x, hx⟩ : ∃ x, x = r.l.getD i 0 := ⟨_, rfl⟩
      rw [← hx] at hidx
      have HT4 : Aside0 ((r.l.take (i + 1)).flatMap out4 = (r.l.take i).flatMap out4 ++ out4 x) := ⟨by
       rw [← flat4, hx]
       congr 1
       rw [List.take_add_one, List.getD_eq_getElem?_getD]
       have h8 : i < r.l.length := hat
       rw [List.getElem?_eq_getElem h8]
       rfl⟩
      have HL4 : Aside0 ((iB ((r.l.take i).flatMap out4)).length ≤ 100) := ⟨by
       rw [iB_length, flat4_len, List.length_take]
       omega⟩
      clear HI hx
      go_wp2_with (first | ((with_reducible refine gate_builtin (b := .append) (xs := #[.tmp 56, .tmp 68]) rfl ?_); at_builtin; refine Kd.R_append_rows (Kd.int .u8) (Rr := (Kd.int .u8).K (wr.alloc (.cells #[.int .u8 (iv (x >>> 24) % 256), .int .u8 (iv (x >>> 16) % 256), .int .u8 (iv (x >>> 8) % 256), .int .u8 (iv x % 256)] 5))) (w0 := w5) w5.heap.size rfl (.tmp 56) (.tmp 68) 54 5 (.int .u8 0) 1 rfl Tryd.underlying54 (by kernel_rfl) rfl (by decide) (by decide) u6 (iB ((r.l.take i).flatMap out4)) (iB (out4 x)) (some ⟨wr.heap.size, 0, none⟩) 4 4 (fun _ => True) (fun _ => False) rfl rfl (Kd.R_alloc HRi.out _) (out4_C wr x) (fun _ _ h => h) (fun _ hk => hk.elim) (fun _ _ => trivial) (below_alloc HBi5.out _) (below_alloc HBi5.out (.cells #[.int .u8 (iv (x >>> 24) % 256), .int .u8 (iv (x >>> 16) % 256), .int .u8 (iv (x >>> 8) % 256), .int .u8 (iv x % 256)] 5)).size (by have := HL4.out; omega) ?_; intro v69 w69 hr69 hb69 hg69 hat69; have HR69 := sqA hr69; have HB69 := sqA hb69; clear hr69 hb69 hg69 hat69))
      go_roundg k1
      case measure => omega
      case rel => exact ⟨i + 1, by first | rfl | (simp; done), ⟨by omega⟩, ⟨by rw [HT4.out, iB_append]; exact HR69.out⟩, HB69⟩
     ·
      obtain rfl : gk = 0 := by omega
      obtain rfl : i = 8 := by omega
      have hge : decide (((8 : Nat) : Int) < 8) = false := by decide
      have ht8 : r.l.take 8 = r.l := rfl
      have hr0 := HRi.out
      rw [ht8] at hr0
      obtain ⟨A6, c6, rfl, hc6, hC6⟩ := Kd.R_reads hr0
      have cv := Kd.C_string (P := Tryd.prog) (src := 54) (dst := 9) (e := 5) Tryd.underlying54 Tryd.underlying5 Tryd.underlying9 (c := c6) hC6
      rw [str_iB] at cv
      generalize (iB (r.l.flatMap out4)).length = pl2 at *
      have HRS : Aside0 (mk (r.l.flatMap out4) = mk (sumF s wt n)) := ⟨by rw [HRE.out]; rfl⟩
      rw [HRS.out] at cv
      clear HRi hr0 hC6 ht8 HI
      go_wp2
      go_ret
      exact ⟨rfl, below_step HB5.out HBi5.out⟩
   ·
    have hge : decide (((k1 + 1 : Nat) : Int) - 1 ≥ 0) = true := decide_eq_true (by omega)
    have z9 : wr.cell? ⟨g, 9, none⟩ = some (.int .u64 (n : Int)) := (blk_cell HGi.out 9).trans rfl
    have HLi : Aside0 ((iB (P ++ (be8 (8 * n)).take (8 - (k1 + 1)))).length ≤ 1000) := ⟨by
     rw [iB_length, List.length_append, List.length_take]
     have h1 := HPL.out
     have h2 : (be8 (8 * n)).length = 8 := rfl
     omega⟩
    clear HI
    go_wp2_with (first | ((with_reducible refine gate_builtin (b := .append) (xs := #[.tmp 33, .tmp 43]) rfl ?_); at_builtin; refine Kd.R_append (Kd.int .u8) (w0 := wc) wc.heap.size rfl (.tmp 33) (.tmp 43) 54 5 (.int .u8 0) 1 rfl Tryd.underlying54 (by kernel_rfl) rfl (by decide) (by decide) u4 (iB (P ++ (be8 (8 * n)).take (8 - (k1 + 1)))) ((n : Int) * 8 / 2 ^ (8 * k1) % 256) [.int .u8 ((n : Int) * 8 / 2 ^ (8 * k1) % 256)] (fun _ => True) (fun _ => False) rfl rfl rfl (fun _ hk => hk.elim) (fun _ _ => trivial) HRi.out HBi.out HBi.out.size (by have := HLi.out; omega) ?_; intro v44 w44 hr44 hb44 hg44 hat44; have HR44 := sqA hr44; have HB44 := sqA hb44; clear hr44 hb44 hg44 hat44))
    go_roundg k1
    case measure => omega
    case rel =>
     refine ⟨by first | rfl | (simp; done), ⟨by omega⟩, ⟨?_⟩, HB44⟩
     rw [be8_take _ k1 (by omega), ← List.append_assoc, iB_append]
     have : iB [by8 (8 * n) k1] = [(n : Int) * 8 / 2 ^ (8 * k1) % 256] := by
      show [((by8 (8 * n) k1).toNat : Int)] = _
      rw [by8_int]
     rw [this]
     exact HR44.out
end Go.Proofs.YtifpomknkjegeaaDoor.Sha
namespace Go.Proofs.YtifpomknkjegeaaDoor.Sha
open Go.RowKit Go.Proofs.YtifpomknkjegeaaDoor.PAll Go.Proofs.YtifpomknkjegeaaDoorW.PrintWords Go.Proofs.YtifpomknkjegeaaDoorW.PrintLast Go.Proofs.YtifpomknkjegeaaDoorW.PrintMore SG
set_option linter.unusedVariables false
set_option linter.unusedSimpArgs false
def shaF (l : List UInt8) : List UInt8 := sumF (blks F0 l (l.length / 64)) (l.drop (64 * (l.length / 64))) l.length
theorem sumF_len (s : H8) (wt : List UInt8) (n : Nat) : (sumF s wt n).length = 32 := by
 unfold sumF
 rw [flat4_len]
 rfl
theorem shaF_len (l : List UInt8) : (shaF l).length = 32 := sumF_len _ _ _
set_option maxHeartbeats 4000000 in
set_option maxRecDepth 100000 in
theorem shaSum (t : ByteArray) (w : World) (hT : Tab w) (hl : t.size ≤ 1000000) : Calls Tryd.prog 38 #[.string t] w fun e w' => e = .returned (.string (mk (shaF t.toList))) ∧ Below w.heap.size w w' := by
 have HT := sqA hT
 clear hT
 have htl := toList_length t
 have HTL := sqA htl
 clear htl
 go_enter Tryd.func38, Tryd.ntmps38
 go_wp2_with (first | ((with_reducible refine gate_callee (f := 52) rfl ?_); refine goesL_ (some 4) rfl rfl Tryd.func52 (by kernel_rfl) rfl #[] rfl sqm ?_; (with_reducible refine (new_walk _ HT.out).mono ?_); rintro e w1 ⟨g, rfl, hs, hg, hb⟩; refine ⟨_, rfl, ?_⟩; have HS1 := sqA hs; have HGE := sqA hg; have HB1 := sqA hb; clear hs hg hb) | ((with_reducible refine gate_callee (f := 53) rfl ?_); refine goesL_ (some 7) rfl rfl Tryd.func53 (by kernel_rfl) rfl #[.pointer (some ⟨g, 0, none⟩), .string t] rfl sqm ?_; (with_reducible refine (write_walk F0 g [] 0 t _ HS1.out (HT.out.below HB1.out) (by simp; omega) (by omega)).mono ?_); rintro e w2 ⟨rfl, hs, hb, _⟩; refine ⟨_, rfl, ?_⟩; rw [List.nil_append, Nat.zero_add] at hs; have HS2 := sqA hs; have HB2 : Aside0 (Below w.heap.size w w2) := ⟨HB1.out.trans (hb.mono HGE.out)⟩; clear hs hb) | ((with_reducible refine gate_callee (f := 54) rfl ?_); refine goesL_ (some 9) rfl rfl Tryd.func54 (by kernel_rfl) rfl #[.pointer (some ⟨g, 0, none⟩)] rfl sqm ?_; (with_reducible refine (sum_walk _ g _ t.size _ HS2.out (HT.out.below HB2.out) (by rw [List.length_drop]; omega) (by omega)).mono ?_); rintro e w3 ⟨rfl, hb⟩; refine ⟨_, rfl, ?_⟩; have HB3 := sqA (below_step HB2.out hb); clear hb))
 go_ret
 refine ⟨?_, HB3.out⟩
 show Ending.returned (Value.string (mk (sumF (blks F0 t.toList (t.toList.length / 64)) (t.toList.drop (64 * (t.toList.length / 64))) t.size))) = _
 unfold shaF
 rw [HTL.out]
set_option maxHeartbeats 4000000 in
set_option maxRecDepth 100000 in
theorem digest (t : ByteArray) (w : World) (hT : Tab w) (hl : t.size ≤ 1000000) : Calls Tryd.prog 18 #[.string t] w fun e w' => e = .returned (.string (mk (shaF t.toList))) ∧ Below w.heap.size w w' := by
 have HT := sqA hT
 clear hT
 go_enter Tryd.func18, Tryd.ntmps18
 go_wp2_with (first | ((with_reducible refine gate_callee (f := 38) rfl ?_); refine goesL_ (some 4) rfl rfl Tryd.func38 (by kernel_rfl) rfl #[.string t] rfl sqm ?_; (with_reducible refine (shaSum t _ HT.out hl).mono ?_); rintro e w1 ⟨rfl, hb⟩; refine ⟨_, rfl, ?_⟩; have HB1 := sqA hb; clear hb))
 go_ret
 exact ⟨rfl, HB1.out⟩
end Go.Proofs.YtifpomknkjegeaaDoor.Sha
