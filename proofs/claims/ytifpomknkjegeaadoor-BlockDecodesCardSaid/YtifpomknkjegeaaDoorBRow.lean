import Derived.Test.YtifpomknkjegeaaDoorWords
namespace Go.Proofs.YtifpomknkjegeaaDoor.BRow
open Go.RowKit Go.Proofs.YtifpomknkjegeaaDoorW.PrintWords
def BR (e : Nat) (W : World) (base : Nat) (v : Value) (xs : List Int) : Prop :=
 ∃ g cap cur fr, v = .slice (some ⟨g, 0, none⟩) xs.length cap ∧ base ≤ g ∧ W.heap[g]? = some (.cells cur e fr) ∧ xs.length ≤ cap ∧ xs.length ≤ 9223372036854775807 ∧ cur.size = cap ∧ cap ≤ fr.1 ∧ cur.toList.take xs.length = nums .u8 xs
section
variable {e : Nat} {W W1 : World} {base : Nat} {v : Value} {xs : List Int}
theorem BR_lower {b : Nat} (h : BR e W base v xs) (hb : b ≤ base) : BR e W b v xs := by
 obtain ⟨g, cap, cur, fr, h1, h2, h3⟩ := h
 exact ⟨g, cap, cur, fr, h1, Nat.le_trans hb h2, h3⟩
theorem BR_below (h : BR e W base v xs) (hb : Below W.heap.size W W1) : BR e W1 base v xs := by
 obtain ⟨g, cap, cur, fr, h1, h2, h3, h4⟩ := h
 exact ⟨g, cap, cur, fr, h1, h2, (hb.block g (blk_lt h3)).trans h3, h4⟩
theorem BR_alloc (h : BR e W base v xs) (o : Obj) : BR e (W.alloc o) base v xs := BR_below h (below_alloc (Below.refl _ _) o)
theorem BR_drew (h : BR e W base v xs) : BR e W.drew base v xs := BR_below h (below_drew (Below.refl _ _))
theorem BR_drewN (h : BR e W base v xs) (m : Nat) : BR e (W.drewN m) base v xs := BR_below h (pw_below_drewN (Below.refl _ _) m)
theorem BR_slice (h : BR e W base v xs) : ∃ A c, v = .slice A xs.length c := by
 obtain ⟨g, cap, cur, fr, h1, _⟩ := h
 exact ⟨_, _, h1⟩
theorem BR_get {g cap n : Nat} (h : BR e W base (.slice (some ⟨g, 0, none⟩) n cap) xs) (i : Nat) (hi : i < n) :
  ∃ cur fr, W.heap[g]? = some (.cells cur e fr) ∧ cur[i]? = some (.int .u8 (xs.getD i 0)) ∧ i < fr.1 ∧ n = xs.length := by
 obtain ⟨g', cap', cur, fr, h1, h2, h3, h4, h5, h6, h7, h8⟩ := h
 injection h1 with ha hb hc
 injection ha with ha
 injection ha with ha
 subst ha hb
 refine ⟨cur, fr, h3, ?_, by omega, rfl⟩
 have hl : cur.toList[i]? = (nums .u8 xs)[i]? := by
  rw [← h8, List.getElem?_take, if_pos hi]
 rw [Array.getElem?_toList] at hl
 rw [hl]
 simp [nums, List.getElem?_eq_getElem hi, List.getD_eq_getElem?_getD]
theorem BR_reads' {A : Option Addr} {n c : Nat} (h : BR e W base (.slice A n c) xs) : n = xs.length ∧ n ≤ c ∧ Kd.C (Kd.int .u8) W A xs.length xs := by
 obtain ⟨g, cap, cur, fr, h1, h2, h3, h4, h5, h6⟩ := id h
 injection h1 with ha hb hc
 subst ha hb hc
 refine ⟨rfl, h4, Kd.C_of_reads (d := (0 : Int)) (h1 := fun _ => rfl) ⟨rfl, h5, fun _ => ⟨_, rfl, fun j hj => ?_⟩⟩⟩
 obtain ⟨cur, fr, k1, k2, _⟩ := BR_get h j hj
 rw [add_plain, cell_of_row W g j cur e fr k1]
 exact k2
theorem BR_form (h : BR e W base v xs) (_hp : 0 < xs.length) : ∃ g cap, v = .slice (some ⟨g, 0, none⟩) xs.length cap ∧ base ≤ g ∧ g < W.heap.size ∧ ∃ cells fr, W.heap[g]? = some (.cells cells e fr) := by
 obtain ⟨g, cap, cur, fr, h1, h2, h3, _⟩ := h
 exact ⟨g, cap, h1, h2, blk_lt h3, cur, fr, h3⟩
theorem BR_celln {g cap n : Nat} (h : BR e W base (.slice (some ⟨g, 0, none⟩) n cap) xs) (i : Int) (h0 : 0 ≤ i) (hi : i < n) :
  W.cell? ⟨g, i.toNat, none⟩ = some (.int .u8 (rd xs i)) ∧ W.frozen? ⟨g, i.toNat, none⟩ = false := by
 obtain ⟨cur, fr, k1, k2, k3, _⟩ := BR_get h i.toNat (by omega)
 refine ⟨by rw [cell_of_row W g i.toNat cur e fr k1]; exact k2, ?_⟩
 obtain ⟨lo, hi'⟩ := fr
 have h3 : ¬ lo ≤ i.toNat := by have : i.toNat < lo := k3; omega
 simp [World.frozen?, k1, h3]
theorem modify_at {α : Type} (xs : Array α) (f : α → α) (i : Nat) (x : α) (h : xs[i]? = some x) : (xs.modify i f)[i]? = some (f x) := by
 obtain ⟨hl, h3⟩ := Array.getElem?_eq_some_iff.1 h
 rw [Array.getElem?_eq_getElem (by simpa using hl), Array.getElem_modify_self, h3]
theorem grownBy_set (W : World) (p : Addr) (u : Value) : W.grownBy (W.setCell p u) (some p.block) :=
 ⟨rfl, rfl, rfl, by simp [World.setCell], fun k _ hne => by
  have : p.block ≠ k := fun e => hne (by rw [e])
  simp [World.setCell, Array.getElem?_modify, this]⟩
theorem BR_putg {g cap n : Nat} (h : BR e W base (.slice (some ⟨g, 0, none⟩) n cap) xs) (i : Int) (x : Int) :
  BR e (W.setCell ⟨g, i.toNat, none⟩ (.int .u8 x)) base (.slice (some ⟨g, 0, none⟩) n cap) (xs.set i.toNat x) ∧ W.grownBy (W.setCell ⟨g, i.toNat, none⟩ (.int .u8 x)) (some g) := by
 refine ⟨?_, grownBy_set W ⟨g, i.toNat, none⟩ (.int .u8 x)⟩
 obtain ⟨g', cap', cur, fr, h1, h2, h3, h4, h5, h6, h7, h8⟩ := h
 injection h1 with ha hb hc
 injection ha with ha
 injection ha with ha
 subst ha hb hc
 refine ⟨g, cap, cur.setIfInBounds i.toNat (.int .u8 x), fr, by rw [List.length_set], h2, ?_, by rw [List.length_set]; exact h4, by rw [List.length_set]; exact h5, by simpa using h6, h7, ?_⟩
 ·
  show (W.heap.modify g _)[g]? = _
  rw [modify_at _ _ _ _ h3]
  rfl
 ·
  rw [List.length_set, Array.toList_setIfInBounds, List.take_set, h8]
  simp [nums, List.map_set]
theorem BR_string {P : Program} {src dst : TypeId} (hs : P.underlying src = some (.slice e)) (he : P.underlying e = some (.int .u8)) (hd : P.underlying dst = some .string) (h : BR e W base v xs) :
  (convert src dst v).run P W = .ok (.string (strOfNums xs)) W := by
 obtain ⟨g, cap, cur, fr, h1, h2⟩ := id h
 subst h1
 refine run_convert_bytes_arg W src e hs he g 0 _ cap xs rfl (fun i hi => ?_) dst hd
 obtain ⟨cur, fr, k1, k2, _⟩ := BR_get h i hi
 rw [cell_of_row W g (0 + i) cur e fr k1, Nat.zero_add]
 exact k2
end
section
variable {P : Program} {ops : Array Oper} {rest : List Oper} {o : Oper} {a : Act} {Q : Exit → Act → World → Prop}
theorem BR_conv {w0 W : World} (base e : Nat) (hgd : o.guard = none) {N : Tmp} (_hd : o.dst = some N) (src dst : TypeId) (x : Operand) (ho : o.op = .convert src dst x) (s : ByteArray) (hx : a.eval x = .string s)
  (hs : P.underlying src = some .string) (ht : P.underlying dst = some (.slice e)) (he : P.underlying e = some (.int .u8)) (hl : s.size ≤ 9223372036854775807) (HB : Below base w0 W) (hbase : base ≤ W.heap.size)
  (h : ∀ v1 w1, BR e w1 base v1 (bytesOf s) → Below base w0 w1 → W.grownBy w1 none → (∃ b, v1.ownBlock = some b ∧ W.heap.size ≤ b) → wpList P ops Q rest (a.put o.dst v1) w1) : wpList P ops Q (o :: rest) a W := by
 have hrun : (execOp a.eval o).run P W = .ok (.value (.slice (some ⟨W.heap.size, 0, none⟩) s.size (grownCap W s.size 0 e))) (Lib.bytesWorld W e s) := by
  simp only [execOp, ho]
  rw [hx]
  simp only [Sem.run_bind, Lib.run_convert_string_bytes W src dst e s hs ht he, Result.andThen_ok]
  rfl
 have hb : Below W.heap.size W (Lib.bytesWorld W e s) := bytes_below (Below.refl _ _) (Nat.le_refl _) e s
 have hcap : s.size ≤ grownCap W s.size 0 e := grownCap_ge W s.size 0 e
 refine Kd.event_run hgd hrun (h _ _ ?_ (HB.trans (hb.mono hbase)) (grown_of_below hb none) ⟨W.heap.size, by simp [Value.ownBlock], Nat.le_refl _⟩)
 have hsz : (Lib.bytesCells W e s).size = grownCap W s.size 0 e := by
  have : s.data.size = s.size := rfl
  simp [Lib.bytesCells, this]
  omega
 refine ⟨W.heap.size, grownCap W s.size 0 e, Lib.bytesCells W e s, _, by rw [bytesOf_length], hbase, Lib.bytesWorld_at_new W e s, by rw [bytesOf_length]; exact hcap, by rw [bytesOf_length]; exact hl, hsz, by rw [hsz]; exact Nat.le_refl _, ?_⟩
 rw [bytesOf_length]
 have hd : (Lib.bytesCells W e s).toList = nums .u8 (bytesOf s) ++ (Array.replicate (grownCap W s.size 0 e - s.size) (Value.int .u8 0)).toList := by
  simp [Lib.bytesCells, nums, bytesOf]
 rw [hd]
 exact List.take_left' (by simp [nums, bytesOf_length])
end
end Go.Proofs.YtifpomknkjegeaaDoor.BRow
