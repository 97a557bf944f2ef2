/- The contracts of the log and of its reference, for every input: MapA, DiA, DiB, DiC, DiD, DiE, DiF, DiG, DiH, DiI, DiJ, DiK, DiL, DiArg, DiM, DiN, DiO, DiP, DiQ; no condition. -/
import Derived.Test.YtbihlbalmihbdaaDiBase
import Derived.Test.YtbihlbalmihbdaaPAllx24
import Derived.Maps.OwnSet
import Derived.DeepKeys4
import Derived.Deep.RegionHeld
import Derived.Deep.RegionLaw
import Derived.Test.YtbihlbalmihbdaaPAllx18
import Derived.Test.YtbihlbalmihbdaaPAllx34
import Derived.Test.YtbihlbalmihbdaaPAllx2
import Derived.Test.YtbihlbalmihbdaaPAllx23
import Derived.Test.YtbihlbalmihbdaaPAllx39
import Derived.StillTailTactics
import Derived.OpenShut
import Derived.ProofKit
import Derived.Test.YtbihlbalmihbdaaPAllx3
import Derived.Test.YtbihlbalmihbdaaPAllx43
import Derived.Test.YtbihlbalmihbdaaPAllx41
namespace Go.Proofs.Ytbihlbalmihbdaa.Di
open Go.RowKit Go.Proofs.Ytbihlbalmihbdaa.PAll Go.Proofs.YtbihlbalmihbdaaW.PrintWords Go.Proofs.YtbihlbalmihbdaaW.PrintLast Go.Proofs.YtbihlbalmihbdaaW.PrintMore SG Go.Proofs.Ytbihlbalmihbdaa.Fun Go.Proofs.Ytbihlbalmihbdaa.Wal
set_option linter.unusedVariables false
set_option linter.unusedSimpArgs false

/-- A word's cells, and its place as a key. -/
def cT (t : S31) : Array Value := #[.int .i64 t.f0, .int .i64 t.f1.f0, .int .i64 t.f1.f1, .int .i64 t.f1.f2, .int .i64 t.f1.f3, .string t.f1.f4]
def ky (t : S31) : Value := .agg #[.int .i64 t.f0, .int .i64 t.f1.f0, .int .i64 t.f1.f1, .int .i64 t.f1.f2]
/-- The numbers of the place are such. -/
def wfT (t : S31) : Prop := (Lit.int .i64 t.f0).wf = true ∧ (Lit.int .i64 t.f1.f0).wf = true ∧ (Lit.int .i64 t.f1.f1).wf = true ∧ (Lit.int .i64 t.f1.f2).wf = true
/-- Of one place. -/
def pl (t u : S31) : Bool := t.f0 == u.f0 && t.f1.f0 == u.f1.f0 && t.f1.f1 == u.f1.f1 && t.f1.f2 == u.f1.f2
theorem ky_eq {t u : S31} : ky t = ky u ↔ pl t u = true := by
  simp [ky, pl, and_assoc]

theorem laid44 : laidOutB Try.prog = true := by kernel_rfl
theorem law59 : WideMaps.KeyLaw Try.prog 59 := deep_law_laid laid44 (m := 2) (by omega) (of_decide_eq_true (by kernel_rfl)) (by kernel_rfl) (by kernel_rfl)
theorem keyed59 : Go.Maps.Keyed Try.prog 59 := Go.Maps.Keyed.of_law law59
theorem size44 : ∃ m, Try.prog.types.size = m + 1 := ⟨Try.prog.types.size - 1, by have h : 0 < Try.prog.types.size := of_decide_eq_true (by kernel_rfl); omega⟩
theorem cells59 : Try.prog.cellsOf 59 = 4 := by kernel_rfl
theorem cells3 : Try.prog.cellsOf 3 = 1 := by kernel_rfl
theorem hkey {t : S31} (h : wfT t) : ∃ l, keyOf Try.prog 59 (ky t) = some l := by
  obtain ⟨h0, h1, h2, h3⟩ := h
  have hu := Try.underlying59
  have hu3 := Try.underlying3
  have e1 : Try.prog.keyType 59 = true := by kernel_rfl
  have e2 : (ky t).formed Try.prog 59 = true := by
    simp [ky, Value.formed, hu, cells59]
  obtain ⟨m, hm⟩ := size44
  have e3 : ∃ ls, Try.prog.keyLits (m + 1 + 1) 59 (ky t).cells.toList = some ls := by
    simp [Program.keyLits, hu, hu3, ky, Value.cells, cells59, cells3, h0, h1, h2, h3]
  obtain ⟨ls, e3⟩ := e3
  unfold keyOf
  rw [hu]
  simp only [e1, e2, hm, e3]
  exact ⟨_, rfl⟩

/-- A map that holds the words F, each at its place. -/
def MP (w : World) (m : Nat) (F : List S31) : Prop := ∃ es clock, w.heap[m]? = some (.map es clock) ∧ es.toList.map (fun e => (e.key, e.val)) = F.map (fun t => (ky t, Value.agg (cT t)))
theorem MP.below {w w' : World} {m : Nat} {F : List S31} (h : MP w m F) (hb : Below w.heap.size w w') : MP w' m F := by
  obtain ⟨es, clock, h1, h2⟩ := h
  exact ⟨es, clock, blk_below h1 hb, h2⟩
theorem MP.kept {w w' : World} {m : Nat} {F : List S31} {S : Nat → Prop} (h : MP w m F) (hk : Kept w w' S) (hS : ¬ S m) : MP w' m F := by
  obtain ⟨es, clock, h1, h2⟩ := h
  exact ⟨es, clock, blk_kept h1 hk hS, h2⟩
theorem MP.keys {es : Array MapEntry} {F : List S31} (h : es.toList.map (fun e => (e.key, e.val)) = F.map (fun t => (ky t, Value.agg (cT t)))) (hF : ∀ t ∈ F, wfT t) : ∀ e ∈ es.toList, ∃ l, keyOf Try.prog 59 e.key = some l := by
  intro e he
  have h1 : (e.key, e.val) ∈ es.toList.map (fun e => (e.key, e.val)) := List.mem_map_of_mem he
  rw [h] at h1
  obtain ⟨t, ht, h2⟩ := List.mem_map.1 h1
  obtain ⟨l, hl⟩ := hkey (hF t ht)
  injection h2 with h3 h4
  exact ⟨l, by rw [← h3]; exact hl⟩

theorem pl_comm {t u : S31} (h : pl t u = true) : pl u t = true := ky_eq.1 (ky_eq.2 h).symm
theorem uniq {F : List S31} (hd : F.Pairwise (fun a b => pl a b = false)) {u v : S31} (hu : u ∈ F) (hv : v ∈ F) (h : pl u v = true) : u = v := by
  induction F with
  | nil => cases hu
  | cons x r ih =>
    rw [List.pairwise_cons] at hd
    rcases List.mem_cons.1 hu with e1 | hu1
    · rcases List.mem_cons.1 hv with e2 | hv1
      · rw [e1, e2]
      · rw [e1, hd.1 v hv1] at h
        cases h
    · rcases List.mem_cons.1 hv with e2 | hv1
      · have := hd.1 u hu1
        rw [← e2, pl_comm h] at this
        cases this
      · exact ih hd.2 hu1 hv1
/-- The word of a place, if there is one. -/
def at_ (F : List S31) (t : S31) : Option S31 := F.find? (fun u => pl t u)
theorem run_find {w : World} {es : Array MapEntry} {F : List S31} (h : es.toList.map (fun e => (e.key, e.val)) = F.map (fun t => (ky t, Value.agg (cT t)))) (hF : ∀ t ∈ F, wfT t) (hd : F.Pairwise (fun a b => pl a b = false)) {t : S31} (ht : wfT t) :
    match at_ F t with
    | none => (Instr.findKey 59 (ky t) es.toList).run Try.prog w = .ok none w
    | some u => ∃ j, (Instr.findKey 59 (ky t) es.toList).run Try.prog w = .ok (some (j, .agg (cT u))) w := by
  obtain ⟨lx, hl⟩ := hkey ht
  have mem : ∀ {e : MapEntry}, e ∈ es.toList → ∃ u ∈ F, e.key = ky u ∧ e.val = .agg (cT u) := by
    intro e he
    have h1 : (e.key, e.val) ∈ es.toList.map (fun e => (e.key, e.val)) := List.mem_map_of_mem he
    rw [h] at h1
    obtain ⟨u, hu, h2⟩ := List.mem_map.1 h1
    injection h2 with h3 h4
    exact ⟨u, hu, h3.symm, h4.symm⟩
  have mem2 : ∀ {u : S31}, u ∈ F → ∃ e ∈ es.toList, e.key = ky u := by
    intro u hu
    have h1 : (ky u, Value.agg (cT u)) ∈ F.map (fun t => (ky t, Value.agg (cT t))) := List.mem_map_of_mem hu
    rw [← h] at h1
    obtain ⟨e, he, h2⟩ := List.mem_map.1 h1
    injection h2 with h3 h4
    exact ⟨e, he, h3⟩
  rcases law59.find w hl es.toList (MP.keys h hF) with ⟨hr, hn⟩ | ⟨j, e, hr, hj, he⟩
  · have hnone : at_ F t = none := by
      unfold at_
      rw [List.find?_eq_none]
      intro u hu hp
      obtain ⟨e, he, h3⟩ := mem2 hu
      exact hn e he (h3.trans (ky_eq.2 hp).symm)
    rw [hnone]
    exact hr
  · obtain ⟨u, hu, h3, h4⟩ := mem (List.mem_of_getElem? hj)
    have hp : pl t u = true := ky_eq.1 (he.symm.trans h3)
    have hsome : at_ F t = some u := by
      unfold at_
      cases hf : F.find? (fun u => pl t u) with
      | none => exact absurd hp (List.find?_eq_none.1 hf u hu)
      | some v =>
        have hv := List.find?_some hf
        have hvm := List.mem_of_find?_eq_some hf
        have huv : ky u = ky v := (ky_eq.2 hp).symm.trans (ky_eq.2 hv)
        rw [uniq hd hu hvm (ky_eq.1 huv)]
    rw [hsome]
    exact ⟨j, by rw [hr, h4]⟩

/-- A look-up that tells whether it is there. -/
theorem run_look {w : World} {m : Nat} {F : List S31} (h : MP w m F) (hF : ∀ t ∈ F, wfT t) (hd : F.Pairwise (fun a b => pl a b = false)) {t : S31} (ht : wfT t) :
    (Instr.lookup 47 (.map (some m)) (ky t) true).run Try.prog w = .ok (.tuple #[.agg (cT ((at_ F t).getD z31)), .bool (at_ F t).isSome]) w := by
  obtain ⟨es, clock, h1, h2⟩ := h
  obtain ⟨lx, hl⟩ := hkey ht
  have hc := law59.check w es.isEmpty hl
  have hf := run_find (w := w) h2 hF hd ht
  have hz : (zeroValue 31).run Try.prog w = .ok (.agg (cT z31)) w := by kernel_rfl
  cases hat : at_ F t with
  | none =>
    rw [hat] at hf
    simp only at hf
    simp only [Instr.lookup, Sem.run_bind, run_underlying Try.underlying47, Result.andThen_ok, Go.MapKept.run_getObj_map h1, Sem.run_pure, hc, hf, hz]
    rfl
  | some u =>
    rw [hat] at hf
    obtain ⟨j, hf⟩ := hf
    simp only [Instr.lookup, Sem.run_bind, run_underlying Try.underlying47, Result.andThen_ok, Go.MapKept.run_getObj_map h1, Sem.run_pure, hc, hf]
    rfl
/-- A word is put where there was none. -/
def mapW (w : World) (m : Nat) (o : Obj) : World := { w with heap := w.heap.setIfInBounds m o }
theorem run_put {w : World} {m : Nat} {F : List S31} (h : MP w m F) (hF : ∀ t ∈ F, wfT t) (hd : F.Pairwise (fun a b => pl a b = false)) {t : S31} (ht : wfT t) (hn : at_ F t = none) :
    ∃ o, (Instr.mapUpdate 47 (.map (some m)) (ky t) (.agg (cT t))).run Try.prog w = .ok () (mapW w m o) ∧ MP (mapW w m o) m (F ++ [t]) := by
  obtain ⟨es, clock, h1, h2⟩ := h
  obtain ⟨lx, hl⟩ := hkey ht
  have hc := law59.check w false hl
  have hf := run_find (w := w) h2 hF hd ht
  rw [hn] at hf
  simp only at hf
  refine ⟨.map (es.push ⟨ky t, .agg (cT t), clock⟩) (clock + 1), ?_, es.push ⟨ky t, .agg (cT t), clock⟩, clock + 1, ?_, ?_⟩
  · simp only [Instr.mapUpdate, Sem.run_bind, run_underlying Try.underlying47, Result.andThen_ok, Go.MapKept.run_getObj_map h1, Sem.run_pure, hc, hf, Go.MapKept.run_setObj_map _ h1]
    rfl
  · have hlt := blk_lt h1
    show (w.heap.setIfInBounds m _)[m]? = _
    simp [hlt]
  · rw [Array.toList_push, List.map_append, h2, List.map_append]
    rfl
end Go.Proofs.Ytbihlbalmihbdaa.Di
namespace Go.Proofs.Ytbihlbalmihbdaa.Di
open Go.RowKit Go.Proofs.Ytbihlbalmihbdaa.PAll Go.Proofs.YtbihlbalmihbdaaW.PrintWords Go.Proofs.YtbihlbalmihbdaaW.PrintLast Go.Proofs.YtbihlbalmihbdaaW.PrintMore SG Go.Proofs.Ytbihlbalmihbdaa.Fun Go.Proofs.Ytbihlbalmihbdaa.Wal
set_option linter.unusedVariables false
set_option linter.unusedSimpArgs false

/-- A block that may be a log's. -/
def TLg (w : World) (k : Nat) : Prop := ∃ cells q, w.heap[k]? = some (.cells cells q (0, 0)) ∧ (q = 5 ∨ q = 86 ∨ q = 67 ∨ q = 9)
/-- A block that may be a diary's: by its type, or one that is ok. -/
def TD (ok : Nat → Prop) (w : World) (k : Nat) : Prop := (∃ cells q, w.heap[k]? = some (.cells cells q (0, 0)) ∧ (q = 5 ∨ q = 86 ∨ q = 67 ∨ q = 9 ∨ q = 51)) ∨ (∃ es c, w.heap[k]? = some (.map es c)) ∨ ok k
theorem TD.of_log {ok : Nat → Prop} {w : World} {k : Nat} (h : TLg w k) : TD ok w k := by
  obtain ⟨cells, q, hc, hq⟩ := h
  exact .inl ⟨cells, q, hc, by rcases hq with h | h | h | h <;> simp [h]⟩

theorem wl_narrow {w : World} {B : Nat} {ok ok' : Nat → Prop} {a : Nat} {b : List Int} {sy : Int} {all : List ByteArray} {sure : Int} (L : Wl w B ok a b sy all sure) (h : ∀ k, ok k → k < w.heap.size → (∃ cells, w.heap[k]? = some (.cells cells 9 (0, 0))) → ok' k) : Wl w B ok' a b sy all sure := by
  obtain ⟨hB, d, v, ha, hr, D⟩ := L
  refine ⟨hB, d, v, ha, Kd.R_mono (Kd.R_bound hr) (fun k hk => ?_), D⟩
  obtain ⟨h1, _, h3, q, hq, cells, hc⟩ := hk
  have hq9 : q = 9 := by simpa [Kd.string, Kd.scalar] using hq
  subst hq9
  exact h k h1 h3 ⟨cells, hc⟩
/-- A log, whatever its row's block. -/
def Lg (w : World) (B a : Nat) (recs : List By) (sure : Nat) : Prop := Wq w B (fun _ => True) a recs sure
theorem Lg.step {w : World} {B a : Nat} {recs : List By} {sure : Nat} (L : Lg w B a recs sure) : Wq w B (fun k => (∃ cells, w.heap[k]? = some (.cells cells 9 (0, 0))) ∨ w.heap.size ≤ k) a recs sure :=
  ⟨L.1, L.2.1, L.2.2.1, wl_narrow L.2.2.2 (fun k _ _ h => .inl h)⟩
theorem Lg.of {w : World} {B a : Nat} {ok : Nat → Prop} {recs : List By} {sure : Nat} (L : Wq w B ok a recs sure) : Lg w B a recs sure := ⟨L.1, L.2.1, L.2.2.1, wl_narrow L.2.2.2 (fun _ _ _ _ => trivial)⟩
theorem Lg.lower {w : World} {B B' a : Nat} {recs : List By} {sure : Nat} (L : Lg w B a recs sure) (hb : B' ≤ B) : Lg w B' a recs sure := by
  obtain ⟨l1, l2, l3, h1, d, v, ha, hr, ⟨h2, v2, hd, hr2⟩⟩ := L
  exact ⟨l1, l2, l3, Nat.le_trans hb h1, d, v, ha, Kd.R_lower hr hb, Nat.le_trans hb h2, v2, hd, Kd.R_lower hr2 hb⟩
theorem Lg.below {w w' : World} {B a : Nat} {recs : List By} {sure : Nat} (L : Lg w B a recs sure) (hb : Below w.heap.size w w') : Lg w' B a recs sure := Wq.below L hb
/-- A log stays where another struct's block is written. -/
theorem lg_kept {w w' : World} {B a t : Nat} {recs : List By} {sure : Nat} {S : Nat → Prop} (L : Lg w B a recs sure) (hk : Kept w w' S) (hS : ∀ k, S k → ∃ c, w.heap[k]? = some (.cells c t (0, 0))) (ht : t ≠ 5 ∧ t ≠ 86 ∧ t ≠ 67 ∧ t ≠ 9 := by decide) : Lg w' B a recs sure := by
  obtain ⟨l1, l2, l3, h1, d, v, ha, hr, D⟩ := L
  have no : ∀ (k q : Nat) (c : Array Value), w.heap[k]? = some (.cells c q (0, 0)) → q ≠ t → ¬ S k := by
    intro k q c hc hq hs
    obtain ⟨c', hc'⟩ := hS k hs
    rw [hc] at hc'
    injection hc' with hc'
    injection hc' with _ hc'
    exact hq hc'
  refine ⟨l1, l2, l3, h1, d, v, blk_kept ha hk (no _ _ _ ha (Ne.symm ht.2.2.1)), ?_, D.kept hk (fun k hs => ?_)⟩
  · refine Kd.R_mono (Kd.R_move (Kd.R_bound hr) (fun k h => ?_)) (fun _ h => h.1)
    obtain ⟨_, _, hlt, q, hq, cells, hc⟩ := h
    have hq9 : q = 9 := by simpa [Kd.string, Kd.scalar] using hq
    subst hq9
    exact hk.2 k hlt (no _ _ _ hc (Ne.symm ht.2.2.2))
  · rintro ⟨c, q, hc, hq⟩
    exact no _ _ _ hc (by rcases hq with h | h <;> (subst h; first | exact Ne.symm ht.1 | exact Ne.symm ht.2.1)) hs
theorem kept_lg {w w' : World} (h : Kept w w' (TW (fun k => (∃ cells, w.heap[k]? = some (.cells cells 9 (0, 0))) ∨ w.heap.size ≤ k) w)) : Kept w w' (TLg w) := by
  refine ⟨h.1, fun i hi hn => h.2 i hi ?_⟩
  rintro (⟨cells, q, hc, hq⟩ | ⟨cells, hc⟩ | hk)
  · exact hn ⟨cells, q, hc, by rcases hq with h | h | h <;> simp [h]⟩
  · exact hn ⟨cells, 9, hc, by simp⟩
  · omega
theorem LSync {w : World} {B a : Nat} {recs : List By} {sure : Nat} (L : Lg w B a recs sure) (hBw : B ≤ w.heap.size) : Calls Try.prog 19 #[.pointer (some ⟨a, 0, none⟩)] w fun e w' => e = .returned (.tuple #[]) ∧ Lg w' B a recs recs.length ∧ Below B w w' ∧ Kept w w' (TLg w) := by
  refine (QSync L.step hBw).mono ?_
  rintro e w' ⟨rfl, h1, h2, h3⟩
  exact ⟨rfl, Lg.of h1, h2, kept_lg h3⟩
theorem LCrash {w : World} {B a : Nat} {recs : List By} {sure : Nat} (L : Lg w B a recs sure) (hBw : B ≤ w.heap.size) (keep : Int) : Calls Try.prog 20 #[.pointer (some ⟨a, 0, none⟩), .int .u64 keep] w fun e w' => e = .returned (.tuple #[]) ∧ Lg w' B a (crL keep recs sure) (crL keep recs sure).length ∧ Below B w w' ∧ Kept w w' (TLg w) := by
  refine (QCrash L.step hBw (fun k hk => .inr hk) keep).mono ?_
  rintro e w' ⟨rfl, h1, h2, h3⟩
  exact ⟨rfl, Lg.of h1, h2, kept_lg h3⟩
theorem LAppend {w : World} {B a : Nat} {recs : List By} {sure : Nat} (L : Lg w B a recs sure) (hBw : B ≤ w.heap.size) (s : By) (hs : s.length ≤ 140737488351232) : Calls Try.prog 26 #[.pointer (some ⟨a, 0, none⟩), .string (mk s)] w fun e w' => e = .returned (.int .i64 (appE recs s)) ∧ Lg w' B a (appL recs s) sure ∧ Below B w w' ∧ Kept w w' (TLg w) := by
  refine (QAppend L.step hBw (fun k hk => .inr hk) s hs).mono ?_
  rintro e w' ⟨rfl, h1, h2, h3⟩
  exact ⟨rfl, Lg.of h1, h2, kept_lg h3⟩

/-- A diary at block d, its map at m, its log at a, its rows. -/
def Dx (w : World) (B d m a : Nat) (okA okW : Nat → Prop) (AV WV : Value) (first all wait : List S31) (recs : List By) (sure : Nat) : Prop :=
  B ≤ d ∧ B ≤ m ∧ B ≤ w.heap.size ∧ w.heap[d]? = some (.cells #[.map (some m), AV, WV, .pointer (some ⟨a, 0, none⟩)] 51 (0, 0)) ∧ MP w m first ∧ k31.R 31 w B okA AV all ∧ k31.R 31 w B okW WV wait ∧ (∀ k, okA k → ¬ okW k) ∧ Lg w B a recs sure
/-- A diary whose rows lie in blocks that are ok. -/
def Dy (w : World) (B : Nat) (ok : Nat → Prop) (d : Nat) (first all wait : List S31) (recs : List By) (sure : Nat) : Prop :=
  ∃ m a okA okW AV WV, Dx w B d m a okA okW AV WV first all wait recs sure ∧ (∀ k, okA k ∨ okW k → ok k)

section
variable {w w' : World} {B d m a : Nat} {ok okA okW : Nat → Prop} {AV WV : Value} {first all wait : List S31} {recs : List By} {sure : Nat}
theorem Dx.lg (h : Dx w B d m a okA okW AV WV first all wait recs sure) : Lg w B a recs sure := h.2.2.2.2.2.2.2.2
theorem Dx.size (h : Dx w B d m a okA okW AV WV first all wait recs sure) : B ≤ w.heap.size := h.2.2.1
theorem Dx.blk (h : Dx w B d m a okA okW AV WV first all wait recs sure) : w.heap[d]? = some (.cells #[.map (some m), AV, WV, .pointer (some ⟨a, 0, none⟩)] 51 (0, 0)) := h.2.2.2.1
theorem Dx.below (h : Dx w B d m a okA okW AV WV first all wait recs sure) (hb : Below w.heap.size w w') : Dx w' B d m a okA okW AV WV first all wait recs sure := by
  obtain ⟨h1, h2, h3, h4, h5, h6, h7, h8, h9⟩ := h
  exact ⟨h1, h2, Nat.le_trans h3 hb.size, blk_below h4 hb, h5.below hb, Kd.R_below h6 hb, Kd.R_below h7 hb, h8, h9.below hb⟩
theorem Dy.below (h : Dy w B ok d first all wait recs sure) (hb : Below w.heap.size w w') : Dy w' B ok d first all wait recs sure := by
  obtain ⟨m, a, okA, okW, AV, WV, hx, ho⟩ := h
  exact ⟨m, a, okA, okW, AV, WV, hx.below hb, ho⟩
theorem k31_types (q : Nat) (h : q ∈ 31 :: k31.E) : q = 31 := by
  simpa [k31, k29, Kd.iso, Kd.pair, Kd.int, Kd.string, Kd.scalar] using h
/-- A row of words stays where none of its blocks is written. -/
theorem R31_kept {v : Value} {xs : List S31} {okr S : Nat → Prop} (h : k31.R 31 w B okr v xs) (hk : Kept w w' S) (hS : ∀ k cells, okr k → k < w.heap.size → w.heap[k]? = some (.cells cells 31 (0, 0)) → ¬ S k) : k31.R 31 w' B okr v xs := by
  refine Kd.R_mono (Kd.R_move (Kd.R_bound h) (fun k h => ?_)) (fun _ h => h.1)
  obtain ⟨ho, _, hlt, q, hq, cells, hc⟩ := h
  have hq := k31_types q hq
  subst hq
  exact hk.2 k hlt (hS k cells ho hlt hc)
theorem not_lg {k q : Nat} {cells : Array Value} (h : w.heap[k]? = some (.cells cells q (0, 0))) (h1 : q ≠ 5) (h2 : q ≠ 86) (h3 : q ≠ 67) (h4 : q ≠ 9) : ¬ TLg w k := by
  rintro ⟨c, p, hc, hp⟩
  rw [h] at hc
  injection hc with hc
  injection hc with _ hc
  subst hc
  rcases hp with e | e | e | e
  · exact h1 e
  · exact h2 e
  · exact h3 e
  · exact h4 e
/-- What the log does, behind it. -/
theorem Dx.log (h : Dx w B d m a okA okW AV WV first all wait recs sure) {recs' : List By} {sure' : Nat} (hL : Lg w' B a recs' sure') (hb : Below B w w') (hk : Kept w w' (TLg w)) : Dx w' B d m a okA okW AV WV first all wait recs' sure' := by
  obtain ⟨h1, h2, h3, h4, h5, h6, h7, h8, h9⟩ := h
  refine ⟨h1, h2, Nat.le_trans h3 hb.size, blk_kept h4 hk (not_lg h4 (by decide) (by decide) (by decide) (by decide)), h5.kept hk ?_, R31_kept h6 hk (fun k cells _ _ hc => not_lg hc (by decide) (by decide) (by decide) (by decide)), R31_kept h7 hk (fun k cells _ _ hc => not_lg hc (by decide) (by decide) (by decide) (by decide)), h8, hL⟩
  rintro ⟨c, p, hc, hp⟩
  obtain ⟨es, clock, hm, _⟩ := h5
  rw [hm] at hc
  injection hc with hc
  cases hc

set_option maxHeartbeats 8000000 in
set_option maxRecDepth 100000 in
theorem DWaiting (h : Dy w B ok d first all wait recs sure) : Calls Try.prog 16 #[.pointer (some ⟨d, 0, none⟩)] w fun e w' => e = .returned (.int .i64 (wait.length : Int)) ∧ w' = w := by
  obtain ⟨m, a, okA, okW, AV, WV, ⟨h1, h2, h3, h4, h5, h6, h7, h8, h9⟩, ho⟩ := h
  obtain ⟨A, c, rfl, hl, hC⟩ := Kd.R_reads h7
  have c2 : w.cell? ⟨d, 2, none⟩ = some (.slice A wait.length c) := (blk_cell h4 2).trans rfl
  clear h4
  go_enter Try.func16, Try.ntmps16
  go_wp2
  go_ret
  exact ⟨rfl, rfl⟩

set_option maxHeartbeats 8000000 in
set_option maxRecDepth 100000 in
theorem DNew (w : World) : Calls Try.prog 9 #[] w fun e w' => ∃ d, e = .returned (.pointer (some ⟨d, 0, none⟩)) ∧ Dy w' w.heap.size (fun k => w.heap.size ≤ k) d [] [] [] [] 0 ∧ Below w.heap.size w w' := by
  have hmm := @run_makeMap Try.prog
  go_enter Try.func9, Try.ntmps9
  go_wp2_with (first | ((with_reducible refine gate_callee (f := 18) rfl ?_); refine goesL_ (some 2) rfl rfl Try.func18 (by kernel_rfl) rfl #[] rfl (by (try simp only [List.map_toArray, List.map_cons, List.map_nil]); first | done | rfl) ?_; (with_reducible refine (QNew _).mono ?_); rintro e w2 ⟨a, rfl, L, hb⟩; refine ⟨_, rfl, ?_⟩; have HL2 := Aside0.mk L; have HB2 := Aside0.mk hb; clear L hb) | ((with_reducible refine gate_dst (N := 4) rfl ?_); refine box_event ?hg (N := 4) ?hd (cs := #[.map (some w.heap.size), .slice none 0 0, .slice none 0 0, .pointer (some ⟨a, 0, none⟩)]) (t := 51) ?hr ?_; (case hd => rfl); (case hg => rfl); (case hr => first | (go_simp; done) | (go_simp; rfl)); intro d hd w3 hbox hb; have HD := Aside0.mk hd; have HX := Aside0.mk hbox; have HB3 := Aside0.mk hb; clear hd hbox hb))
  go_ret
  have hb1 := below_alloc (Below.refl w.heap.size w) (.map #[] 0)
  have hb3 := below_step hb1 (below_step HB2.out HB3.out)
  have hm : w3.heap[w.heap.size]? = some (.map #[] 0) := blk_below (blk_new w _) (below_step HB2.out HB3.out)
  refine ⟨d, rfl, ⟨w.heap.size, a, fun _ => False, fun _ => False, _, _, ⟨by rw [HD.out]; exact (below_step hb1 HB2.out).size, Nat.le_refl _, hb3.size, HX.out, ⟨#[], 0, hm, rfl⟩, Kd.R_nil _ _ _ _ _, Kd.R_nil _ _ _ _ _, fun _ h => h.elim, ?_⟩, fun _ h => (h.elim id id).elim⟩, hb3⟩
  exact ((Lg.of HL2.out).below HB3.out).lower hb1.size

set_option maxHeartbeats 8000000 in
set_option maxRecDepth 100000 in
/-- All comes out. -/
theorem DOut (h : Dy w B ok d first all wait recs sure) : Calls Try.prog 10 #[.pointer (some ⟨d, 0, none⟩)] w fun e w' => ∃ A c okW, e = .returned (.slice A wait.length c) ∧ (∀ k, okW k → ok k) ∧ k31.R 31 w' B okW (.slice A wait.length c) wait ∧ Dy w' B (fun k => ok k ∧ ¬ okW k) d first all [] recs recs.length ∧ Below B w w' ∧ Kept w w' (TD ok w) := by
  obtain ⟨m, a, okA, okW, AV, WV, hx, ho⟩ := h
  obtain ⟨A, c, rfl, hl, hC⟩ := Kd.R_reads hx.2.2.2.2.2.2.1
  have HXX := Aside0.mk hx
  have c3 : w.cell? ⟨d, 3, none⟩ = some (.pointer (some ⟨a, 0, none⟩)) := (blk_cell hx.2.2.2.1 3).trans rfl
  clear hx
  go_enter Try.func10, Try.ntmps10
  go_wp2_with (first | ((with_reducible refine gate_callee (f := 19) rfl ?_); refine goesL_ (some 10) rfl rfl Try.func19 (by kernel_rfl) rfl #[.pointer (some ⟨a, 0, none⟩)] rfl (by (try simp only [List.map_toArray, List.map_cons, List.map_nil]); first | done | rfl) ?_; (with_reducible refine (LSync HXX.out.lg HXX.out.size).mono ?_); rintro e w2 ⟨rfl, L, hb, hk⟩; refine ⟨_, rfl, ?_⟩; have hx2 := HXX.out.log L hb hk; have HX2 := Aside0.mk hx2; have HB2 := Aside0.mk hb; have HK2 := Aside0.mk hk; have c2 : w2.cell? ⟨d, 2, none⟩ = some (.slice A wait.length c) := (blk_cell hx2.2.2.2.1 2).trans rfl; have f2 : w2.frozen? ⟨d, 2, none⟩ = false := blk_frozen hx2.2.2.2.1 2; clear L hb hk hx2))
  go_ret
  obtain ⟨h1, h2, h3, h4, h5, h6, h7, h8, h9⟩ := HX2.out
  have hS : ∀ k, (fun k => k = d) k → ∃ c, w2.heap[k]? = some (.cells c 51 (0, 0)) := fun k hk => by subst hk; exact ⟨_, h4⟩
  have hk := Kept.setCell (p := ⟨d, 2, none⟩) (Kept.refl w2 (fun k => k = d)) (.inl rfl) (.slice none 0 0)
  have hd2 : (w2.setCell ⟨d, 2, none⟩ (.slice none 0 0)).heap[d]? = some (.cells #[.map (some m), AV, .slice none 0 0, .pointer (some ⟨a, 0, none⟩)] 51 (0, 0)) := by simpa using blk_set h4 2 (.slice none 0 0)
  have no31 : ∀ k cells, w2.heap[k]? = some (.cells cells 31 (0, 0)) → ¬ k = d := by
    rintro k cells hc rfl
    rw [h4] at hc
    injection hc with hc
    injection hc with _ hc
    exact absurd hc (by decide)
  refine ⟨A, c, okW, rfl, fun k hk => ho k (.inr hk), R31_kept h7 hk (fun k cells _ _ hc => no31 k cells hc), ⟨m, a, okA, fun _ => False, AV, _, ⟨h1, h2, by simpa [World.setCell] using h3, hd2, h5.kept hk ?_, R31_kept h6 hk (fun k cells _ _ hc => no31 k cells hc), Kd.R_nil _ _ _ _ _, fun _ _ h => h, ?_⟩, fun k hk => hk.elim (fun h => ⟨ho k (.inl h), h8 k h⟩) (fun h => h.elim)⟩, HB2.out.setCell h1 _, ?_⟩
  · rintro rfl
    obtain ⟨es, clock, hm, _⟩ := h5
    rw [hm] at h4
    injection h4 with h4
    cases h4
  · exact lg_kept h9 hk hS
  · refine (HK2.out.mono (fun k h => TD.of_log h)).setCell (p := ⟨d, 2, none⟩) (.inl (.inl ⟨_, 51, HXX.out.2.2.2.1, by simp⟩)) _
end
end Go.Proofs.Ytbihlbalmihbdaa.Di
namespace Go.Proofs.Ytbihlbalmihbdaa.Di
open Go.RowKit Go.Proofs.Ytbihlbalmihbdaa.PAll Go.Proofs.YtbihlbalmihbdaaW.PrintWords Go.Proofs.YtbihlbalmihbdaaW.PrintLast Go.Proofs.YtbihlbalmihbdaaW.PrintMore SG Go.Proofs.Ytbihlbalmihbdaa.Fun Go.Proofs.Ytbihlbalmihbdaa.Wal
set_option linter.unusedVariables false
set_option linter.unusedSimpArgs false

theorem info31 : (Try.prog.info? 31).map (fun i => (i.zero, i.size, i.bytes)) = some (some (.agg (cT z31)), 6, 56) := by kernel_rfl
theorem info29 : (Try.prog.info? 29).map (fun i => (i.zero, i.size, i.bytes)) = some (some (.agg #[.int .i64 0, .int .i64 0, .int .i64 0, .int .i64 0, .string ⟨#[]⟩]), 5, 48) := by kernel_rfl

theorem R31_empty (w : World) : k31.R 31 (w.alloc (.cells #[] 31)) w.heap.size (fun k => w.heap.size ≤ k) (.slice (some ⟨w.heap.size, 0, none⟩) 0 0) [] :=
  ⟨fun k hk => by simp [Value.ownBlock] at hk; omega, [], ⟨rfl, .inr ⟨w.heap.size, 0, #[], rfl, Nat.le_refl _, heap_alloc_new w _, Nat.le_refl _, by decide, rfl, rfl⟩⟩, Reps.none _ _⟩

set_option maxHeartbeats 8000000 in
set_option maxRecDepth 100000 in
theorem DClone {w : World} {B : Nat} {ok : Nat → Prop} {V : Value} {xs : List S31} (h : k31.R 31 w B ok V xs) (hl : xs.length ≤ 100000) : Calls Try.prog 28 #[V] w fun e w' => ∃ A c, e = .returned (.slice A xs.length c) ∧ k31.C w' A xs.length xs ∧ xs.length ≤ c ∧ Below w.heap.size w w' := by
  obtain ⟨A, c, rfl, hlc, hC⟩ := Kd.R_reads h
  obtain ⟨inner, ho⟩ := Kd.R_own h
  rcases ho.2 with ⟨hv, hn⟩ | ⟨g, cap, cur, hv, _⟩
  · have hx : xs = [] := List.eq_nil_of_length_eq_zero hn
    subst hx
    rw [hv]
    have q := Lib.run_eql_slice_nil (P := Try.prog) w 27 31 none 0 0 0 0 Try.underlying27
    rw [show Option.isNone (none : Option Addr) = true from rfl] at q
    go_enter Try.func28, Try.ntmps28
    go_wp2
    go_ret
    exact ⟨none, 0, rfl, Kd.C_nil _ _, Nat.le_refl _, Below.refl _ _⟩
  · injection hv with h1 h2 h3
    subst h1 h3
    have q := Lib.run_eql_slice_nil (P := Try.prog) w 27 31 (some ⟨g, 0, none⟩) xs.length c 0 0 Try.underlying27
    rw [show Option.isNone (some (⟨g, 0, none⟩ : Addr)) = false from rfl] at q
    have HC := Aside0.mk hC
    clear hC h ho
    go_enter Try.func28, Try.ntmps28
    go_wp2_with (first | ((with_reducible refine gate_builtin (b := .append) (xs := #[.tmp 5, .tmp 6]) rfl ?_); at_builtin; refine Kd.R_append_rows k31 (Rr := fun x cs => k31.K (w.alloc (.cells #[] 31)) x cs) (w0 := w) w.heap.size rfl (.tmp 5) (.tmp 6) 27 31 (.agg (cT z31)) 56 rfl Try.underlying27 info31 rfl (by decide) (by decide) (.slice (some ⟨w.heap.size, 0, none⟩) 0 0) [] xs (some ⟨g, 0, none⟩) xs.length c (fun k => w.heap.size ≤ k) (fun _ => False) rfl rfl ?aO ?aR ?aK ?aP ?aF ?aB ?aS ?aL ?_; (case aO => exact R31_empty w); (case aR => exact Kd.C_below HC.out (below_alloc (Below.refl _ _) _)); (case aK => intro x cs hk; obtain rfl := k31_open hk; exact k31_mkM _ _ _ x); (case aP => exact fun _ hk => hk.elim); (case aF => intro k hk; exact Nat.le_trans (below_size (below_alloc (Below.refl _ _) _)) hk); (case aB => exact below_alloc (Below.refl _ _) _); (case aS => exact (below_size (below_alloc (Below.refl _ _) _))); (case aL => simp; omega); intro v1 w1 hr1 hb1 hg1 hat1; have HR1 := Aside0.mk hr1; have HB1 := Aside0.mk hb1; clear hr1 hb1 hg1 hat1))
    go_ret
    obtain ⟨A1, c1, e1, h4, h5⟩ := Kd.R_reads HR1.out
    subst e1
    exact ⟨A1, c1, rfl, h5, h4, HB1.out⟩
end Go.Proofs.Ytbihlbalmihbdaa.Di
namespace Go.Proofs.Ytbihlbalmihbdaa.Di
open Go.RowKit Go.Proofs.Ytbihlbalmihbdaa.PAll Go.Proofs.YtbihlbalmihbdaaW.PrintWords Go.Proofs.YtbihlbalmihbdaaW.PrintLast Go.Proofs.YtbihlbalmihbdaaW.PrintMore SG Go.Proofs.Ytbihlbalmihbdaa.Fun Go.Proofs.Ytbihlbalmihbdaa.Wal
set_option linter.unusedVariables false
set_option linter.unusedSimpArgs false

/-- A struct's variable that gets its value. -/
def set6 (w : World) (g : Nat) (x : S31) : World := (((((w.setCell ⟨g, 0, none⟩ (.int .i64 x.f0)).setCell ⟨g, 1, none⟩ (.int .i64 x.f1.f0)).setCell ⟨g, 2, none⟩ (.int .i64 x.f1.f1)).setCell ⟨g, 3, none⟩ (.int .i64 x.f1.f2)).setCell ⟨g, 4, none⟩ (.int .i64 x.f1.f3)).setCell ⟨g, 5, none⟩ (.string x.f1.f4)
theorem set6_blk {w : World} {g : Nat} {a b c d e f : Value} (h : w.heap[g]? = some (.cells #[a, b, c, d, e, f] 31 (0, 0))) (x : S31) : (set6 w g x).heap[g]? = some (.cells (cT x) 31 (0, 0)) := by
  simpa [set6, cT] using blk_set (blk_set (blk_set (blk_set (blk_set (blk_set h 0 (.int .i64 x.f0)) 1 (.int .i64 x.f1.f0)) 2 (.int .i64 x.f1.f1)) 3 (.int .i64 x.f1.f2)) 4 (.int .i64 x.f1.f3)) 5 (.string x.f1.f4)
theorem set6_below {w w' : World} {g B : Nat} (h : Below B w w') (hg : B ≤ g) (x : S31) : Below B w (set6 w' g x) := by
  unfold set6
  exact Below.setCell (Below.setCell (Below.setCell (Below.setCell (Below.setCell (Below.setCell h hg _) hg _) hg _) hg _) hg _) hg _
/-- The words of a height. -/
def saidF (h : Int) (all : List S31) : List S29 := (all.filter (fun t => t.f0 == h)).map (·.f1)
theorem saidF_snoc (h : Int) (all : List S31) (t : S31) : saidF h (all ++ [t]) = if t.f0 == h then saidF h all ++ [t.f1] else saidF h all := by
  unfold saidF
  rw [List.filter_append, List.map_append]
  by_cases e : (t.f0 == h) = true
  · rw [if_pos e]; simp [List.filter_cons, e]
  · rw [if_neg e]; simp [List.filter_cons, e]
theorem saidF_len (h : Int) (all : List S31) : (saidF h all).length ≤ all.length := by
  unfold saidF
  rw [List.length_map]
  exact List.length_filter_le _ _
theorem rd31 {l : List S31} {i : Nat} (h : i < l.length) : rd_T31 l (i : Int) = l[i] := by
  unfold rd_T31
  rw [Int.toNat_natCast, List.getD_eq_getElem?_getD, List.getElem?_eq_getElem h, Option.getD_some]
theorem take_snoc {α : Type} {l : List α} {i : Nat} (h : i < l.length) : l.take (i + 1) = l.take i ++ [l[i]] := by
  rw [List.take_add_one, List.getElem?_eq_getElem h]
  rfl
theorem w64m (n : Nat) (h : n ≤ 100000) : wrap64 ((n : Int) + 1) = ((n + 1 : Nat) : Int) := by
  unfold wrap64
  omega

set_option maxHeartbeats 8000000 in
set_option maxRecDepth 100000 in
theorem DSaid {w : World} {B d : Nat} {ok : Nat → Prop} {first all wait : List S31} {recs : List By} {sure : Nat} (h : Dy w B ok d first all wait recs sure) (ht : Int) (hl : all.length ≤ 100000) :
    Calls Try.prog 14 #[.pointer (some ⟨d, 0, none⟩), .int .i64 ht] w fun e w' => ∃ V, e = .returned V ∧ k29.R 29 w' w.heap.size (fun k => w.heap.size ≤ k) V (saidF ht all) ∧ Below w.heap.size w w' := by
  obtain ⟨m, a, okA, okW, AV, WV, hx, ho⟩ := h
  have HRA := Aside0.mk hx.2.2.2.2.2.1
  have c1 : w.cell? ⟨d, 1, none⟩ = some AV := (blk_cell hx.blk 1).trans rfl
  clear hx
  go_enter Try.func14, Try.ntmps14
  go_wp2_with (first | ((with_reducible refine gate_callee (f := 28) rfl ?_); refine goesL_ (some 14) rfl rfl Try.func28 (by kernel_rfl) rfl #[AV] rfl (by (try simp only [List.map_toArray, List.map_cons, List.map_nil]); first | done | rfl) ?_; (with_reducible refine (DClone HRA.out hl).mono ?_); rintro e w2 ⟨A2, c2, rfl, hC, hlc, hb⟩; refine ⟨_, rfl, ?_⟩; have HC2 := Aside0.mk hC; have HB2 := Aside0.mk hb; clear hC hb))
  go_loopg [5, 16] all.length (fun kq v5 v16 w' => ∃ (i : Nat), v16 = .int .i64 (i : Int) ∧ Aside0 (i + kq = all.length) ∧ Aside0 (k29.R 29 w' w2.heap.size (fun k => w2.heap.size ≤ k) v5 (saidF ht (all.take i))) ∧ Aside0 (Below w2.heap.size w2 w'))
  case atStart => exact ⟨0, rfl, ⟨by omega⟩, ⟨Kd.R_nil _ _ _ _ _⟩, ⟨Below.refl _ _⟩⟩
  case round =>
    obtain ⟨i, rfl, HI, HRv, HBw⟩ := hrel
    have hi := HI.out
    by_cases hat : i < all.length
    · obtain ⟨k1, rfl⟩ : ∃ k1, gk = k1 + 1 := ⟨gk - 1, by omega⟩
      have hlt : decide ((i : Int) < (all.length : Int)) = true := decide_eq_true (by omega)
      obtain ⟨ad, e101, x0, x1, x2, x3, x4, x5⟩ := at_T31 (Kd.C_below HC2.out HBw.out) (i : Int) (by omega) (by omega)
      obtain ⟨x, hx⟩ : ∃ x, x = all[i] := ⟨_, rfl⟩
      cases e101
      rw [rd31 hat, ← hx] at x0 x1 x2 x3 x4 x5
      rw [Int.toNat_natCast] at x0 x1 x2 x3 x4 x5
      have HS := Aside0.mk (saidF_snoc ht (all.take i) x)
      have HT := Aside0.mk (take_snoc hat)
      rw [← hx] at HT
      have HSL := Aside0.mk (saidF_len ht (all.take i))
      clear HI hx
      by_cases hk : x.f0 = ht
      · have e1 : (x.f0 == ht) = true := by simp [hk]
        rw [if_pos e1] at HS
        clear hk
        go_wp2_with (first | ((with_reducible refine gate_dst (N := 7) rfl ?_); refine box_event ?hg (N := 7) ?hd (cs := #[.int .i64 0, .int .i64 0, .int .i64 0, .int .i64 0, .int .i64 0, .string ⟨#[]⟩]) (t := 31) ?hr ?_; (case hd => rfl); (case hg => rfl); (case hr => first | (go_simp; done) | (go_simp; rfl)); intro g hg w3 hbox hb; have HG3 := Aside0.mk hbox; have HGE := Aside0.mk (show wr.heap.size ≤ g by rw [hg]; exact Nat.le_refl _); have HB3 := Aside0.mk hb; have b0 : w3.cell? ⟨g, 0, none⟩ = some (.int .i64 0) := (blk_cell hbox 0).trans rfl; have bz0 : w3.frozen? ⟨g, 0, none⟩ = false := blk_frozen hbox 0; have b1 : w3.cell? ⟨g, 1, none⟩ = some (.int .i64 0) := (blk_cell hbox 1).trans rfl; have bz1 : w3.frozen? ⟨g, 1, none⟩ = false := blk_frozen hbox 1; have b2 : w3.cell? ⟨g, 2, none⟩ = some (.int .i64 0) := (blk_cell hbox 2).trans rfl; have bz2 : w3.frozen? ⟨g, 2, none⟩ = false := blk_frozen hbox 2; have b3 : w3.cell? ⟨g, 3, none⟩ = some (.int .i64 0) := (blk_cell hbox 3).trans rfl; have bz3 : w3.frozen? ⟨g, 3, none⟩ = false := blk_frozen hbox 3; have b4 : w3.cell? ⟨g, 4, none⟩ = some (.int .i64 0) := (blk_cell hbox 4).trans rfl; have bz4 : w3.frozen? ⟨g, 4, none⟩ = false := blk_frozen hbox 4; have b5 : w3.cell? ⟨g, 5, none⟩ = some (.string ⟨#[]⟩) := (blk_cell hbox 5).trans rfl; have bz5 : w3.frozen? ⟨g, 5, none⟩ = false := blk_frozen hbox 5; clear hg hbox hb) | ((with_reducible refine gate_store (t := 31) (p := 7) (v := .tmp 19) rfl ?_); refine store_event (w1 := (set6 w3 g x)) ?hg rfl ?hN ?hr ?_; (case hg => rfl); (case hN => rfl); (case hr => first | (go_simp; done) | (go_simp; rfl)); intro w4 hw4; have hg4 : w4.heap[g]? = some (.cells (cT x) 31 (0, 0)) := (by rw [hw4]; exact set6_blk HG3.out x); have HB4 : Aside0 (Below wr.heap.size wr w4) := ⟨(by rw [hw4]; exact set6_below HB3.out HGE.out x)⟩; have y0 : w4.cell? ⟨g, 0, none⟩ = some (.int .i64 x.f0) := (blk_cell hg4 0).trans rfl; have yz0 : w4.frozen? ⟨g, 0, none⟩ = false := blk_frozen hg4 0; have y1 : w4.cell? ⟨g, 1, none⟩ = some (.int .i64 x.f1.f0) := (blk_cell hg4 1).trans rfl; have yz1 : w4.frozen? ⟨g, 1, none⟩ = false := blk_frozen hg4 1; have y2 : w4.cell? ⟨g, 2, none⟩ = some (.int .i64 x.f1.f1) := (blk_cell hg4 2).trans rfl; have yz2 : w4.frozen? ⟨g, 2, none⟩ = false := blk_frozen hg4 2; have y3 : w4.cell? ⟨g, 3, none⟩ = some (.int .i64 x.f1.f2) := (blk_cell hg4 3).trans rfl; have yz3 : w4.frozen? ⟨g, 3, none⟩ = false := blk_frozen hg4 3; have y4 : w4.cell? ⟨g, 4, none⟩ = some (.int .i64 x.f1.f3) := (blk_cell hg4 4).trans rfl; have yz4 : w4.frozen? ⟨g, 4, none⟩ = false := blk_frozen hg4 4; have y5 : w4.cell? ⟨g, 5, none⟩ = some (.string x.f1.f4) := (blk_cell hg4 5).trans rfl; have yz5 : w4.frozen? ⟨g, 5, none⟩ = false := blk_frozen hg4 5; clear hg4 hw4) | ((with_reducible refine gate_builtin (b := .append) (xs := #[.tmp 24, .tmp 27]) rfl ?_); at_builtin; refine Kd.R_append k29 (w0 := w2) w2.heap.size rfl (.tmp 24) (.tmp 27) 40 29 (.agg #[.int .i64 0, .int .i64 0, .int .i64 0, .int .i64 0, .string ⟨#[]⟩]) 48 rfl Try.underlying40 info29 rfl (by decide) (by decide) u5 (saidF ht (all.take i)) x.f1 [.int .i64 x.f1.f0, .int .i64 x.f1.f1, .int .i64 x.f1.f2, .int .i64 x.f1.f3, .string x.f1.f4] (fun k => w2.heap.size ≤ k) (fun _ => False) rfl rfl ?aP (fun _ hk => hk.elim) ?aF (Kd.R_below HRv.out HB4.out) ?aB ?aS ?aL ?_; (case aP => exact k29_mkM _ _ _ x.f1); (case aF => exact fun k hk => Nat.le_trans HBw.out.size (Nat.le_trans HB4.out.size hk)); (case aB => exact below_step HBw.out HB4.out); (case aS => exact Nat.le_trans HBw.out.size HB4.out.size); (case aL => have := HSL.out; rw [List.length_take] at this; omega); intro v5 w5 hr5 hb5 hg5 hat5; have HR5 := Aside0.mk hr5; have HB5 := Aside0.mk hb5; have HG5 := Aside0.mk hg5; clear hr5 hb5 hg5 hat5))
        go_roundg k1
        case measure => omega
        case rel => exact ⟨i + 1, by simp, ⟨by omega⟩, ⟨by rw [HT.out, HS.out]; exact HR5.out⟩, HB5⟩
      · have e1 : (x.f0 == ht) = false := by simpa using hk
        rw [if_neg (by rw [e1]; decide)] at HS
        clear hk
        go_wp2_with (first | ((with_reducible refine gate_dst (N := 7) rfl ?_); refine box_event ?hg (N := 7) ?hd (cs := #[.int .i64 0, .int .i64 0, .int .i64 0, .int .i64 0, .int .i64 0, .string ⟨#[]⟩]) (t := 31) ?hr ?_; (case hd => rfl); (case hg => rfl); (case hr => first | (go_simp; done) | (go_simp; rfl)); intro g hg w3 hbox hb; have HG3 := Aside0.mk hbox; have HGE := Aside0.mk (show wr.heap.size ≤ g by rw [hg]; exact Nat.le_refl _); have HB3 := Aside0.mk hb; have b0 : w3.cell? ⟨g, 0, none⟩ = some (.int .i64 0) := (blk_cell hbox 0).trans rfl; have bz0 : w3.frozen? ⟨g, 0, none⟩ = false := blk_frozen hbox 0; have b1 : w3.cell? ⟨g, 1, none⟩ = some (.int .i64 0) := (blk_cell hbox 1).trans rfl; have bz1 : w3.frozen? ⟨g, 1, none⟩ = false := blk_frozen hbox 1; have b2 : w3.cell? ⟨g, 2, none⟩ = some (.int .i64 0) := (blk_cell hbox 2).trans rfl; have bz2 : w3.frozen? ⟨g, 2, none⟩ = false := blk_frozen hbox 2; have b3 : w3.cell? ⟨g, 3, none⟩ = some (.int .i64 0) := (blk_cell hbox 3).trans rfl; have bz3 : w3.frozen? ⟨g, 3, none⟩ = false := blk_frozen hbox 3; have b4 : w3.cell? ⟨g, 4, none⟩ = some (.int .i64 0) := (blk_cell hbox 4).trans rfl; have bz4 : w3.frozen? ⟨g, 4, none⟩ = false := blk_frozen hbox 4; have b5 : w3.cell? ⟨g, 5, none⟩ = some (.string ⟨#[]⟩) := (blk_cell hbox 5).trans rfl; have bz5 : w3.frozen? ⟨g, 5, none⟩ = false := blk_frozen hbox 5; clear hg hbox hb) | ((with_reducible refine gate_store (t := 31) (p := 7) (v := .tmp 19) rfl ?_); refine store_event (w1 := (set6 w3 g x)) ?hg rfl ?hN ?hr ?_; (case hg => rfl); (case hN => rfl); (case hr => first | (go_simp; done) | (go_simp; rfl)); intro w4 hw4; have hg4 : w4.heap[g]? = some (.cells (cT x) 31 (0, 0)) := (by rw [hw4]; exact set6_blk HG3.out x); have HB4 : Aside0 (Below wr.heap.size wr w4) := ⟨(by rw [hw4]; exact set6_below HB3.out HGE.out x)⟩; have y0 : w4.cell? ⟨g, 0, none⟩ = some (.int .i64 x.f0) := (blk_cell hg4 0).trans rfl; have yz0 : w4.frozen? ⟨g, 0, none⟩ = false := blk_frozen hg4 0; have y1 : w4.cell? ⟨g, 1, none⟩ = some (.int .i64 x.f1.f0) := (blk_cell hg4 1).trans rfl; have yz1 : w4.frozen? ⟨g, 1, none⟩ = false := blk_frozen hg4 1; have y2 : w4.cell? ⟨g, 2, none⟩ = some (.int .i64 x.f1.f1) := (blk_cell hg4 2).trans rfl; have yz2 : w4.frozen? ⟨g, 2, none⟩ = false := blk_frozen hg4 2; have y3 : w4.cell? ⟨g, 3, none⟩ = some (.int .i64 x.f1.f2) := (blk_cell hg4 3).trans rfl; have yz3 : w4.frozen? ⟨g, 3, none⟩ = false := blk_frozen hg4 3; have y4 : w4.cell? ⟨g, 4, none⟩ = some (.int .i64 x.f1.f3) := (blk_cell hg4 4).trans rfl; have yz4 : w4.frozen? ⟨g, 4, none⟩ = false := blk_frozen hg4 4; have y5 : w4.cell? ⟨g, 5, none⟩ = some (.string x.f1.f4) := (blk_cell hg4 5).trans rfl; have yz5 : w4.frozen? ⟨g, 5, none⟩ = false := blk_frozen hg4 5; clear hg4 hw4))
        go_roundg k1
        case measure => omega
        case rel => exact ⟨i + 1, by simp, ⟨by omega⟩, ⟨by rw [HT.out, HS.out]; exact Kd.R_below HRv.out HB4.out⟩, ⟨below_step HBw.out HB4.out⟩⟩
    · obtain rfl : gk = 0 := by omega
      have hge : decide ((i : Int) < (all.length : Int)) = false := decide_eq_false (by omega)
      have HT := Aside0.mk (List.take_of_length_le (l := all) (i := i) (by omega))
      clear HI
      go_wp2
      go_ret
      exact ⟨_, rfl, Kd.R_lower (Kd.R_mono (by have h := HRv.out; rw [HT.out] at h; exact h) (fun k hk => Nat.le_trans HB2.out.size hk)) HB2.out.size, below_step HB2.out HBw.out⟩
end Go.Proofs.Ytbihlbalmihbdaa.Di
namespace Go.Proofs.Ytbihlbalmihbdaa.Di
open Go.RowKit Go.Proofs.Ytbihlbalmihbdaa.PAll Go.Proofs.YtbihlbalmihbdaaW.PrintWords Go.Proofs.YtbihlbalmihbdaaW.PrintLast Go.Proofs.YtbihlbalmihbdaaW.PrintMore SG Go.Proofs.Ytbihlbalmihbdaa.Fun Go.Proofs.Ytbihlbalmihbdaa.Wal
set_option linter.unusedVariables false
set_option linter.unusedSimpArgs false


theorem swapP {Pr : World → Prop} {K : Act → World → Prop} {a : Act} {W : World} (hp : Pr W) (h : ∀ w', Pr w' → K a w') : K a W := h W hp
theorem mapW_at {w : World} {m k : Nat} (o : Obj) (h : k ≠ m) : (mapW w m o).heap[k]? = w.heap[k]? := by
  show (w.heap.setIfInBounds m o)[k]? = _
  rw [Array.getElem?_setIfInBounds_ne (Ne.symm h)]
theorem mapW_size (w : World) (m : Nat) (o : Obj) : (mapW w m o).heap.size = w.heap.size := by simp [mapW]
theorem below_mapW {B m : Nat} {w w' : World} {o : Obj} (h : Below B w w') (hm : B ≤ m) : Below B w (mapW w' m o) :=
  { h with
    block := fun i hi => (mapW_at o (by omega)).trans (h.block i hi)
    size := by rw [mapW_size]; exact h.size }
theorem kept_mapW {m : Nat} {w w' : World} {o : Obj} (h : Below w.heap.size w w') : Kept w (mapW w' m o) (fun k => k = m) :=
  ⟨by rw [mapW_size]; exact h.size, fun i hi hn => (mapW_at o hn).trans (h.block i hi)⟩
/-- A log stays where none of its blocks is written. -/
theorem lg_keptT {w w' : World} {B a : Nat} {recs : List By} {sure : Nat} {S : Nat → Prop} (L : Lg w B a recs sure) (hk : Kept w w' S) (hS : ∀ k, S k → ¬ TLg w k) : Lg w' B a recs sure := by
  obtain ⟨l1, l2, l3, h1, d, v, ha, hr, D⟩ := L
  refine ⟨l1, l2, l3, h1, d, v, blk_kept ha hk (fun h => hS _ h ⟨_, 67, ha, by simp⟩), ?_, D.kept hk (fun k hs => ?_)⟩
  · refine Kd.R_mono (Kd.R_move (Kd.R_bound hr) (fun k h => ?_)) (fun _ h => h.1)
    obtain ⟨_, _, hlt, q, hq, cells, hc⟩ := h
    have hq9 : q = 9 := by simpa [Kd.string, Kd.scalar] using hq
    subst hq9
    exact hk.2 k hlt (fun h => hS _ h ⟨_, 9, hc, by simp⟩)
  · rintro ⟨c, q, hc, hq⟩
    exact hS _ hs ⟨c, q, hc, by rcases hq with h | h <;> simp [h]⟩
section
variable {w w' : World} {B d m a : Nat} {okA okW : Nat → Prop} {AV WV : Value} {first all wait : List S31} {recs : List By} {sure : Nat}
theorem Dx.map (h : Dx w B d m a okA okW AV WV first all wait recs sure) : MP w m first := h.2.2.2.2.1
theorem Dx.rowA (h : Dx w B d m a okA okW AV WV first all wait recs sure) : k31.R 31 w B okA AV all := h.2.2.2.2.2.1
theorem Dx.rowW (h : Dx w B d m a okA okW AV WV first all wait recs sure) : k31.R 31 w B okW WV wait := h.2.2.2.2.2.2.1
theorem Dx.ne (h : Dx w B d m a okA okW AV WV first all wait recs sure) : d ≠ m := by
  rintro rfl
  have h1 := h.blk
  obtain ⟨es, c, hm, _⟩ := h.map
  rw [hm] at h1
  injection h1 with h1
  cases h1
theorem map_not {k q : Nat} {cells : Array Value} (h : MP w m first) (hc : w.heap[k]? = some (.cells cells q (0, 0))) : k ≠ m := by
  rintro rfl
  obtain ⟨es, c, hm, _⟩ := h
  rw [hm] at hc
  injection hc with hc
  cases hc
theorem map_not_lg (h : MP w m first) : ¬ TLg w m := by
  rintro ⟨cells, q, hc, _⟩
  exact map_not h hc rfl
/-- The map gets a word. -/
theorem Dx.mapped (h : Dx w B d m a okA okW AV WV first all wait recs sure) {first' : List S31} (hk : Kept w w' (fun k => k = m)) (hm : MP w' m first') (hb : Below B w w') : Dx w' B d m a okA okW AV WV first' all wait recs sure := by
  have hmp := h.map
  have hne := h.ne
  obtain ⟨h1, h2, h3, h4, h5, h6, h7, h8, h9⟩ := h
  exact ⟨h1, h2, Nat.le_trans h3 hb.size, blk_kept h4 hk hne, hm, R31_kept h6 hk (fun k cells _ _ hc => map_not hmp hc), R31_kept h7 hk (fun k cells _ _ hc => map_not hmp hc), h8, lg_keptT h9 hk (fun k hk => by subst hk; exact map_not_lg hmp)⟩

theorem row_lt {V : Value} {xs : List S31} {ok : Nat → Prop} (h : k31.R 31 w B ok V xs) {k : Nat} (hk : V.ownBlock = some k) : k < w.heap.size ∧ (∃ cells, w.heap[k]? = some (.cells cells 31 (0, 0))) ∧ ok k := by
  obtain ⟨inner, ho⟩ := Kd.R_own h
  exact ⟨own_lt ho k hk, own_typed ho k hk, h.1 k hk⟩
theorem far_set2 {g r : Nat} {o : Obj} (h : w.heap[r]? = some o) (hne : g ≠ r) (i : Nat) (u : Value) : (w.setCell ⟨g, i, none⟩ u).heap[r]? = some o := (Below.heap_setCell w ⟨g, i, none⟩ u r (Ne.symm hne)).trans h
/-- The row of all is another, and d's second cell says so. -/
theorem Dx.noted {AV' : Value} {all' : List S31} (h : Dx w B d m a okA okW AV WV first all wait recs sure) (hr : k31.R 31 w' B okA AV' all') (hg : w.grownBy w' AV.ownBlock) (hb : Below B w w') : Dx (w'.setCell ⟨d, 1, none⟩ AV') B d m a okA okW AV' WV first all' wait recs sure ∧ Below B w (w'.setCell ⟨d, 1, none⟩ AV') ∧ Kept w (w'.setCell ⟨d, 1, none⟩ AV') (fun k => k = d ∨ AV.ownBlock = some k) := by
  have hmp := h.map
  have hrow := h.rowA
  have hd := h.blk
  have hne := h.ne
  obtain ⟨h1, h2, h3, h4, h5, h6, h7, h8, h9⟩ := h
  have hk : Kept w (w'.setCell ⟨d, 1, none⟩ AV') (fun k => k = d ∨ AV.ownBlock = some k) := (Kept.of_grown hg (Kept.refl w _) (fun k hk => .inl (.inr hk))).setCell (.inl (.inl rfl)) _
  have hd' := blk_grown hd hg (Kd.R_ne hrow hd (by decide))
  have ty : ∀ {k q : Nat} {cells : Array Value}, (k = d ∨ AV.ownBlock = some k) → w.heap[k]? = some (.cells cells q (0, 0)) → q = 51 ∨ q = 31 := by
    rintro k q cells (rfl | hk) hc
    · rw [hd] at hc
      injection hc with hc
      injection hc with _ hc
      exact .inl hc.symm
    · obtain ⟨_, ⟨c, hc'⟩, _⟩ := row_lt hrow hk
      rw [hc'] at hc
      injection hc with hc
      injection hc with _ hc
      exact .inr hc.symm
  refine ⟨⟨h1, h2, Nat.le_trans h3 (by simpa [World.setCell] using hb.size), by simpa using blk_set hd' 1 AV', h5.kept hk ?_, Kd.R_set hr hd' (fun q hq => by rw [k31_types q hq]; decide) 1 AV', R31_kept h7 hk ?_, h8, lg_keptT h9 hk ?_⟩, hb.setCell h1 _, hk⟩
  · rintro (e | hk)
    · exact hne e.symm
    · obtain ⟨_, ⟨c, hc⟩, _⟩ := row_lt hrow hk
      exact map_not hmp hc rfl
  · rintro k cells ho _ hc (rfl | hk)
    · rw [hd] at hc
      injection hc with hc
      injection hc with _ hc
      exact absurd hc (by decide)
    · exact h8 k (row_lt hrow hk).2.2 ho
  · rintro k hk ⟨cells, q, hc, hq⟩
    rcases ty hk hc with rfl | rfl
    · exact absurd hq (by decide)
    · exact absurd hq (by decide)
end

set_option maxHeartbeats 16000000 in
set_option maxRecDepth 100000 in
theorem DNote {w : World} {B d m a : Nat} {okA okW : Nat → Prop} {AV WV : Value} {first all wait : List S31} {recs : List By} {sure : Nat} (hx : Dx w B d m a okA okW AV WV first all wait recs sure) (hF : ∀ t ∈ first, wfT t) (hP : first.Pairwise (fun a b => pl a b = false)) (t : S31) (ht : wfT t) (hfr : ∀ k, w.heap.size ≤ k → okA k) (hl : all.length ≤ 100000) (hn : at_ first t = none) :
    Calls Try.prog 23 #[.pointer (some ⟨d, 0, none⟩), .agg (cT t)] w fun e w' => e = .returned (.tuple #[]) ∧ (∃ AV', Dx w' B d m a okA okW AV' WV (first ++ [t]) (all ++ [t]) wait recs sure) ∧ Below B w w' ∧ Kept w w' (fun k => k = d ∨ k = m ∨ AV.ownBlock = some k) := by
  have HX := Aside0.mk hx
  have HFR := Aside0.mk hfr
  unfold cT
  clear hx hfr
  go_enter Try.func23, Try.ntmps23
  go_wp2_with (first | ((with_reducible refine gate_dst (N := 3) rfl ?_); refine box_event ?hg (N := 3) ?hd (cs := #[.int .i64 t.f0, .int .i64 t.f1.f0, .int .i64 t.f1.f1, .int .i64 t.f1.f2, .int .i64 t.f1.f3, .string t.f1.f4]) (t := 31) ?hr ?_; (case hd => rfl); (case hg => rfl); (case hr => first | (go_simp; done) | (go_simp; rfl)); intro g hg w1 hbox hb; have HG := Aside0.mk (show w1.heap[g]? = some (.cells (cT t) 31 (0, 0)) from hbox); have HGE := Aside0.mk (show w.heap.size ≤ g by rw [hg]; exact Nat.le_refl _); have HB1 := Aside0.mk hb; clear hg hbox hb))
  have HX1 := Aside0.mk (HX.out.below HB1.out)
  have SOF : Aside0 (∀ w', Below w1.heap.size w1 w' → w'.cell? ⟨d, 0, none⟩ = some (.map (some m)) ∧ w'.cell? ⟨g, 0, none⟩ = some (.int .i64 t.f0) ∧ w'.cell? ⟨g, 1, none⟩ = some (.int .i64 t.f1.f0) ∧ w'.cell? ⟨g, 2, none⟩ = some (.int .i64 t.f1.f1) ∧ w'.cell? ⟨g, 3, none⟩ = some (.int .i64 t.f1.f2) ∧ w'.cell? ⟨g, 4, none⟩ = some (.int .i64 t.f1.f3) ∧ w'.cell? ⟨g, 5, none⟩ = some (.string t.f1.f4)) := ⟨by
    intro w' hb
    have hd := (HX1.out.below hb).blk
    have hg := blk_below HG.out hb
    exact ⟨(blk_cell hd 0).trans rfl, (blk_cell hg 0).trans rfl, (blk_cell hg 1).trans rfl, (blk_cell hg 2).trans rfl, (blk_cell hg 3).trans rfl, (blk_cell hg 4).trans rfl, (blk_cell hg 5).trans rfl⟩⟩
  have HLK : Aside0 (∀ w', Below w1.heap.size w1 w' → (Instr.lookup 47 (.map (some m)) (.agg #[.int .i64 t.f0, .int .i64 t.f1.f0, .int .i64 t.f1.f1, .int .i64 t.f1.f2]) true).run Try.prog w' = .ok (.tuple #[.agg #[.int .i64 0, .int .i64 0, .int .i64 0, .int .i64 0, .int .i64 0, .string ⟨#[]⟩], .bool false]) w') := ⟨by
    intro w' hb
    have h := run_look (HX1.out.below hb).2.2.2.2.1 hF hP ht
    rw [hn] at h
    exact h⟩
  have SOM : Aside0 (∀ (w5 : World) (o : Obj), Below w1.heap.size w1 w5 → (mapW w5 m o).cell? ⟨d, 0, none⟩ = some (.map (some m)) ∧ (mapW w5 m o).cell? ⟨g, 0, none⟩ = some (.int .i64 t.f0) ∧ (mapW w5 m o).cell? ⟨g, 1, none⟩ = some (.int .i64 t.f1.f0) ∧ (mapW w5 m o).cell? ⟨g, 2, none⟩ = some (.int .i64 t.f1.f1) ∧ (mapW w5 m o).cell? ⟨g, 3, none⟩ = some (.int .i64 t.f1.f2) ∧ (mapW w5 m o).cell? ⟨g, 4, none⟩ = some (.int .i64 t.f1.f3) ∧ (mapW w5 m o).cell? ⟨g, 5, none⟩ = some (.string t.f1.f4)) := ⟨by
    intro w5 o hb
    have hd := (HX1.out.below hb).blk
    have hg := blk_below HG.out hb
    have hd' := (mapW_at (w := w5) (m := m) o HX1.out.ne).trans hd
    have hg' := (mapW_at (w := w5) (m := m) o (map_not (HX1.out.below hb).map hg)).trans hg
    exact ⟨(blk_cell hd' 0).trans rfl, (blk_cell hg' 0).trans rfl, (blk_cell hg' 1).trans rfl, (blk_cell hg' 2).trans rfl, (blk_cell hg' 3).trans rfl, (blk_cell hg' 4).trans rfl, (blk_cell hg' 5).trans rfl⟩⟩
  go_region_held (fun w' => w'.cell? ⟨d, 0, none⟩ = some (.map (some m)) ∧ w'.cell? ⟨g, 0, none⟩ = some (.int .i64 t.f0) ∧ w'.cell? ⟨g, 1, none⟩ = some (.int .i64 t.f1.f0) ∧ w'.cell? ⟨g, 2, none⟩ = some (.int .i64 t.f1.f1) ∧ w'.cell? ⟨g, 3, none⟩ = some (.int .i64 t.f1.f2) ∧ w'.cell? ⟨g, 4, none⟩ = some (.int .i64 t.f1.f3) ∧ w'.cell? ⟨g, 5, none⟩ = some (.string t.f1.f4)) (exact SOF.out _ (by repeat (first | (with_reducible exact Below.refl _ _) | (with_reducible exact HBq.out) | (with_reducible apply below_alloc) | (with_reducible apply below_drew) | (with_reducible refine Below.setCell ?_ (by first | exact Nat.le_refl _ | exact HBq.out.size) _)))) (first | ((with_reducible refine (diary_of.calls t.f0 t.f1.f0 t.f1.f1 t.f1.f2 t.f1.f3 t.f1.f4 t.f0 t.f1.f0 t.f1.f1 t.f1.f2 w1.drew rfl).mono ?_); rintro e w2 ⟨rfl, hb⟩; have hbq : Below w1.heap.size w1 w2 := below_step (below_drew (Below.refl _ w1)) hb; have HBq := Aside0.mk hbq; have lk := HLK.out w2 hbq; have lk2 := HLK.out (w2.alloc (.cells #[.int .i64 0, .int .i64 0, .int .i64 0, .int .i64 0, .int .i64 0, .string ⟨#[]⟩] 31)) (below_alloc hbq _); clear hb hbq) | ((with_reducible refine (diary_of.calls t.f0 t.f1.f0 t.f1.f1 t.f1.f2 t.f1.f3 t.f1.f4 t.f0 t.f1.f0 t.f1.f1 t.f1.f2 (World.drew (w1.alloc (.cells #[.int .i64 0, .int .i64 0, .int .i64 0, .int .i64 0, .int .i64 0, .string ⟨#[]⟩] 31))) rfl).mono ?_); rintro e w2 ⟨rfl, hb⟩; have hbq : Below w1.heap.size w1 w2 := below_step (below_drew (below_alloc (Below.refl _ w1) (.cells #[.int .i64 0, .int .i64 0, .int .i64 0, .int .i64 0, .int .i64 0, .string ⟨#[]⟩] 31))) hb; have HBq := Aside0.mk hbq; have hy3 := blk_below (show (World.drew (w1.alloc (.cells #[.int .i64 0, .int .i64 0, .int .i64 0, .int .i64 0, .int .i64 0, .string ⟨#[]⟩] 31 (0, 0)))).heap[w1.heap.size]? = some (.cells #[.int .i64 0, .int .i64 0, .int .i64 0, .int .i64 0, .int .i64 0, .string ⟨#[]⟩] 31 (0, 0)) from blk_new w1 _) hb; have j0 : w2.cell? ⟨w1.heap.size, 0, none⟩ = some (.int .i64 0) := (blk_cell hy3 0).trans rfl; have jz0 : w2.frozen? ⟨w1.heap.size, 0, none⟩ = false := blk_frozen hy3 0; have j1 : w2.cell? ⟨w1.heap.size, 1, none⟩ = some (.int .i64 0) := (blk_cell hy3 1).trans rfl; have jz1 : w2.frozen? ⟨w1.heap.size, 1, none⟩ = false := blk_frozen hy3 1; have j2 : w2.cell? ⟨w1.heap.size, 2, none⟩ = some (.int .i64 0) := (blk_cell hy3 2).trans rfl; have jz2 : w2.frozen? ⟨w1.heap.size, 2, none⟩ = false := blk_frozen hy3 2; have j3 : w2.cell? ⟨w1.heap.size, 3, none⟩ = some (.int .i64 0) := (blk_cell hy3 3).trans rfl; have jz3 : w2.frozen? ⟨w1.heap.size, 3, none⟩ = false := blk_frozen hy3 3; have j4 : w2.cell? ⟨w1.heap.size, 4, none⟩ = some (.int .i64 0) := (blk_cell hy3 4).trans rfl; have jz4 : w2.frozen? ⟨w1.heap.size, 4, none⟩ = false := blk_frozen hy3 4; have j5 : w2.cell? ⟨w1.heap.size, 5, none⟩ = some (.string ⟨#[]⟩) := (blk_cell hy3 5).trans rfl; have jz5 : w2.frozen? ⟨w1.heap.size, 5, none⟩ = false := blk_frozen hy3 5; clear hy3; have lk := HLK.out w2 hbq; have lk2 := HLK.out (w2.alloc (.cells #[.int .i64 0, .int .i64 0, .int .i64 0, .int .i64 0, .int .i64 0, .string ⟨#[]⟩] 31)) (below_alloc hbq _); clear hb hbq))
  all_goals
    refine swapP (K := Exit.then _ _ _) (Pr := fun w' => Below w1.heap.size w1 w') (by repeat (first | (with_reducible exact Below.refl _ _) | (with_reducible exact HBq.out) | (with_reducible apply below_alloc) | (with_reducible apply below_drew) | (with_reducible refine Below.setCell ?_ (by first | exact Nat.le_refl _ | exact HBq.out.size) _))) ?_
    intro w3 hb3
    have HB3 := Aside0.mk hb3
    clear lk lk2 hb3 HBq
    go_wp2
    go_region_held (fun w' => w'.cell? ⟨d, 0, none⟩ = some (.map (some m)) ∧ w'.cell? ⟨g, 0, none⟩ = some (.int .i64 t.f0) ∧ w'.cell? ⟨g, 1, none⟩ = some (.int .i64 t.f1.f0) ∧ w'.cell? ⟨g, 2, none⟩ = some (.int .i64 t.f1.f1) ∧ w'.cell? ⟨g, 3, none⟩ = some (.int .i64 t.f1.f2) ∧ w'.cell? ⟨g, 4, none⟩ = some (.int .i64 t.f1.f3) ∧ w'.cell? ⟨g, 5, none⟩ = some (.string t.f1.f4)) (first | exact SOM.out _ _ (below_step HB3.out HBq.out) | exact SOF.out _ (by repeat (first | (with_reducible exact HB3.out) | (with_reducible exact (below_step HB3.out HBq.out)) | (with_reducible apply below_alloc) | (with_reducible apply below_drew)))) (first | ((with_reducible refine (diary_of.calls t.f0 t.f1.f0 t.f1.f1 t.f1.f2 t.f1.f3 t.f1.f4 t.f0 t.f1.f0 t.f1.f1 t.f1.f2 w3.drew rfl).mono ?_); rintro e w5 ⟨rfl, hb⟩; have hbq : Below w3.heap.size w3 w5 := below_step (below_drew (Below.refl _ w3)) hb; have HBq := Aside0.mk hbq; obtain ⟨o, hmu, hM⟩ := run_put (HX1.out.below (below_step HB3.out hbq)).map hF hP ht hn; have HM5 := Aside0.mk hM; simp only [ky, cT] at hmu; clear hb hbq hM))
    all_goals
      refine swapP (K := Exit.then _ _ _) (Pr := fun w' => Kept w1 w' (fun k => k = m) ∧ MP w' m (first ++ [t]) ∧ Below B w1 w') ⟨kept_mapW (below_step HB3.out HBq.out), HM5.out, below_mapW ((below_step HB3.out HBq.out).mono HX1.out.size) HX.out.2.1⟩ ?_
      rintro w6 ⟨hk6, hm6, hb6⟩
      have hx6 := HX1.out.mapped hk6 hm6 hb6
      clear hmu HBq HM5
      have HX6 := Aside0.mk hx6
      have HX6d := Aside0.mk (hx6.below (below_drew (Below.refl _ _)))
      have HG6 := Aside0.mk (blk_kept HG.out hk6 (map_not HX1.out.map HG.out))
      have HB6 := Aside0.mk ((HB1.out.mono HX.out.size).trans hb6)
      have HK6 := Aside0.mk hk6
      have c1 : w6.cell? ⟨d, 1, none⟩ = some AV := (blk_cell hx6.blk 1).trans rfl
      have c1b : (w6.alloc (.cells #[.int .i64 t.f0, .int .i64 t.f1.f0, .int .i64 t.f1.f1, .int .i64 t.f1.f2, .int .i64 t.f1.f3, .string t.f1.f4] 31)).cell? ⟨d, 1, none⟩ = some AV := (blk_cell (blk_alloc hx6.blk _) 1).trans rfl
      have HDG : d ≠ g := by
        have := blk_lt HX.out.blk
        have := HGE.out
        omega
      have HNE : some g ≠ AV.ownBlock := fun e => by
        have := (row_lt HX.out.rowA e.symm).1
        have := HGE.out
        omega
      have hg6 := HG6.out
      have k0 : w6.cell? ⟨g, 0, none⟩ = some (.int .i64 t.f0) := (blk_cell hg6 0).trans rfl
      have kz0 : w6.frozen? ⟨g, 0, none⟩ = false := blk_frozen hg6 0
      have k1 : w6.cell? ⟨g, 1, none⟩ = some (.int .i64 t.f1.f0) := (blk_cell hg6 1).trans rfl
      have kz1 : w6.frozen? ⟨g, 1, none⟩ = false := blk_frozen hg6 1
      have k2 : w6.cell? ⟨g, 2, none⟩ = some (.int .i64 t.f1.f1) := (blk_cell hg6 2).trans rfl
      have kz2 : w6.frozen? ⟨g, 2, none⟩ = false := blk_frozen hg6 2
      have k3 : w6.cell? ⟨g, 3, none⟩ = some (.int .i64 t.f1.f2) := (blk_cell hg6 3).trans rfl
      have kz3 : w6.frozen? ⟨g, 3, none⟩ = false := blk_frozen hg6 3
      have k4 : w6.cell? ⟨g, 4, none⟩ = some (.int .i64 t.f1.f3) := (blk_cell hg6 4).trans rfl
      have kz4 : w6.frozen? ⟨g, 4, none⟩ = false := blk_frozen hg6 4
      have k5 : w6.cell? ⟨g, 5, none⟩ = some (.string t.f1.f4) := (blk_cell hg6 5).trans rfl
      have kz5 : w6.frozen? ⟨g, 5, none⟩ = false := blk_frozen hg6 5
      clear hg6
      clear hx6 hk6 hm6 hb6
      go_wp2
      go_region_law (first | (refine Kd.R_append_step k31 (w0 := w6.drew) (W := w6.drew) B rfl (.tmp 29) (.tmp 31) 27 31 (.agg (cT z31)) 56 rfl Try.underlying27 info31 rfl (by decide) (by decide) AV all t [.int .i64 t.f0, .int .i64 t.f1.f0, .int .i64 t.f1.f1, .int .i64 t.f1.f2, .int .i64 t.f1.f3, .string t.f1.f4] okA (fun _ => False) rfl rfl (k31_mkM _ _ _ t) (fun _ hk => hk.elim) (fun k hk => HFR.out k (Nat.le_trans HB6.out.size hk)) HX6d.out.rowA (Below.refl _ _) HX6d.out.size (by omega) ?_; intro v7 w7 hr7 hb7 hg7 hat7; obtain ⟨A7, k7, rfl⟩ := Kd.R_slice hr7; rw [List.length_append, List.length_singleton] at hr7 ⊢; have hg7b := blk_grown (show w6.drew.heap[g]? = _ from HG6.out) hg7 HNE; have hd7 := blk_grown HX6d.out.blk hg7 (Kd.R_ne HX6d.out.rowA HX6d.out.blk (by decide)); have HG7 := Aside0.mk hg7b; have HR7 := Aside0.mk hr7; have HB7 := Aside0.mk hb7; have HGR7 := Aside0.mk hg7; have e1 : w7.cell? ⟨d, 1, none⟩ = some AV := (blk_cell hd7 1).trans rfl; have z1 : w7.frozen? ⟨d, 1, none⟩ = false := blk_frozen hd7 1; clear hr7 hb7 hg7 hat7 hg7b hd7))
      all_goals
        obtain ⟨n1, n2, n3⟩ := HX6d.out.noted HR7.out HGR7.out HB7.out
        refine bodyPost_end (results_none rfl _ _ _) rfl ⟨rfl, ⟨_, n1⟩, (below_drew HB6.out).trans n2, ?_⟩
        exact ((Kept.of_below HB1.out (fun k => k = d ∨ k = m ∨ AV.ownBlock = some k)).then_ HK6.out (fun k hk => .inl (.inr (.inl hk)))).then_ n3 (fun k hk => hk.elim (fun h => .inl (.inl h)) (fun h => .inl (.inr (.inr h))))
end Go.Proofs.Ytbihlbalmihbdaa.Di
namespace Go.Proofs.Ytbihlbalmihbdaa.Di
open Go.RowKit Go.Proofs.Ytbihlbalmihbdaa.PAll Go.Proofs.YtbihlbalmihbdaaW.PrintWords Go.Proofs.YtbihlbalmihbdaaW.PrintLast Go.Proofs.YtbihlbalmihbdaaW.PrintMore SG Go.Proofs.Ytbihlbalmihbdaa.Fun Go.Proofs.Ytbihlbalmihbdaa.Wal
set_option linter.unusedVariables false
set_option linter.unusedSimpArgs false


set_option maxHeartbeats 16000000 in
set_option maxRecDepth 100000 in
theorem DNoteOld {w : World} {B d m a : Nat} {okA okW : Nat → Prop} {AV WV : Value} {first all wait : List S31} {recs : List By} {sure : Nat} (hx : Dx w B d m a okA okW AV WV first all wait recs sure) (hF : ∀ t ∈ first, wfT t) (hP : first.Pairwise (fun a b => pl a b = false)) (t : S31) (ht : wfT t) (hfr : ∀ k, w.heap.size ≤ k → okA k) (hl : all.length ≤ 100000) (u : S31) (hn : at_ first t = some u) :
    Calls Try.prog 23 #[.pointer (some ⟨d, 0, none⟩), .agg (cT t)] w fun e w' => e = .returned (.tuple #[]) ∧ (∃ AV', Dx w' B d m a okA okW AV' WV first (all ++ [t]) wait recs sure) ∧ Below B w w' ∧ Kept w w' (fun k => k = d ∨ k = m ∨ AV.ownBlock = some k) := by
  have HX := Aside0.mk hx
  have HFR := Aside0.mk hfr
  unfold cT
  clear hx hfr
  go_enter Try.func23, Try.ntmps23
  go_wp2_with (first | ((with_reducible refine gate_dst (N := 3) rfl ?_); refine box_event ?hg (N := 3) ?hd (cs := #[.int .i64 t.f0, .int .i64 t.f1.f0, .int .i64 t.f1.f1, .int .i64 t.f1.f2, .int .i64 t.f1.f3, .string t.f1.f4]) (t := 31) ?hr ?_; (case hd => rfl); (case hg => rfl); (case hr => first | (go_simp; done) | (go_simp; rfl)); intro g hg w1 hbox hb; have HG := Aside0.mk (show w1.heap[g]? = some (.cells (cT t) 31 (0, 0)) from hbox); have HGE := Aside0.mk (show w.heap.size ≤ g by rw [hg]; exact Nat.le_refl _); have HB1 := Aside0.mk hb; clear hg hbox hb))
  have HX1 := Aside0.mk (HX.out.below HB1.out)
  have SOF : Aside0 (∀ w', Below w1.heap.size w1 w' → w'.cell? ⟨d, 0, none⟩ = some (.map (some m)) ∧ w'.cell? ⟨g, 0, none⟩ = some (.int .i64 t.f0) ∧ w'.cell? ⟨g, 1, none⟩ = some (.int .i64 t.f1.f0) ∧ w'.cell? ⟨g, 2, none⟩ = some (.int .i64 t.f1.f1) ∧ w'.cell? ⟨g, 3, none⟩ = some (.int .i64 t.f1.f2) ∧ w'.cell? ⟨g, 4, none⟩ = some (.int .i64 t.f1.f3) ∧ w'.cell? ⟨g, 5, none⟩ = some (.string t.f1.f4)) := ⟨by
    intro w' hb
    have hd := (HX1.out.below hb).blk
    have hg := blk_below HG.out hb
    exact ⟨(blk_cell hd 0).trans rfl, (blk_cell hg 0).trans rfl, (blk_cell hg 1).trans rfl, (blk_cell hg 2).trans rfl, (blk_cell hg 3).trans rfl, (blk_cell hg 4).trans rfl, (blk_cell hg 5).trans rfl⟩⟩
  have HLK : Aside0 (∀ w', Below w1.heap.size w1 w' → (Instr.lookup 47 (.map (some m)) (.agg #[.int .i64 t.f0, .int .i64 t.f1.f0, .int .i64 t.f1.f1, .int .i64 t.f1.f2]) true).run Try.prog w' = .ok (.tuple #[.agg #[.int .i64 u.f0, .int .i64 u.f1.f0, .int .i64 u.f1.f1, .int .i64 u.f1.f2, .int .i64 u.f1.f3, .string u.f1.f4], .bool true]) w') := ⟨by
    intro w' hb
    have h := run_look (HX1.out.below hb).2.2.2.2.1 hF hP ht
    rw [hn] at h
    exact h⟩
  go_region_held (fun w' => w'.cell? ⟨d, 0, none⟩ = some (.map (some m)) ∧ w'.cell? ⟨g, 0, none⟩ = some (.int .i64 t.f0) ∧ w'.cell? ⟨g, 1, none⟩ = some (.int .i64 t.f1.f0) ∧ w'.cell? ⟨g, 2, none⟩ = some (.int .i64 t.f1.f1) ∧ w'.cell? ⟨g, 3, none⟩ = some (.int .i64 t.f1.f2) ∧ w'.cell? ⟨g, 4, none⟩ = some (.int .i64 t.f1.f3) ∧ w'.cell? ⟨g, 5, none⟩ = some (.string t.f1.f4)) (exact SOF.out _ (by repeat (first | (with_reducible exact Below.refl _ _) | (with_reducible exact HBq.out) | (with_reducible apply below_alloc) | (with_reducible apply below_drew) | (with_reducible refine Below.setCell ?_ (by first | exact Nat.le_refl _ | exact HBq.out.size) _)))) (first | ((with_reducible refine (diary_of.calls t.f0 t.f1.f0 t.f1.f1 t.f1.f2 t.f1.f3 t.f1.f4 t.f0 t.f1.f0 t.f1.f1 t.f1.f2 w1.drew rfl).mono ?_); rintro e w2 ⟨rfl, hb⟩; have hbq : Below w1.heap.size w1 w2 := below_step (below_drew (Below.refl _ w1)) hb; have HBq := Aside0.mk hbq; have lk := HLK.out w2 hbq; have lk2 := HLK.out (w2.alloc (.cells #[.int .i64 0, .int .i64 0, .int .i64 0, .int .i64 0, .int .i64 0, .string ⟨#[]⟩] 31)) (below_alloc hbq _); clear hb hbq) | ((with_reducible refine (diary_of.calls t.f0 t.f1.f0 t.f1.f1 t.f1.f2 t.f1.f3 t.f1.f4 t.f0 t.f1.f0 t.f1.f1 t.f1.f2 (World.drew (w1.alloc (.cells #[.int .i64 0, .int .i64 0, .int .i64 0, .int .i64 0, .int .i64 0, .string ⟨#[]⟩] 31))) rfl).mono ?_); rintro e w2 ⟨rfl, hb⟩; have hbq : Below w1.heap.size w1 w2 := below_step (below_drew (below_alloc (Below.refl _ w1) (.cells #[.int .i64 0, .int .i64 0, .int .i64 0, .int .i64 0, .int .i64 0, .string ⟨#[]⟩] 31))) hb; have HBq := Aside0.mk hbq; have hy3 := blk_below (show (World.drew (w1.alloc (.cells #[.int .i64 0, .int .i64 0, .int .i64 0, .int .i64 0, .int .i64 0, .string ⟨#[]⟩] 31 (0, 0)))).heap[w1.heap.size]? = some (.cells #[.int .i64 0, .int .i64 0, .int .i64 0, .int .i64 0, .int .i64 0, .string ⟨#[]⟩] 31 (0, 0)) from blk_new w1 _) hb; have j0 : w2.cell? ⟨w1.heap.size, 0, none⟩ = some (.int .i64 0) := (blk_cell hy3 0).trans rfl; have jz0 : w2.frozen? ⟨w1.heap.size, 0, none⟩ = false := blk_frozen hy3 0; have j1 : w2.cell? ⟨w1.heap.size, 1, none⟩ = some (.int .i64 0) := (blk_cell hy3 1).trans rfl; have jz1 : w2.frozen? ⟨w1.heap.size, 1, none⟩ = false := blk_frozen hy3 1; have j2 : w2.cell? ⟨w1.heap.size, 2, none⟩ = some (.int .i64 0) := (blk_cell hy3 2).trans rfl; have jz2 : w2.frozen? ⟨w1.heap.size, 2, none⟩ = false := blk_frozen hy3 2; have j3 : w2.cell? ⟨w1.heap.size, 3, none⟩ = some (.int .i64 0) := (blk_cell hy3 3).trans rfl; have jz3 : w2.frozen? ⟨w1.heap.size, 3, none⟩ = false := blk_frozen hy3 3; have j4 : w2.cell? ⟨w1.heap.size, 4, none⟩ = some (.int .i64 0) := (blk_cell hy3 4).trans rfl; have jz4 : w2.frozen? ⟨w1.heap.size, 4, none⟩ = false := blk_frozen hy3 4; have j5 : w2.cell? ⟨w1.heap.size, 5, none⟩ = some (.string ⟨#[]⟩) := (blk_cell hy3 5).trans rfl; have jz5 : w2.frozen? ⟨w1.heap.size, 5, none⟩ = false := blk_frozen hy3 5; clear hy3; have lk := HLK.out w2 hbq; have lk2 := HLK.out (w2.alloc (.cells #[.int .i64 0, .int .i64 0, .int .i64 0, .int .i64 0, .int .i64 0, .string ⟨#[]⟩] 31)) (below_alloc hbq _); clear hb hbq))
  all_goals
    refine swapP (K := Exit.then _ _ _) (Pr := fun w' => Below w1.heap.size w1 w') (by repeat (first | (with_reducible exact Below.refl _ _) | (with_reducible exact HBq.out) | (with_reducible apply below_alloc) | (with_reducible apply below_drew) | (with_reducible refine Below.setCell ?_ (by first | exact Nat.le_refl _ | exact HBq.out.size) _))) ?_
    intro w3 hb3
    have HB3 := Aside0.mk hb3
    clear lk lk2 hb3 HBq
    have hx6 := HX1.out.below HB3.out
    have hk6 : Kept w1 w3 (fun k => k = m) := Kept.of_below HB3.out _
    have hm6 := hx6.map
    have hb6 : Below B w1 w3 := HB3.out.mono HX1.out.size
    have HX6 := Aside0.mk hx6
    have HX6d := Aside0.mk (hx6.below (below_drew (Below.refl _ _)))
    have HG6 := Aside0.mk (blk_kept HG.out hk6 (map_not HX1.out.map HG.out))
    have HB6 := Aside0.mk ((HB1.out.mono HX.out.size).trans hb6)
    have HK6 := Aside0.mk hk6
    have c1 : w3.cell? ⟨d, 1, none⟩ = some AV := (blk_cell hx6.blk 1).trans rfl
    have c1b : (w3.alloc (.cells #[.int .i64 t.f0, .int .i64 t.f1.f0, .int .i64 t.f1.f1, .int .i64 t.f1.f2, .int .i64 t.f1.f3, .string t.f1.f4] 31)).cell? ⟨d, 1, none⟩ = some AV := (blk_cell (blk_alloc hx6.blk _) 1).trans rfl
    have HDG : d ≠ g := by
      have := blk_lt HX.out.blk
      have := HGE.out
      omega
    have HNE : some g ≠ AV.ownBlock := fun e => by
      have := (row_lt HX.out.rowA e.symm).1
      have := HGE.out
      omega
    have hg6 := HG6.out
    have k0 : w3.cell? ⟨g, 0, none⟩ = some (.int .i64 t.f0) := (blk_cell hg6 0).trans rfl
    have kz0 : w3.frozen? ⟨g, 0, none⟩ = false := blk_frozen hg6 0
    have k1 : w3.cell? ⟨g, 1, none⟩ = some (.int .i64 t.f1.f0) := (blk_cell hg6 1).trans rfl
    have kz1 : w3.frozen? ⟨g, 1, none⟩ = false := blk_frozen hg6 1
    have k2 : w3.cell? ⟨g, 2, none⟩ = some (.int .i64 t.f1.f1) := (blk_cell hg6 2).trans rfl
    have kz2 : w3.frozen? ⟨g, 2, none⟩ = false := blk_frozen hg6 2
    have k3 : w3.cell? ⟨g, 3, none⟩ = some (.int .i64 t.f1.f2) := (blk_cell hg6 3).trans rfl
    have kz3 : w3.frozen? ⟨g, 3, none⟩ = false := blk_frozen hg6 3
    have k4 : w3.cell? ⟨g, 4, none⟩ = some (.int .i64 t.f1.f3) := (blk_cell hg6 4).trans rfl
    have kz4 : w3.frozen? ⟨g, 4, none⟩ = false := blk_frozen hg6 4
    have k5 : w3.cell? ⟨g, 5, none⟩ = some (.string t.f1.f4) := (blk_cell hg6 5).trans rfl
    have kz5 : w3.frozen? ⟨g, 5, none⟩ = false := blk_frozen hg6 5
    clear hg6
    clear hx6 hk6 hm6 hb6
    go_wp2
    go_region_law (first | (refine Kd.R_append_step k31 (w0 := w3.drew) (W := w3.drew) B rfl (.tmp 29) (.tmp 31) 27 31 (.agg (cT z31)) 56 rfl Try.underlying27 info31 rfl (by decide) (by decide) AV all t [.int .i64 t.f0, .int .i64 t.f1.f0, .int .i64 t.f1.f1, .int .i64 t.f1.f2, .int .i64 t.f1.f3, .string t.f1.f4] okA (fun _ => False) rfl rfl (k31_mkM _ _ _ t) (fun _ hk => hk.elim) (fun k hk => HFR.out k (Nat.le_trans HB6.out.size hk)) HX6d.out.rowA (Below.refl _ _) HX6d.out.size (by omega) ?_; intro v7 w7 hr7 hb7 hg7 hat7; obtain ⟨A7, k7, rfl⟩ := Kd.R_slice hr7; rw [List.length_append, List.length_singleton] at hr7 ⊢; have hg7b := blk_grown (show w3.drew.heap[g]? = _ from HG6.out) hg7 HNE; have hd7 := blk_grown HX6d.out.blk hg7 (Kd.R_ne HX6d.out.rowA HX6d.out.blk (by decide)); have HG7 := Aside0.mk hg7b; have HR7 := Aside0.mk hr7; have HB7 := Aside0.mk hb7; have HGR7 := Aside0.mk hg7; have e1 : w7.cell? ⟨d, 1, none⟩ = some AV := (blk_cell hd7 1).trans rfl; have z1 : w7.frozen? ⟨d, 1, none⟩ = false := blk_frozen hd7 1; clear hr7 hb7 hg7 hat7 hg7b hd7))
    all_goals
      obtain ⟨n1, n2, n3⟩ := HX6d.out.noted HR7.out HGR7.out HB7.out
      refine bodyPost_end (results_none rfl _ _ _) rfl ⟨rfl, ⟨_, n1⟩, (below_drew HB6.out).trans n2, ?_⟩
      exact ((Kept.of_below HB1.out (fun k => k = d ∨ k = m ∨ AV.ownBlock = some k)).then_ HK6.out (fun k hk => .inl (.inr (.inl hk)))).then_ n3 (fun k hk => hk.elim (fun h => .inl (.inl h)) (fun h => .inl (.inr (.inr h))))
end Go.Proofs.Ytbihlbalmihbdaa.Di
namespace Go.Proofs.Ytbihlbalmihbdaa.Di
open Go.RowKit Go.Proofs.Ytbihlbalmihbdaa.PAll Go.Proofs.YtbihlbalmihbdaaW.PrintWords Go.Proofs.YtbihlbalmihbdaaW.PrintLast Go.Proofs.YtbihlbalmihbdaaW.PrintMore SG Go.Proofs.Ytbihlbalmihbdaa.Fun Go.Proofs.Ytbihlbalmihbdaa.Wal
set_option linter.unusedVariables false
set_option linter.unusedSimpArgs false


attribute [local go_sem high] eqA31
/-- A word that may not be said. -/
theorem DSayArg0 (d K : Nat) (t : S31) (r : Int) (w : World) (hK : wire_CheckWord.f K t.f1.f0 t.f1.f1 t.f1.f2 t.f1.f3 t.f1.f4 = some r) (h : t.f0 < 0 ∨ 64 < t.f0 ∨ r ≠ 0) :
    Calls Try.prog 12 #[.pointer (some ⟨d, 0, none⟩), .agg (cT t)] w fun e w' => e = .returned (.int .i64 1) ∧ Below w.heap.size w w' := by
  have HK := Aside0.mk hK
  clear hK
  unfold cT
  by_cases h1 : t.f0 < 0
  · have t1 : decide (t.f0 < 0) = true := decide_eq_true h1
    clear h h1
    go_enter Try.func12, Try.ntmps12
    go_wp2_with (first | ((with_reducible refine gate_dst (N := 3) rfl ?_); refine box_event ?hg (N := 3) ?hd (cs := #[.int .i64 t.f0, .int .i64 t.f1.f0, .int .i64 t.f1.f1, .int .i64 t.f1.f2, .int .i64 t.f1.f3, .string t.f1.f4]) (t := 31) ?hr ?_; (case hd => rfl); (case hg => rfl); (case hr => first | (go_simp; done) | (go_simp; rfl)); intro g hg w0 hbox hb; have HG0 := Aside0.mk (show w0.heap[g]? = some (.cells (cT t) 31 (0, 0)) from hbox); have HGE := Aside0.mk (show w.heap.size ≤ g by rw [hg]; exact Nat.le_refl _); have HB0 := Aside0.mk hb; have b0 : w0.cell? ⟨g, 0, none⟩ = some (.int .i64 t.f0) := (blk_cell hbox 0).trans rfl; have bz0 : w0.frozen? ⟨g, 0, none⟩ = false := blk_frozen hbox 0; have b1 : w0.cell? ⟨g, 1, none⟩ = some (.int .i64 t.f1.f0) := (blk_cell hbox 1).trans rfl; have bz1 : w0.frozen? ⟨g, 1, none⟩ = false := blk_frozen hbox 1; have b2 : w0.cell? ⟨g, 2, none⟩ = some (.int .i64 t.f1.f1) := (blk_cell hbox 2).trans rfl; have bz2 : w0.frozen? ⟨g, 2, none⟩ = false := blk_frozen hbox 2; have b3 : w0.cell? ⟨g, 3, none⟩ = some (.int .i64 t.f1.f2) := (blk_cell hbox 3).trans rfl; have bz3 : w0.frozen? ⟨g, 3, none⟩ = false := blk_frozen hbox 3; have b4 : w0.cell? ⟨g, 4, none⟩ = some (.int .i64 t.f1.f3) := (blk_cell hbox 4).trans rfl; have bz4 : w0.frozen? ⟨g, 4, none⟩ = false := blk_frozen hbox 4; have b5 : w0.cell? ⟨g, 5, none⟩ = some (.string t.f1.f4) := (blk_cell hbox 5).trans rfl; have bz5 : w0.frozen? ⟨g, 5, none⟩ = false := blk_frozen hbox 5; clear hg hbox hb) | ((refine (wire_CheckWord.calls K t.f1.f0 t.f1.f1 t.f1.f2 t.f1.f3 t.f1.f4 r _ HK.out).mono ?_); rintro e w1 ⟨rfl, hb⟩; have HB1 := Aside0.mk (below_step HB0.out hb); have HG := Aside0.mk (blk_below HG0.out hb); clear hb))
    go_ret
    exact ⟨rfl, HB0.out⟩
  · have t1 : decide (t.f0 < 0) = false := decide_eq_false h1
    by_cases h2 : 64 < t.f0
    · have t2 : decide (64 < t.f0) = true := decide_eq_true h2
      clear h h1 h2
      go_enter Try.func12, Try.ntmps12
      go_wp2_with (first | ((with_reducible refine gate_dst (N := 3) rfl ?_); refine box_event ?hg (N := 3) ?hd (cs := #[.int .i64 t.f0, .int .i64 t.f1.f0, .int .i64 t.f1.f1, .int .i64 t.f1.f2, .int .i64 t.f1.f3, .string t.f1.f4]) (t := 31) ?hr ?_; (case hd => rfl); (case hg => rfl); (case hr => first | (go_simp; done) | (go_simp; rfl)); intro g hg w0 hbox hb; have HG0 := Aside0.mk (show w0.heap[g]? = some (.cells (cT t) 31 (0, 0)) from hbox); have HGE := Aside0.mk (show w.heap.size ≤ g by rw [hg]; exact Nat.le_refl _); have HB0 := Aside0.mk hb; have b0 : w0.cell? ⟨g, 0, none⟩ = some (.int .i64 t.f0) := (blk_cell hbox 0).trans rfl; have bz0 : w0.frozen? ⟨g, 0, none⟩ = false := blk_frozen hbox 0; have b1 : w0.cell? ⟨g, 1, none⟩ = some (.int .i64 t.f1.f0) := (blk_cell hbox 1).trans rfl; have bz1 : w0.frozen? ⟨g, 1, none⟩ = false := blk_frozen hbox 1; have b2 : w0.cell? ⟨g, 2, none⟩ = some (.int .i64 t.f1.f1) := (blk_cell hbox 2).trans rfl; have bz2 : w0.frozen? ⟨g, 2, none⟩ = false := blk_frozen hbox 2; have b3 : w0.cell? ⟨g, 3, none⟩ = some (.int .i64 t.f1.f2) := (blk_cell hbox 3).trans rfl; have bz3 : w0.frozen? ⟨g, 3, none⟩ = false := blk_frozen hbox 3; have b4 : w0.cell? ⟨g, 4, none⟩ = some (.int .i64 t.f1.f3) := (blk_cell hbox 4).trans rfl; have bz4 : w0.frozen? ⟨g, 4, none⟩ = false := blk_frozen hbox 4; have b5 : w0.cell? ⟨g, 5, none⟩ = some (.string t.f1.f4) := (blk_cell hbox 5).trans rfl; have bz5 : w0.frozen? ⟨g, 5, none⟩ = false := blk_frozen hbox 5; clear hg hbox hb) | ((refine (wire_CheckWord.calls K t.f1.f0 t.f1.f1 t.f1.f2 t.f1.f3 t.f1.f4 r _ HK.out).mono ?_); rintro e w1 ⟨rfl, hb⟩; have HB1 := Aside0.mk (below_step HB0.out hb); have HG := Aside0.mk (blk_below HG0.out hb); clear hb))
      go_ret
      exact ⟨rfl, HB0.out⟩
    · have t2 : decide (64 < t.f0) = false := decide_eq_false h2
      have t3 : (r != 0) = true := bne_iff_ne.mpr (by omega)
      clear h h1 h2
      go_enter Try.func12, Try.ntmps12
      go_wp2_with (first | ((with_reducible refine gate_dst (N := 3) rfl ?_); refine box_event ?hg (N := 3) ?hd (cs := #[.int .i64 t.f0, .int .i64 t.f1.f0, .int .i64 t.f1.f1, .int .i64 t.f1.f2, .int .i64 t.f1.f3, .string t.f1.f4]) (t := 31) ?hr ?_; (case hd => rfl); (case hg => rfl); (case hr => first | (go_simp; done) | (go_simp; rfl)); intro g hg w0 hbox hb; have HG0 := Aside0.mk (show w0.heap[g]? = some (.cells (cT t) 31 (0, 0)) from hbox); have HGE := Aside0.mk (show w.heap.size ≤ g by rw [hg]; exact Nat.le_refl _); have HB0 := Aside0.mk hb; have b0 : w0.cell? ⟨g, 0, none⟩ = some (.int .i64 t.f0) := (blk_cell hbox 0).trans rfl; have bz0 : w0.frozen? ⟨g, 0, none⟩ = false := blk_frozen hbox 0; have b1 : w0.cell? ⟨g, 1, none⟩ = some (.int .i64 t.f1.f0) := (blk_cell hbox 1).trans rfl; have bz1 : w0.frozen? ⟨g, 1, none⟩ = false := blk_frozen hbox 1; have b2 : w0.cell? ⟨g, 2, none⟩ = some (.int .i64 t.f1.f1) := (blk_cell hbox 2).trans rfl; have bz2 : w0.frozen? ⟨g, 2, none⟩ = false := blk_frozen hbox 2; have b3 : w0.cell? ⟨g, 3, none⟩ = some (.int .i64 t.f1.f2) := (blk_cell hbox 3).trans rfl; have bz3 : w0.frozen? ⟨g, 3, none⟩ = false := blk_frozen hbox 3; have b4 : w0.cell? ⟨g, 4, none⟩ = some (.int .i64 t.f1.f3) := (blk_cell hbox 4).trans rfl; have bz4 : w0.frozen? ⟨g, 4, none⟩ = false := blk_frozen hbox 4; have b5 : w0.cell? ⟨g, 5, none⟩ = some (.string t.f1.f4) := (blk_cell hbox 5).trans rfl; have bz5 : w0.frozen? ⟨g, 5, none⟩ = false := blk_frozen hbox 5; clear hg hbox hb) | ((refine (wire_CheckWord.calls K t.f1.f0 t.f1.f1 t.f1.f2 t.f1.f3 t.f1.f4 r _ HK.out).mono ?_); rintro e w1 ⟨rfl, hb⟩; have HB1 := Aside0.mk (below_step HB0.out hb); have HG := Aside0.mk (blk_below HG0.out hb); clear hb))
      go_ret
      exact ⟨rfl, HB1.out⟩

set_option maxHeartbeats 16000000 in
set_option maxRecDepth 100000 in
theorem DSayOld0 {w : World} {B d m a : Nat} {okA okW : Nat → Prop} {AV WV : Value} {first all wait : List S31} {recs : List By} {sure : Nat} (hx : Dx w B d m a okA okW AV WV first all wait recs sure) (hF : ∀ t ∈ first, wfT t) (hP : first.Pairwise (fun a b => pl a b = false)) (t : S31) (ht : wfT t) (K : Nat) (hK : wire_CheckWord.f K t.f1.f0 t.f1.f1 t.f1.f2 t.f1.f3 t.f1.f4 = some 0) (h0 : 0 ≤ t.f0 ∧ t.f0 ≤ 64) (u : S31) (hn : at_ first t = some u) (b : Bool) (hb : (u.f0 == t.f0 && ((u.f1.f0 == t.f1.f0 && (u.f1.f1 == t.f1.f1 && (u.f1.f2 == t.f1.f2 && (u.f1.f3 == t.f1.f3 && (u.f1.f4.toList == t.f1.f4.toList))))))) = b) :
    Calls Try.prog 12 #[.pointer (some ⟨d, 0, none⟩), .agg (cT t)] w fun e w' => e = .returned (.int .i64 (if b = true then 0 else 8)) ∧ Below w.heap.size w w' := by
  have HK := Aside0.mk hK
  have t1 : decide (t.f0 < 0) = false := decide_eq_false (by omega)
  have t2 : decide (64 < t.f0) = false := decide_eq_false (by omega)
  have HX := Aside0.mk hx
  unfold cT
  clear hx hK h0
  go_enter Try.func12, Try.ntmps12
  go_wp2_with (first | ((with_reducible refine gate_dst (N := 3) rfl ?_); refine box_event ?hg (N := 3) ?hd (cs := #[.int .i64 t.f0, .int .i64 t.f1.f0, .int .i64 t.f1.f1, .int .i64 t.f1.f2, .int .i64 t.f1.f3, .string t.f1.f4]) (t := 31) ?hr ?_; (case hd => rfl); (case hg => rfl); (case hr => first | (go_simp; done) | (go_simp; rfl)); intro g hg w0 hbox hb; have HG0 := Aside0.mk (show w0.heap[g]? = some (.cells (cT t) 31 (0, 0)) from hbox); have HGE := Aside0.mk (show w.heap.size ≤ g by rw [hg]; exact Nat.le_refl _); have HB0 := Aside0.mk hb; have b0 : w0.cell? ⟨g, 0, none⟩ = some (.int .i64 t.f0) := (blk_cell hbox 0).trans rfl; have bz0 : w0.frozen? ⟨g, 0, none⟩ = false := blk_frozen hbox 0; have b1 : w0.cell? ⟨g, 1, none⟩ = some (.int .i64 t.f1.f0) := (blk_cell hbox 1).trans rfl; have bz1 : w0.frozen? ⟨g, 1, none⟩ = false := blk_frozen hbox 1; have b2 : w0.cell? ⟨g, 2, none⟩ = some (.int .i64 t.f1.f1) := (blk_cell hbox 2).trans rfl; have bz2 : w0.frozen? ⟨g, 2, none⟩ = false := blk_frozen hbox 2; have b3 : w0.cell? ⟨g, 3, none⟩ = some (.int .i64 t.f1.f2) := (blk_cell hbox 3).trans rfl; have bz3 : w0.frozen? ⟨g, 3, none⟩ = false := blk_frozen hbox 3; have b4 : w0.cell? ⟨g, 4, none⟩ = some (.int .i64 t.f1.f3) := (blk_cell hbox 4).trans rfl; have bz4 : w0.frozen? ⟨g, 4, none⟩ = false := blk_frozen hbox 4; have b5 : w0.cell? ⟨g, 5, none⟩ = some (.string t.f1.f4) := (blk_cell hbox 5).trans rfl; have bz5 : w0.frozen? ⟨g, 5, none⟩ = false := blk_frozen hbox 5; clear hg hbox hb) | ((refine (wire_CheckWord.calls K t.f1.f0 t.f1.f1 t.f1.f2 t.f1.f3 t.f1.f4 0 _ HK.out).mono ?_); rintro e w1 ⟨rfl, hb⟩; have HB1 := Aside0.mk (below_step HB0.out hb); have HG := Aside0.mk (blk_below HG0.out hb); clear hb))
  have HX1 := Aside0.mk (HX.out.below HB1.out)
  have SOF : Aside0 (∀ w', Below w1.heap.size w1 w' → w'.cell? ⟨d, 0, none⟩ = some (.map (some m)) ∧ w'.cell? ⟨g, 0, none⟩ = some (.int .i64 t.f0) ∧ w'.cell? ⟨g, 1, none⟩ = some (.int .i64 t.f1.f0) ∧ w'.cell? ⟨g, 2, none⟩ = some (.int .i64 t.f1.f1) ∧ w'.cell? ⟨g, 3, none⟩ = some (.int .i64 t.f1.f2) ∧ w'.cell? ⟨g, 4, none⟩ = some (.int .i64 t.f1.f3) ∧ w'.cell? ⟨g, 5, none⟩ = some (.string t.f1.f4)) := ⟨by
    intro w' hb
    have hd := (HX1.out.below hb).blk
    have hg := blk_below HG.out hb
    exact ⟨(blk_cell hd 0).trans rfl, (blk_cell hg 0).trans rfl, (blk_cell hg 1).trans rfl, (blk_cell hg 2).trans rfl, (blk_cell hg 3).trans rfl, (blk_cell hg 4).trans rfl, (blk_cell hg 5).trans rfl⟩⟩
  have HLK : Aside0 (∀ w', Below w1.heap.size w1 w' → (Instr.lookup 47 (.map (some m)) (.agg #[.int .i64 t.f0, .int .i64 t.f1.f0, .int .i64 t.f1.f1, .int .i64 t.f1.f2]) true).run Try.prog w' = .ok (.tuple #[.agg #[.int .i64 u.f0, .int .i64 u.f1.f0, .int .i64 u.f1.f1, .int .i64 u.f1.f2, .int .i64 u.f1.f3, .string u.f1.f4], .bool true]) w') := ⟨by
    intro w' hb
    have h := run_look (HX1.out.below hb).2.2.2.2.1 hF hP ht
    rw [hn] at h
    exact h⟩
  go_region_held (fun w' => w'.cell? ⟨d, 0, none⟩ = some (.map (some m)) ∧ w'.cell? ⟨g, 0, none⟩ = some (.int .i64 t.f0) ∧ w'.cell? ⟨g, 1, none⟩ = some (.int .i64 t.f1.f0) ∧ w'.cell? ⟨g, 2, none⟩ = some (.int .i64 t.f1.f1) ∧ w'.cell? ⟨g, 3, none⟩ = some (.int .i64 t.f1.f2) ∧ w'.cell? ⟨g, 4, none⟩ = some (.int .i64 t.f1.f3) ∧ w'.cell? ⟨g, 5, none⟩ = some (.string t.f1.f4)) (exact SOF.out _ (by repeat (first | (with_reducible exact Below.refl _ _) | (with_reducible exact HBq.out) | (with_reducible apply below_alloc) | (with_reducible apply below_drew) | (with_reducible refine Below.setCell ?_ (by first | exact Nat.le_refl _ | exact HBq.out.size) _)))) (first | ((with_reducible refine (diary_of.calls t.f0 t.f1.f0 t.f1.f1 t.f1.f2 t.f1.f3 t.f1.f4 t.f0 t.f1.f0 t.f1.f1 t.f1.f2 w1.drew rfl).mono ?_); rintro e w2 ⟨rfl, hb⟩; have hbq : Below w1.heap.size w1 w2 := below_step (below_drew (Below.refl _ w1)) hb; have HBq := Aside0.mk hbq; have lk := HLK.out w2 hbq; have lk2 := HLK.out (w2.alloc (.cells #[.int .i64 0, .int .i64 0, .int .i64 0, .int .i64 0, .int .i64 0, .string ⟨#[]⟩] 31)) (below_alloc hbq _); clear hb hbq) | ((with_reducible refine (diary_of.calls t.f0 t.f1.f0 t.f1.f1 t.f1.f2 t.f1.f3 t.f1.f4 t.f0 t.f1.f0 t.f1.f1 t.f1.f2 (World.drew (w1.alloc (.cells #[.int .i64 0, .int .i64 0, .int .i64 0, .int .i64 0, .int .i64 0, .string ⟨#[]⟩] 31))) rfl).mono ?_); rintro e w2 ⟨rfl, hb⟩; have hbq : Below w1.heap.size w1 w2 := below_step (below_drew (below_alloc (Below.refl _ w1) (.cells #[.int .i64 0, .int .i64 0, .int .i64 0, .int .i64 0, .int .i64 0, .string ⟨#[]⟩] 31))) hb; have HBq := Aside0.mk hbq; have hy3 := blk_below (show (World.drew (w1.alloc (.cells #[.int .i64 0, .int .i64 0, .int .i64 0, .int .i64 0, .int .i64 0, .string ⟨#[]⟩] 31 (0, 0)))).heap[w1.heap.size]? = some (.cells #[.int .i64 0, .int .i64 0, .int .i64 0, .int .i64 0, .int .i64 0, .string ⟨#[]⟩] 31 (0, 0)) from blk_new w1 _) hb; have j0 : w2.cell? ⟨w1.heap.size, 0, none⟩ = some (.int .i64 0) := (blk_cell hy3 0).trans rfl; have jz0 : w2.frozen? ⟨w1.heap.size, 0, none⟩ = false := blk_frozen hy3 0; have j1 : w2.cell? ⟨w1.heap.size, 1, none⟩ = some (.int .i64 0) := (blk_cell hy3 1).trans rfl; have jz1 : w2.frozen? ⟨w1.heap.size, 1, none⟩ = false := blk_frozen hy3 1; have j2 : w2.cell? ⟨w1.heap.size, 2, none⟩ = some (.int .i64 0) := (blk_cell hy3 2).trans rfl; have jz2 : w2.frozen? ⟨w1.heap.size, 2, none⟩ = false := blk_frozen hy3 2; have j3 : w2.cell? ⟨w1.heap.size, 3, none⟩ = some (.int .i64 0) := (blk_cell hy3 3).trans rfl; have jz3 : w2.frozen? ⟨w1.heap.size, 3, none⟩ = false := blk_frozen hy3 3; have j4 : w2.cell? ⟨w1.heap.size, 4, none⟩ = some (.int .i64 0) := (blk_cell hy3 4).trans rfl; have jz4 : w2.frozen? ⟨w1.heap.size, 4, none⟩ = false := blk_frozen hy3 4; have j5 : w2.cell? ⟨w1.heap.size, 5, none⟩ = some (.string ⟨#[]⟩) := (blk_cell hy3 5).trans rfl; have jz5 : w2.frozen? ⟨w1.heap.size, 5, none⟩ = false := blk_frozen hy3 5; clear hy3; have lk := HLK.out w2 hbq; have lk2 := HLK.out (w2.alloc (.cells #[.int .i64 0, .int .i64 0, .int .i64 0, .int .i64 0, .int .i64 0, .string ⟨#[]⟩] 31)) (below_alloc hbq _); clear hb hbq))
  all_goals
    cases b
    all_goals
      go_wp2
      go_ret
      exact ⟨rfl, below_step HB1.out (by repeat (first | (with_reducible exact Below.refl _ _) | (with_reducible exact HBq.out) | (with_reducible apply below_alloc) | (with_reducible apply below_drew) | (with_reducible refine Below.setCell ?_ (by first | exact Nat.le_refl _ | exact HBq.out.size) _)))⟩
end Go.Proofs.Ytbihlbalmihbdaa.Di
namespace Go.Proofs.Ytbihlbalmihbdaa.Di
open Go.RowKit Go.Proofs.Ytbihlbalmihbdaa.PAll Go.Proofs.YtbihlbalmihbdaaW.PrintWords Go.Proofs.YtbihlbalmihbdaaW.PrintLast Go.Proofs.YtbihlbalmihbdaaW.PrintMore SG Go.Proofs.Ytbihlbalmihbdaa.Fun Go.Proofs.Ytbihlbalmihbdaa.Wal
set_option linter.unusedVariables false
set_option linter.unusedSimpArgs false


section
variable {w w' : World} {B d m a : Nat} {okA okW : Nat → Prop} {AV WV : Value} {first all wait : List S31} {recs : List By} {sure : Nat}
theorem Dx.openA (h : Dx w B d m a okA okW AV WV first all wait recs sure) : Dx w B d m a (fun k => (okA k ∧ k < w.heap.size) ∨ w.heap.size ≤ k) (fun k => okW k ∧ k < w.heap.size) AV WV first all wait recs sure := by
  obtain ⟨h1, h2, h3, h4, h5, h6, h7, h8, h9⟩ := h
  exact ⟨h1, h2, h3, h4, h5, Kd.R_mono (Kd.R_bound h6) (fun k hk => .inl ⟨hk.1, hk.2.2.1⟩), Kd.R_mono (Kd.R_bound h7) (fun k hk => ⟨hk.1, hk.2.2.1⟩), fun k hk hw => hk.elim (fun h => h8 k h.1 hw.1) (fun h => by omega), h9⟩
theorem Dx.openW (h : Dx w B d m a okA okW AV WV first all wait recs sure) : Dx w B d m a (fun k => okA k ∧ k < w.heap.size) (fun k => (okW k ∧ k < w.heap.size) ∨ w.heap.size ≤ k) AV WV first all wait recs sure := by
  obtain ⟨h1, h2, h3, h4, h5, h6, h7, h8, h9⟩ := h
  exact ⟨h1, h2, h3, h4, h5, Kd.R_mono (Kd.R_bound h6) (fun k hk => ⟨hk.1, hk.2.2.1⟩), Kd.R_mono (Kd.R_bound h7) (fun k hk => .inl ⟨hk.1, hk.2.2.1⟩), fun k hk hw => hw.elim (fun h => h8 k hk.1 h.1) (fun h => by omega), h9⟩
/-- The row of those that wait is another, and d's third cell says so. -/
theorem Dx.waited {WV' : Value} {wait' : List S31} (h : Dx w B d m a okA okW AV WV first all wait recs sure) (hr : k31.R 31 w' B okW WV' wait') (hg : w.grownBy w' WV.ownBlock) (hb : Below B w w') : Dx (w'.setCell ⟨d, 2, none⟩ WV') B d m a okA okW AV WV' first all wait' recs sure ∧ Below B w (w'.setCell ⟨d, 2, none⟩ WV') ∧ Kept w (w'.setCell ⟨d, 2, none⟩ WV') (fun k => k = d ∨ WV.ownBlock = some k) := by
  have hmp := h.map
  have hrow := h.rowW
  have hd := h.blk
  have hne := h.ne
  obtain ⟨h1, h2, h3, h4, h5, h6, h7, h8, h9⟩ := h
  have hk : Kept w (w'.setCell ⟨d, 2, none⟩ WV') (fun k => k = d ∨ WV.ownBlock = some k) := (Kept.of_grown hg (Kept.refl w _) (fun k hk => .inl (.inr hk))).setCell (.inl (.inl rfl)) _
  have hd' := blk_grown hd hg (Kd.R_ne hrow hd (by decide))
  have ty : ∀ {k q : Nat} {cells : Array Value}, (k = d ∨ WV.ownBlock = some k) → w.heap[k]? = some (.cells cells q (0, 0)) → q = 51 ∨ q = 31 := by
    rintro k q cells (rfl | hk) hc
    · rw [hd] at hc
      injection hc with hc
      injection hc with _ hc
      exact .inl hc.symm
    · obtain ⟨_, ⟨c, hc'⟩, _⟩ := row_lt hrow hk
      rw [hc'] at hc
      injection hc with hc
      injection hc with _ hc
      exact .inr hc.symm
  refine ⟨⟨h1, h2, Nat.le_trans h3 (by simpa [World.setCell] using hb.size), by simpa using blk_set hd' 2 WV', h5.kept hk ?_, R31_kept h6 hk ?_, Kd.R_set hr hd' (fun q hq => by rw [k31_types q hq]; decide) 2 WV', h8, lg_keptT h9 hk ?_⟩, hb.setCell h1 _, hk⟩
  · rintro (e | hk)
    · exact hne e.symm
    · obtain ⟨_, ⟨c, hc⟩, _⟩ := row_lt hrow hk
      exact map_not hmp hc rfl
  · rintro k cells ho _ hc (rfl | hk)
    · rw [hd] at hc
      injection hc with hc
      injection hc with _ hc
      exact absurd hc (by decide)
    · exact h8 k ho (row_lt hrow hk).2.2
  · rintro k hk ⟨cells, q, hc, hq⟩
    rcases ty hk hc with rfl | rfl
    · exact absurd hq (by decide)
    · exact absurd hq (by decide)
end

/-- A log's block of a later world is one of this world, or a new one. -/
theorem lg_back {w w1 : World} (h : Below w.heap.size w w1) (k : Nat) (t : TLg w1 k) : TLg w k ∨ w.heap.size ≤ k := by
  by_cases hk : k < w.heap.size
  · obtain ⟨cells, q, hc, hq⟩ := t
    exact .inl ⟨cells, q, (h.block k hk).symm.trans hc, hq⟩
  · exact .inr (by omega)

set_option maxHeartbeats 16000000 in
set_option maxRecDepth 100000 in
theorem DSayFull0 {w : World} {B d m a : Nat} {okA okW : Nat → Prop} {AV WV : Value} {first all wait : List S31} {recs : List By} {sure : Nat} (hx : Dx w B d m a okA okW AV WV first all wait recs sure) (hF : ∀ t ∈ first, wfT t) (hP : first.Pairwise (fun a b => pl a b = false)) (t : S31) (ht : wfT t) (K : Nat) (hK : wire_CheckWord.f K t.f1.f0 t.f1.f1 t.f1.f2 t.f1.f3 t.f1.f4 = some 0) (h0 : 0 ≤ t.f0 ∧ t.f0 ≤ 64) (hn : at_ first t = none) (K2 : Nat) (s : By) (hs : s.length ≤ 140737488351232) (hRC : diary_record.f K2 t.f0 t.f1.f0 t.f1.f1 t.f1.f2 t.f1.f3 t.f1.f4 = some (mk s)) (he : appE recs s ≠ 0) :
    Calls Try.prog 12 #[.pointer (some ⟨d, 0, none⟩), .agg (cT t)] w fun e w' => e = .returned (.int .i64 7) ∧ Dx w' B d m a okA okW AV WV first all wait recs sure ∧ Below B w w' ∧ Kept w w' (TLg w) := by
  have HK := Aside0.mk hK
  have t1 : decide (t.f0 < 0) = false := decide_eq_false (by omega)
  have t2 : decide (64 < t.f0) = false := decide_eq_false (by omega)
  have HX := Aside0.mk hx
  have HRC := Aside0.mk hRC
  have hne : (appE recs s != 0) = true := bne_iff_ne.mpr he
  have HAL := Aside0.mk (show appL recs s = recs by unfold appL; rw [if_neg he])
  clear hRC he
  unfold cT
  clear hx hK h0
  go_enter Try.func12, Try.ntmps12
  go_wp2_with (first | ((with_reducible refine gate_dst (N := 3) rfl ?_); refine box_event ?hg (N := 3) ?hd (cs := #[.int .i64 t.f0, .int .i64 t.f1.f0, .int .i64 t.f1.f1, .int .i64 t.f1.f2, .int .i64 t.f1.f3, .string t.f1.f4]) (t := 31) ?hr ?_; (case hd => rfl); (case hg => rfl); (case hr => first | (go_simp; done) | (go_simp; rfl)); intro g hg w0 hbox hb; have HG0 := Aside0.mk (show w0.heap[g]? = some (.cells (cT t) 31 (0, 0)) from hbox); have HGE := Aside0.mk (show w.heap.size ≤ g by rw [hg]; exact Nat.le_refl _); have HB0 := Aside0.mk hb; have b0 : w0.cell? ⟨g, 0, none⟩ = some (.int .i64 t.f0) := (blk_cell hbox 0).trans rfl; have bz0 : w0.frozen? ⟨g, 0, none⟩ = false := blk_frozen hbox 0; have b1 : w0.cell? ⟨g, 1, none⟩ = some (.int .i64 t.f1.f0) := (blk_cell hbox 1).trans rfl; have bz1 : w0.frozen? ⟨g, 1, none⟩ = false := blk_frozen hbox 1; have b2 : w0.cell? ⟨g, 2, none⟩ = some (.int .i64 t.f1.f1) := (blk_cell hbox 2).trans rfl; have bz2 : w0.frozen? ⟨g, 2, none⟩ = false := blk_frozen hbox 2; have b3 : w0.cell? ⟨g, 3, none⟩ = some (.int .i64 t.f1.f2) := (blk_cell hbox 3).trans rfl; have bz3 : w0.frozen? ⟨g, 3, none⟩ = false := blk_frozen hbox 3; have b4 : w0.cell? ⟨g, 4, none⟩ = some (.int .i64 t.f1.f3) := (blk_cell hbox 4).trans rfl; have bz4 : w0.frozen? ⟨g, 4, none⟩ = false := blk_frozen hbox 4; have b5 : w0.cell? ⟨g, 5, none⟩ = some (.string t.f1.f4) := (blk_cell hbox 5).trans rfl; have bz5 : w0.frozen? ⟨g, 5, none⟩ = false := blk_frozen hbox 5; clear hg hbox hb) | ((refine (wire_CheckWord.calls K t.f1.f0 t.f1.f1 t.f1.f2 t.f1.f3 t.f1.f4 0 _ HK.out).mono ?_); rintro e w1 ⟨rfl, hb⟩; have HB1 := Aside0.mk (below_step HB0.out hb); have HG := Aside0.mk (blk_below HG0.out hb); clear hb))
  have HX1 := Aside0.mk (HX.out.below HB1.out)
  have SOF : Aside0 (∀ w', Below w1.heap.size w1 w' → w'.cell? ⟨d, 0, none⟩ = some (.map (some m)) ∧ w'.cell? ⟨g, 0, none⟩ = some (.int .i64 t.f0) ∧ w'.cell? ⟨g, 1, none⟩ = some (.int .i64 t.f1.f0) ∧ w'.cell? ⟨g, 2, none⟩ = some (.int .i64 t.f1.f1) ∧ w'.cell? ⟨g, 3, none⟩ = some (.int .i64 t.f1.f2) ∧ w'.cell? ⟨g, 4, none⟩ = some (.int .i64 t.f1.f3) ∧ w'.cell? ⟨g, 5, none⟩ = some (.string t.f1.f4)) := ⟨by
    intro w' hb
    have hd := (HX1.out.below hb).blk
    have hg := blk_below HG.out hb
    exact ⟨(blk_cell hd 0).trans rfl, (blk_cell hg 0).trans rfl, (blk_cell hg 1).trans rfl, (blk_cell hg 2).trans rfl, (blk_cell hg 3).trans rfl, (blk_cell hg 4).trans rfl, (blk_cell hg 5).trans rfl⟩⟩
  have HLK : Aside0 (∀ w', Below w1.heap.size w1 w' → (Instr.lookup 47 (.map (some m)) (.agg #[.int .i64 t.f0, .int .i64 t.f1.f0, .int .i64 t.f1.f1, .int .i64 t.f1.f2]) true).run Try.prog w' = .ok (.tuple #[.agg #[.int .i64 0, .int .i64 0, .int .i64 0, .int .i64 0, .int .i64 0, .string ⟨#[]⟩], .bool false]) w') := ⟨by
    intro w' hb
    have h := run_look (HX1.out.below hb).2.2.2.2.1 hF hP ht
    rw [hn] at h
    exact h⟩
  go_region_held (fun w' => w'.cell? ⟨d, 0, none⟩ = some (.map (some m)) ∧ w'.cell? ⟨g, 0, none⟩ = some (.int .i64 t.f0) ∧ w'.cell? ⟨g, 1, none⟩ = some (.int .i64 t.f1.f0) ∧ w'.cell? ⟨g, 2, none⟩ = some (.int .i64 t.f1.f1) ∧ w'.cell? ⟨g, 3, none⟩ = some (.int .i64 t.f1.f2) ∧ w'.cell? ⟨g, 4, none⟩ = some (.int .i64 t.f1.f3) ∧ w'.cell? ⟨g, 5, none⟩ = some (.string t.f1.f4)) (exact SOF.out _ (by repeat (first | (with_reducible exact Below.refl _ _) | (with_reducible exact HBq.out) | (with_reducible apply below_alloc) | (with_reducible apply below_drew) | (with_reducible refine Below.setCell ?_ (by first | exact Nat.le_refl _ | exact HBq.out.size) _)))) (first | ((with_reducible refine (diary_of.calls t.f0 t.f1.f0 t.f1.f1 t.f1.f2 t.f1.f3 t.f1.f4 t.f0 t.f1.f0 t.f1.f1 t.f1.f2 w1.drew rfl).mono ?_); rintro e w2 ⟨rfl, hb⟩; have hbq : Below w1.heap.size w1 w2 := below_step (below_drew (Below.refl _ w1)) hb; have HBq := Aside0.mk hbq; have lk := HLK.out w2 hbq; have lk2 := HLK.out (w2.alloc (.cells #[.int .i64 0, .int .i64 0, .int .i64 0, .int .i64 0, .int .i64 0, .string ⟨#[]⟩] 31)) (below_alloc hbq _); clear hb hbq) | ((with_reducible refine (diary_of.calls t.f0 t.f1.f0 t.f1.f1 t.f1.f2 t.f1.f3 t.f1.f4 t.f0 t.f1.f0 t.f1.f1 t.f1.f2 (World.drew (w1.alloc (.cells #[.int .i64 0, .int .i64 0, .int .i64 0, .int .i64 0, .int .i64 0, .string ⟨#[]⟩] 31))) rfl).mono ?_); rintro e w2 ⟨rfl, hb⟩; have hbq : Below w1.heap.size w1 w2 := below_step (below_drew (below_alloc (Below.refl _ w1) (.cells #[.int .i64 0, .int .i64 0, .int .i64 0, .int .i64 0, .int .i64 0, .string ⟨#[]⟩] 31))) hb; have HBq := Aside0.mk hbq; have hy3 := blk_below (show (World.drew (w1.alloc (.cells #[.int .i64 0, .int .i64 0, .int .i64 0, .int .i64 0, .int .i64 0, .string ⟨#[]⟩] 31 (0, 0)))).heap[w1.heap.size]? = some (.cells #[.int .i64 0, .int .i64 0, .int .i64 0, .int .i64 0, .int .i64 0, .string ⟨#[]⟩] 31 (0, 0)) from blk_new w1 _) hb; have j0 : w2.cell? ⟨w1.heap.size, 0, none⟩ = some (.int .i64 0) := (blk_cell hy3 0).trans rfl; have jz0 : w2.frozen? ⟨w1.heap.size, 0, none⟩ = false := blk_frozen hy3 0; have j1 : w2.cell? ⟨w1.heap.size, 1, none⟩ = some (.int .i64 0) := (blk_cell hy3 1).trans rfl; have jz1 : w2.frozen? ⟨w1.heap.size, 1, none⟩ = false := blk_frozen hy3 1; have j2 : w2.cell? ⟨w1.heap.size, 2, none⟩ = some (.int .i64 0) := (blk_cell hy3 2).trans rfl; have jz2 : w2.frozen? ⟨w1.heap.size, 2, none⟩ = false := blk_frozen hy3 2; have j3 : w2.cell? ⟨w1.heap.size, 3, none⟩ = some (.int .i64 0) := (blk_cell hy3 3).trans rfl; have jz3 : w2.frozen? ⟨w1.heap.size, 3, none⟩ = false := blk_frozen hy3 3; have j4 : w2.cell? ⟨w1.heap.size, 4, none⟩ = some (.int .i64 0) := (blk_cell hy3 4).trans rfl; have jz4 : w2.frozen? ⟨w1.heap.size, 4, none⟩ = false := blk_frozen hy3 4; have j5 : w2.cell? ⟨w1.heap.size, 5, none⟩ = some (.string ⟨#[]⟩) := (blk_cell hy3 5).trans rfl; have jz5 : w2.frozen? ⟨w1.heap.size, 5, none⟩ = false := blk_frozen hy3 5; clear hy3; have lk := HLK.out w2 hbq; have lk2 := HLK.out (w2.alloc (.cells #[.int .i64 0, .int .i64 0, .int .i64 0, .int .i64 0, .int .i64 0, .string ⟨#[]⟩] 31)) (below_alloc hbq _); clear hb hbq))
  all_goals
    refine swapP (K := Exit.then _ _ _) (Pr := fun w' => Below w1.heap.size w1 w') (by repeat (first | (with_reducible exact Below.refl _ _) | (with_reducible exact HBq.out) | (with_reducible apply below_alloc) | (with_reducible apply below_drew) | (with_reducible refine Below.setCell ?_ (by first | exact Nat.le_refl _ | exact HBq.out.size) _))) ?_
    intro w3 hb3
    have HB3 := Aside0.mk hb3
    have SO8 : Aside0 (∀ w' : World, w'.heap[d]? = some (.cells #[.map (some m), AV, WV, .pointer (some ⟨a, 0, none⟩)] 51 (0, 0)) ∧ w'.heap[g]? = some (.cells (cT t) 31 (0, 0)) → w'.cell? ⟨d, 3, none⟩ = some (.pointer (some ⟨a, 0, none⟩)) ∧ w'.cell? ⟨g, 0, none⟩ = some (.int .i64 t.f0) ∧ w'.cell? ⟨g, 1, none⟩ = some (.int .i64 t.f1.f0) ∧ w'.cell? ⟨g, 2, none⟩ = some (.int .i64 t.f1.f1) ∧ w'.cell? ⟨g, 3, none⟩ = some (.int .i64 t.f1.f2) ∧ w'.cell? ⟨g, 4, none⟩ = some (.int .i64 t.f1.f3) ∧ w'.cell? ⟨g, 5, none⟩ = some (.string t.f1.f4)) := ⟨fun w' h => ⟨(blk_cell h.1 3).trans rfl, (blk_cell h.2 0).trans rfl, (blk_cell h.2 1).trans rfl, (blk_cell h.2 2).trans rfl, (blk_cell h.2 3).trans rfl, (blk_cell h.2 4).trans rfl, (blk_cell h.2 5).trans rfl⟩⟩
    have HD3 := Aside0.mk (And.intro (HX1.out.below hb3).blk (blk_below HG.out hb3))
    clear lk lk2 hb3 HBq
    go_wp2
    go_region_held (fun w' => w'.cell? ⟨d, 3, none⟩ = some (.pointer (some ⟨a, 0, none⟩)) ∧ w'.cell? ⟨g, 0, none⟩ = some (.int .i64 t.f0) ∧ w'.cell? ⟨g, 1, none⟩ = some (.int .i64 t.f1.f0) ∧ w'.cell? ⟨g, 2, none⟩ = some (.int .i64 t.f1.f1) ∧ w'.cell? ⟨g, 3, none⟩ = some (.int .i64 t.f1.f2) ∧ w'.cell? ⟨g, 4, none⟩ = some (.int .i64 t.f1.f3) ∧ w'.cell? ⟨g, 5, none⟩ = some (.string t.f1.f4)) (exact SO8.out _ (by first | exact HD5.out | exact HD4.out | exact HD3.out)) (first | ((with_reducible refine (diary_record.calls K2 t.f0 t.f1.f0 t.f1.f1 t.f1.f2 t.f1.f3 t.f1.f4 (mk s) w3.drew HRC.out).mono ?_); rintro e w4 ⟨rfl, hb⟩; have hbq : Below w1.heap.size w1 w4 := below_step (below_drew HB3.out) hb; have HBq := Aside0.mk hbq; have HD4 := Aside0.mk (And.intro (HX1.out.below hbq).blk (blk_below HG.out hbq)); clear hb hbq) | ((with_reducible refine (LAppend (HX1.out.below HBq.out).lg (HX1.out.below HBq.out).size s hs).mono ?_); rintro e w5 ⟨rfl, L, hb, hk⟩; rw [HAL.out] at L; have hx5 := (HX1.out.below HBq.out).log L hb hk; have HX5 := Aside0.mk hx5; have hg5 := blk_kept (blk_below HG.out HBq.out) hk (not_lg (blk_below HG.out HBq.out) (by decide) (by decide) (by decide) (by decide)); have HG5 := Aside0.mk hg5; have HB5 := Aside0.mk (((HB1.out.mono HX.out.size).trans (HBq.out.mono HX1.out.size)).trans hb); have HK5 := Aside0.mk ((Kept.of_below (below_step HB1.out HBq.out) (TLg w)).then_ hk (fun k t => lg_back (below_step HB1.out HBq.out) k t)); have HD5 := Aside0.mk (And.intro hx5.blk hg5); clear L hb hk hx5 hg5))
    go_wp2
    go_ret
    exact ⟨rfl, HX5.out, HB5.out, HK5.out⟩
end Go.Proofs.Ytbihlbalmihbdaa.Di
namespace Go.Proofs.Ytbihlbalmihbdaa.Di
open Go.RowKit Go.Proofs.Ytbihlbalmihbdaa.PAll Go.Proofs.YtbihlbalmihbdaaW.PrintWords Go.Proofs.YtbihlbalmihbdaaW.PrintLast Go.Proofs.YtbihlbalmihbdaaW.PrintMore SG Go.Proofs.Ytbihlbalmihbdaa.Fun Go.Proofs.Ytbihlbalmihbdaa.Wal
set_option linter.unusedVariables false
set_option linter.unusedSimpArgs false


section
variable {w w' : World} {B d m a : Nat} {okA okW : Nat → Prop} {AV WV : Value} {first all wait : List S31} {recs : List By} {sure : Nat}
theorem note_not {g : Nat} {cells : Array Value} (h : Dx w B d m a okA okW AV WV first all wait recs sure) (hg : w.heap[g]? = some (.cells cells 31 (0, 0))) (hr : ∀ k, AV.ownBlock = some k → k < g) : ¬ (g = d ∨ g = m ∨ AV.ownBlock = some g) := by
  rintro (rfl | e | e)
  · rw [h.blk] at hg
    injection hg with hg
    injection hg with _ hg
    exact absurd hg (by decide)
  · exact map_not h.map hg e
  · exact absurd (hr g e) (Nat.lt_irrefl g)
theorem say_kept {w5 w6 w8 : World} (h : Dx w B d m a okA okW AV WV first all wait recs sure) (h5 : Kept w w5 (TLg w)) (h6 : Kept w5 w6 (fun k => k = d ∨ k = m ∨ AV.ownBlock = some k)) (h8 : Kept w6 w8 (fun k => k = d ∨ WV.ownBlock = some k)) : Kept w w8 (TD (fun k => okA k ∨ okW k) w) := by
  have td : TD (fun k => okA k ∨ okW k) w d := .inl ⟨_, 51, h.blk, by simp⟩
  have tm : TD (fun k => okA k ∨ okW k) w m := by
    obtain ⟨es, c, hm, _⟩ := h.map
    exact .inr (.inl ⟨es, c, hm⟩)
  refine ((h5.mono (fun k hk => TD.of_log hk)).then_ h6 (fun k hk => .inl ?_)).then_ h8 (fun k hk => .inl ?_)
  · rcases hk with rfl | rfl | hk
    · exact td
    · exact tm
    · exact .inr (.inr (.inl (row_lt h.rowA hk).2.2))
  · rcases hk with rfl | hk
    · exact td
    · exact .inr (.inr (.inr (row_lt h.rowW hk).2.2))
end

set_option maxHeartbeats 16000000 in
set_option maxRecDepth 100000 in
theorem DSayNew0 {w : World} {B d m a : Nat} {okA okW : Nat → Prop} {AV WV : Value} {first all wait : List S31} {recs : List By} {sure : Nat} (hx : Dx w B d m a okA okW AV WV first all wait recs sure) (hF : ∀ t ∈ first, wfT t) (hP : first.Pairwise (fun a b => pl a b = false)) (t : S31) (ht : wfT t) (K : Nat) (hK : wire_CheckWord.f K t.f1.f0 t.f1.f1 t.f1.f2 t.f1.f3 t.f1.f4 = some 0) (h0 : 0 ≤ t.f0 ∧ t.f0 ≤ 64) (hn : at_ first t = none) (K2 : Nat) (s : By) (hs : s.length ≤ 140737488351232) (hRC : diary_record.f K2 t.f0 t.f1.f0 t.f1.f1 t.f1.f2 t.f1.f3 t.f1.f4 = some (mk s)) (he : appE recs s = 0) (hl : all.length ≤ 100000) (hl2 : wait.length ≤ 100000) :
    Calls Try.prog 12 #[.pointer (some ⟨d, 0, none⟩), .agg (cT t)] w fun e w' => e = .returned (.int .i64 0) ∧ (∃ okA' okW' AV' WV', Dx w' B d m a okA' okW' AV' WV' (first ++ [t]) (all ++ [t]) (wait ++ [t]) (recs ++ [s]) sure ∧ (∀ k, okA' k ∨ okW' k → okA k ∨ okW k ∨ w.heap.size ≤ k)) ∧ Below B w w' ∧ Kept w w' (TD (fun k => okA k ∨ okW k) w) := by
  have HK := Aside0.mk hK
  have t1 : decide (t.f0 < 0) = false := decide_eq_false (by omega)
  have t2 : decide (64 < t.f0) = false := decide_eq_false (by omega)
  have HX := Aside0.mk hx
  have HRC := Aside0.mk hRC
  have HAL := Aside0.mk (show appL recs s = recs ++ [s] by unfold appL; rw [if_pos he])
  have HTE := Aside0.mk he
  clear hRC he
  unfold cT
  clear hx hK h0
  go_enter Try.func12, Try.ntmps12
  go_wp2_with (first | ((with_reducible refine gate_dst (N := 3) rfl ?_); refine box_event ?hg (N := 3) ?hd (cs := #[.int .i64 t.f0, .int .i64 t.f1.f0, .int .i64 t.f1.f1, .int .i64 t.f1.f2, .int .i64 t.f1.f3, .string t.f1.f4]) (t := 31) ?hr ?_; (case hd => rfl); (case hg => rfl); (case hr => first | (go_simp; done) | (go_simp; rfl)); intro g hg w0 hbox hb; have HG0 := Aside0.mk (show w0.heap[g]? = some (.cells (cT t) 31 (0, 0)) from hbox); have HGE := Aside0.mk (show w.heap.size ≤ g by rw [hg]; exact Nat.le_refl _); have HB0 := Aside0.mk hb; have b0 : w0.cell? ⟨g, 0, none⟩ = some (.int .i64 t.f0) := (blk_cell hbox 0).trans rfl; have bz0 : w0.frozen? ⟨g, 0, none⟩ = false := blk_frozen hbox 0; have b1 : w0.cell? ⟨g, 1, none⟩ = some (.int .i64 t.f1.f0) := (blk_cell hbox 1).trans rfl; have bz1 : w0.frozen? ⟨g, 1, none⟩ = false := blk_frozen hbox 1; have b2 : w0.cell? ⟨g, 2, none⟩ = some (.int .i64 t.f1.f1) := (blk_cell hbox 2).trans rfl; have bz2 : w0.frozen? ⟨g, 2, none⟩ = false := blk_frozen hbox 2; have b3 : w0.cell? ⟨g, 3, none⟩ = some (.int .i64 t.f1.f2) := (blk_cell hbox 3).trans rfl; have bz3 : w0.frozen? ⟨g, 3, none⟩ = false := blk_frozen hbox 3; have b4 : w0.cell? ⟨g, 4, none⟩ = some (.int .i64 t.f1.f3) := (blk_cell hbox 4).trans rfl; have bz4 : w0.frozen? ⟨g, 4, none⟩ = false := blk_frozen hbox 4; have b5 : w0.cell? ⟨g, 5, none⟩ = some (.string t.f1.f4) := (blk_cell hbox 5).trans rfl; have bz5 : w0.frozen? ⟨g, 5, none⟩ = false := blk_frozen hbox 5; clear hg hbox hb) | ((refine (wire_CheckWord.calls K t.f1.f0 t.f1.f1 t.f1.f2 t.f1.f3 t.f1.f4 0 _ HK.out).mono ?_); rintro e w1 ⟨rfl, hb⟩; have HB1 := Aside0.mk (below_step HB0.out hb); have HG := Aside0.mk (blk_below HG0.out hb); clear hb))
  have HX1 := Aside0.mk (HX.out.below HB1.out)
  have SOF : Aside0 (∀ w', Below w1.heap.size w1 w' → w'.cell? ⟨d, 0, none⟩ = some (.map (some m)) ∧ w'.cell? ⟨g, 0, none⟩ = some (.int .i64 t.f0) ∧ w'.cell? ⟨g, 1, none⟩ = some (.int .i64 t.f1.f0) ∧ w'.cell? ⟨g, 2, none⟩ = some (.int .i64 t.f1.f1) ∧ w'.cell? ⟨g, 3, none⟩ = some (.int .i64 t.f1.f2) ∧ w'.cell? ⟨g, 4, none⟩ = some (.int .i64 t.f1.f3) ∧ w'.cell? ⟨g, 5, none⟩ = some (.string t.f1.f4)) := ⟨by
    intro w' hb
    have hd := (HX1.out.below hb).blk
    have hg := blk_below HG.out hb
    exact ⟨(blk_cell hd 0).trans rfl, (blk_cell hg 0).trans rfl, (blk_cell hg 1).trans rfl, (blk_cell hg 2).trans rfl, (blk_cell hg 3).trans rfl, (blk_cell hg 4).trans rfl, (blk_cell hg 5).trans rfl⟩⟩
  have HLK : Aside0 (∀ w', Below w1.heap.size w1 w' → (Instr.lookup 47 (.map (some m)) (.agg #[.int .i64 t.f0, .int .i64 t.f1.f0, .int .i64 t.f1.f1, .int .i64 t.f1.f2]) true).run Try.prog w' = .ok (.tuple #[.agg #[.int .i64 0, .int .i64 0, .int .i64 0, .int .i64 0, .int .i64 0, .string ⟨#[]⟩], .bool false]) w') := ⟨by
    intro w' hb
    have h := run_look (HX1.out.below hb).2.2.2.2.1 hF hP ht
    rw [hn] at h
    exact h⟩
  go_region_held (fun w' => w'.cell? ⟨d, 0, none⟩ = some (.map (some m)) ∧ w'.cell? ⟨g, 0, none⟩ = some (.int .i64 t.f0) ∧ w'.cell? ⟨g, 1, none⟩ = some (.int .i64 t.f1.f0) ∧ w'.cell? ⟨g, 2, none⟩ = some (.int .i64 t.f1.f1) ∧ w'.cell? ⟨g, 3, none⟩ = some (.int .i64 t.f1.f2) ∧ w'.cell? ⟨g, 4, none⟩ = some (.int .i64 t.f1.f3) ∧ w'.cell? ⟨g, 5, none⟩ = some (.string t.f1.f4)) (exact SOF.out _ (by repeat (first | (with_reducible exact Below.refl _ _) | (with_reducible exact HBq.out) | (with_reducible apply below_alloc) | (with_reducible apply below_drew) | (with_reducible refine Below.setCell ?_ (by first | exact Nat.le_refl _ | exact HBq.out.size) _)))) (first | ((with_reducible refine (diary_of.calls t.f0 t.f1.f0 t.f1.f1 t.f1.f2 t.f1.f3 t.f1.f4 t.f0 t.f1.f0 t.f1.f1 t.f1.f2 w1.drew rfl).mono ?_); rintro e w2 ⟨rfl, hb⟩; have hbq : Below w1.heap.size w1 w2 := below_step (below_drew (Below.refl _ w1)) hb; have HBq := Aside0.mk hbq; have lk := HLK.out w2 hbq; have lk2 := HLK.out (w2.alloc (.cells #[.int .i64 0, .int .i64 0, .int .i64 0, .int .i64 0, .int .i64 0, .string ⟨#[]⟩] 31)) (below_alloc hbq _); clear hb hbq) | ((with_reducible refine (diary_of.calls t.f0 t.f1.f0 t.f1.f1 t.f1.f2 t.f1.f3 t.f1.f4 t.f0 t.f1.f0 t.f1.f1 t.f1.f2 (World.drew (w1.alloc (.cells #[.int .i64 0, .int .i64 0, .int .i64 0, .int .i64 0, .int .i64 0, .string ⟨#[]⟩] 31))) rfl).mono ?_); rintro e w2 ⟨rfl, hb⟩; have hbq : Below w1.heap.size w1 w2 := below_step (below_drew (below_alloc (Below.refl _ w1) (.cells #[.int .i64 0, .int .i64 0, .int .i64 0, .int .i64 0, .int .i64 0, .string ⟨#[]⟩] 31))) hb; have HBq := Aside0.mk hbq; have hy3 := blk_below (show (World.drew (w1.alloc (.cells #[.int .i64 0, .int .i64 0, .int .i64 0, .int .i64 0, .int .i64 0, .string ⟨#[]⟩] 31 (0, 0)))).heap[w1.heap.size]? = some (.cells #[.int .i64 0, .int .i64 0, .int .i64 0, .int .i64 0, .int .i64 0, .string ⟨#[]⟩] 31 (0, 0)) from blk_new w1 _) hb; have j0 : w2.cell? ⟨w1.heap.size, 0, none⟩ = some (.int .i64 0) := (blk_cell hy3 0).trans rfl; have jz0 : w2.frozen? ⟨w1.heap.size, 0, none⟩ = false := blk_frozen hy3 0; have j1 : w2.cell? ⟨w1.heap.size, 1, none⟩ = some (.int .i64 0) := (blk_cell hy3 1).trans rfl; have jz1 : w2.frozen? ⟨w1.heap.size, 1, none⟩ = false := blk_frozen hy3 1; have j2 : w2.cell? ⟨w1.heap.size, 2, none⟩ = some (.int .i64 0) := (blk_cell hy3 2).trans rfl; have jz2 : w2.frozen? ⟨w1.heap.size, 2, none⟩ = false := blk_frozen hy3 2; have j3 : w2.cell? ⟨w1.heap.size, 3, none⟩ = some (.int .i64 0) := (blk_cell hy3 3).trans rfl; have jz3 : w2.frozen? ⟨w1.heap.size, 3, none⟩ = false := blk_frozen hy3 3; have j4 : w2.cell? ⟨w1.heap.size, 4, none⟩ = some (.int .i64 0) := (blk_cell hy3 4).trans rfl; have jz4 : w2.frozen? ⟨w1.heap.size, 4, none⟩ = false := blk_frozen hy3 4; have j5 : w2.cell? ⟨w1.heap.size, 5, none⟩ = some (.string ⟨#[]⟩) := (blk_cell hy3 5).trans rfl; have jz5 : w2.frozen? ⟨w1.heap.size, 5, none⟩ = false := blk_frozen hy3 5; clear hy3; have lk := HLK.out w2 hbq; have lk2 := HLK.out (w2.alloc (.cells #[.int .i64 0, .int .i64 0, .int .i64 0, .int .i64 0, .int .i64 0, .string ⟨#[]⟩] 31)) (below_alloc hbq _); clear hb hbq))
  all_goals
    refine swapP (K := Exit.then _ _ _) (Pr := fun w' => Below w1.heap.size w1 w') (by repeat (first | (with_reducible exact Below.refl _ _) | (with_reducible exact HBq.out) | (with_reducible apply below_alloc) | (with_reducible apply below_drew) | (with_reducible refine Below.setCell ?_ (by first | exact Nat.le_refl _ | exact HBq.out.size) _))) ?_
    intro w3 hb3
    have HB3 := Aside0.mk hb3
    have SO8 : Aside0 (∀ w' : World, w'.heap[d]? = some (.cells #[.map (some m), AV, WV, .pointer (some ⟨a, 0, none⟩)] 51 (0, 0)) ∧ w'.heap[g]? = some (.cells (cT t) 31 (0, 0)) → w'.cell? ⟨d, 3, none⟩ = some (.pointer (some ⟨a, 0, none⟩)) ∧ w'.cell? ⟨g, 0, none⟩ = some (.int .i64 t.f0) ∧ w'.cell? ⟨g, 1, none⟩ = some (.int .i64 t.f1.f0) ∧ w'.cell? ⟨g, 2, none⟩ = some (.int .i64 t.f1.f1) ∧ w'.cell? ⟨g, 3, none⟩ = some (.int .i64 t.f1.f2) ∧ w'.cell? ⟨g, 4, none⟩ = some (.int .i64 t.f1.f3) ∧ w'.cell? ⟨g, 5, none⟩ = some (.string t.f1.f4)) := ⟨fun w' h => ⟨(blk_cell h.1 3).trans rfl, (blk_cell h.2 0).trans rfl, (blk_cell h.2 1).trans rfl, (blk_cell h.2 2).trans rfl, (blk_cell h.2 3).trans rfl, (blk_cell h.2 4).trans rfl, (blk_cell h.2 5).trans rfl⟩⟩
    have HD3 := Aside0.mk (And.intro (HX1.out.below hb3).blk (blk_below HG.out hb3))
    clear lk lk2 hb3 HBq
    go_wp2
    go_region_held (fun w' => w'.cell? ⟨d, 3, none⟩ = some (.pointer (some ⟨a, 0, none⟩)) ∧ w'.cell? ⟨g, 0, none⟩ = some (.int .i64 t.f0) ∧ w'.cell? ⟨g, 1, none⟩ = some (.int .i64 t.f1.f0) ∧ w'.cell? ⟨g, 2, none⟩ = some (.int .i64 t.f1.f1) ∧ w'.cell? ⟨g, 3, none⟩ = some (.int .i64 t.f1.f2) ∧ w'.cell? ⟨g, 4, none⟩ = some (.int .i64 t.f1.f3) ∧ w'.cell? ⟨g, 5, none⟩ = some (.string t.f1.f4)) (exact SO8.out _ (by first | exact HD5.out | exact HD4.out | exact HD3.out)) (first | ((with_reducible refine (diary_record.calls K2 t.f0 t.f1.f0 t.f1.f1 t.f1.f2 t.f1.f3 t.f1.f4 (mk s) w3.drew HRC.out).mono ?_); rintro e w4 ⟨rfl, hb⟩; have hbq : Below w1.heap.size w1 w4 := below_step (below_drew HB3.out) hb; have HBq := Aside0.mk hbq; have HD4 := Aside0.mk (And.intro (HX1.out.below hbq).blk (blk_below HG.out hbq)); clear hb hbq) | ((with_reducible refine (LAppend (HX1.out.below HBq.out).lg (HX1.out.below HBq.out).size s hs).mono ?_); rintro e w5 ⟨rfl, L, hb, hk⟩; rw [HTE.out]; rw [HAL.out] at L; have hx5 := (HX1.out.below HBq.out).log L hb hk; have HX5 := Aside0.mk hx5; have hg5 := blk_kept (blk_below HG.out HBq.out) hk (not_lg (blk_below HG.out HBq.out) (by decide) (by decide) (by decide) (by decide)); have HG5 := Aside0.mk hg5; have HB5 := Aside0.mk (((HB1.out.mono HX.out.size).trans (HBq.out.mono HX1.out.size)).trans hb); have HK5 := Aside0.mk ((Kept.of_below (below_step HB1.out HBq.out) (TLg w)).then_ hk (fun k t => lg_back (below_step HB1.out HBq.out) k t)); have HD5 := Aside0.mk (And.intro hx5.blk hg5); clear L hb hk hx5 hg5))
    go_wp2_with (first | ((with_reducible refine gate_callee (f := 23) rfl ?_); refine goesL_ (some 49) rfl rfl Try.func23 (by kernel_rfl) rfl #[.pointer (some ⟨d, 0, none⟩), .agg (cT t)] rfl (by (try simp only [List.map_toArray, List.map_cons, List.map_nil]); first | done | rfl) ?_; (with_reducible refine (DNote HX5.out.openA hF hP t ht (fun k hk => .inr hk) hl hn).mono ?_); rintro e w6 ⟨rfl, ⟨AV6, hx6⟩, hb6, hk6⟩; refine ⟨_, rfl, ?_⟩; have HX6 := Aside0.mk hx6.openW; have HB6 := Aside0.mk (HB5.out.trans hb6); have HK6 := Aside0.mk hk6; have HS6 := Aside0.mk hb6.size; have HG6 := Aside0.mk (blk_kept HG5.out hk6 (note_not HX5.out HG5.out (by have := (HGE.out); exact fun k hk => Nat.lt_of_lt_of_le (row_lt HX.out.rowA hk).1 this))); have c1 : w6.cell? ⟨d, 2, none⟩ = some WV := (blk_cell hx6.blk 2).trans rfl; have c1b : (w6.alloc (.cells #[.int .i64 t.f0, .int .i64 t.f1.f0, .int .i64 t.f1.f1, .int .i64 t.f1.f2, .int .i64 t.f1.f3, .string t.f1.f4] 31)).cell? ⟨d, 2, none⟩ = some WV := (blk_cell (blk_alloc hx6.blk _) 2).trans rfl; have hg6 := HG6.out; have k0 : w6.cell? ⟨g, 0, none⟩ = some (.int .i64 t.f0) := (blk_cell hg6 0).trans rfl; have kz0 : w6.frozen? ⟨g, 0, none⟩ = false := blk_frozen hg6 0; have k1 : w6.cell? ⟨g, 1, none⟩ = some (.int .i64 t.f1.f0) := (blk_cell hg6 1).trans rfl; have kz1 : w6.frozen? ⟨g, 1, none⟩ = false := blk_frozen hg6 1; have k2 : w6.cell? ⟨g, 2, none⟩ = some (.int .i64 t.f1.f1) := (blk_cell hg6 2).trans rfl; have kz2 : w6.frozen? ⟨g, 2, none⟩ = false := blk_frozen hg6 2; have k3 : w6.cell? ⟨g, 3, none⟩ = some (.int .i64 t.f1.f2) := (blk_cell hg6 3).trans rfl; have kz3 : w6.frozen? ⟨g, 3, none⟩ = false := blk_frozen hg6 3; have k4 : w6.cell? ⟨g, 4, none⟩ = some (.int .i64 t.f1.f3) := (blk_cell hg6 4).trans rfl; have kz4 : w6.frozen? ⟨g, 4, none⟩ = false := blk_frozen hg6 4; have k5 : w6.cell? ⟨g, 5, none⟩ = some (.string t.f1.f4) := (blk_cell hg6 5).trans rfl; have kz5 : w6.frozen? ⟨g, 5, none⟩ = false := blk_frozen hg6 5; clear hx6 hb6 hk6 hg6))
    have HX6d := Aside0.mk (HX6.out.below (below_drew (Below.refl _ _)))
    have HDG : d ≠ g := by
      have := blk_lt HX.out.blk
      have := HGE.out
      omega
    have HNE : some g ≠ WV.ownBlock := fun e => by
      have := (row_lt HX.out.rowW e.symm).1
      have := HGE.out
      omega
    go_region_law (first | (refine Kd.R_append_step k31 (w0 := w6.drew) (W := w6.drew) B rfl (.tmp 54) (.tmp 56) 27 31 (.agg (cT z31)) 56 rfl Try.underlying27 info31 rfl (by decide) (by decide) WV wait t [.int .i64 t.f0, .int .i64 t.f1.f0, .int .i64 t.f1.f1, .int .i64 t.f1.f2, .int .i64 t.f1.f3, .string t.f1.f4] (fun k => ((okW k ∧ k < w5.heap.size) ∧ k < w6.heap.size) ∨ w6.heap.size ≤ k) (fun _ => False) rfl rfl (k31_mkM _ _ _ t) (fun _ hk => hk.elim) (fun k hk => .inr hk) HX6d.out.rowW (Below.refl _ _) HX6d.out.size (by omega) ?_; intro v7 w7 hr7 hb7 hg7 hat7; obtain ⟨A7, k7, rfl⟩ := Kd.R_slice hr7; rw [List.length_append, List.length_singleton] at hr7 ⊢; have hg7b := blk_grown (show w6.drew.heap[g]? = _ from HG6.out) hg7 HNE; have hd7 := blk_grown HX6d.out.blk hg7 (Kd.R_ne HX6d.out.rowW HX6d.out.blk (by decide)); have HG7 := Aside0.mk hg7b; have HR7 := Aside0.mk hr7; have HB7 := Aside0.mk hb7; have HGR7 := Aside0.mk hg7; have e1 : w7.cell? ⟨d, 2, none⟩ = some WV := (blk_cell hd7 2).trans rfl; have z1 : w7.frozen? ⟨d, 2, none⟩ = false := blk_frozen hd7 2; clear hr7 hb7 hg7 hat7 hg7b hd7))
    all_goals
      go_wp2
      go_ret
      obtain ⟨n1, n2, n3⟩ := HX6d.out.waited HR7.out HGR7.out HB7.out
      have hs5 : w.heap.size ≤ w5.heap.size := HB5.out.size
      have hs6 := HS6.out
      refine ⟨rfl, ⟨_, _, _, _, n1, ?_⟩, (below_drew HB6.out).trans n2, say_kept HX.out HK5.out HK6.out n3⟩
      rintro k (⟨⟨h, _⟩ | h, _⟩ | ⟨⟨h, _⟩, _⟩ | h)
      · exact .inl h
      · exact .inr (.inr (Nat.le_trans hs5 h))
      · exact .inr (.inl h)
      · exact .inr (.inr (Nat.le_trans hs5 (Nat.le_trans hs6 h)))
end Go.Proofs.Ytbihlbalmihbdaa.Di
namespace Go.Proofs.Ytbihlbalmihbdaa.Di
open Go.RowKit Go.Proofs.Ytbihlbalmihbdaa.PAll Go.Proofs.YtbihlbalmihbdaaW.PrintWords Go.Proofs.YtbihlbalmihbdaaW.PrintLast Go.Proofs.YtbihlbalmihbdaaW.PrintMore SG Go.Proofs.Ytbihlbalmihbdaa.Fun Go.Proofs.Ytbihlbalmihbdaa.Wal
set_option linter.unusedVariables false
set_option linter.unusedSimpArgs false


/-- What a word that is noted makes of the first words. -/
def noteF (first : List S31) (t : S31) : List S31 := if (at_ first t).isNone then first ++ [t] else first
/-- What the records give: the first words, all words. -/
def crF (rd : By → S31 × Bool) (recs : List By) : List S31 × List S31 := recs.foldl (fun s r => if (rd r).2 = true then (noteF s.1 (rd r).1, s.2 ++ [(rd r).1]) else s) ([], [])
theorem crF_snoc (rd : By → S31 × Bool) (recs : List By) (r : By) : crF rd (recs ++ [r]) = if (rd r).2 = true then (noteF (crF rd recs).1 (rd r).1, (crF rd recs).2 ++ [(rd r).1]) else crF rd recs := by
  unfold crF
  rw [List.foldl_append]
  rfl
theorem note_wf {first : List S31} {t : S31} (h : ∀ x ∈ first, wfT x) (ht : wfT t) : ∀ x ∈ noteF first t, wfT x := by
  unfold noteF
  split
  · intro x hx
    rcases List.mem_append.1 hx with hx | hx
    · exact h x hx
    · rw [List.mem_singleton.1 hx]; exact ht
  · exact h
theorem note_pw {first : List S31} {t : S31} (h : first.Pairwise (fun a b => pl a b = false)) : (noteF first t).Pairwise (fun a b => pl a b = false) := by
  unfold noteF
  split
  · rename_i hn
    rw [List.pairwise_append]
    refine ⟨h, List.pairwise_singleton _ _, ?_⟩
    intro x hx y hy
    rw [List.mem_singleton.1 hy]
    have h1 : at_ first t = none := by simpa using hn
    unfold at_ at h1
    rw [List.find?_eq_none] at h1
    have h2 := h1 x hx
    cases hp : pl x t with
    | false => rfl
    | true => exact absurd (pl_comm hp) h2
  · exact h
theorem crG_wf (rd : By → S31 × Bool) (recs : List By) : ∀ (s : List S31 × List S31), (∀ r ∈ recs, (rd r).2 = true → wfT (rd r).1) → (∀ x ∈ s.1, wfT x) → s.1.Pairwise (fun a b => pl a b = false) →
    let o := recs.foldl (fun s r => if (rd r).2 = true then (noteF s.1 (rd r).1, s.2 ++ [(rd r).1]) else s) s
    (∀ x ∈ o.1, wfT x) ∧ o.1.Pairwise (fun a b => pl a b = false) ∧ o.2.length ≤ s.2.length + recs.length := by
  induction recs with
  | nil => intro s _ h1 h2; exact ⟨h1, h2, by simp⟩
  | cons r l ih =>
    intro s h h1 h2
    simp only [List.foldl_cons]
    by_cases hr : (rd r).2 = true
    · rw [if_pos hr]
      have := ih (noteF s.1 (rd r).1, s.2 ++ [(rd r).1]) (fun x hx => h x (List.mem_cons_of_mem _ hx)) (note_wf h1 (h r (by simp) hr)) (note_pw h2)
      refine ⟨this.1, this.2.1, Nat.le_trans this.2.2 ?_⟩
      simp only [List.length_append, List.length_cons, List.length_nil]
      omega
    · rw [if_neg hr]
      have := ih s (fun x hx => h x (List.mem_cons_of_mem _ hx)) h1 h2
      refine ⟨this.1, this.2.1, Nat.le_trans this.2.2 ?_⟩
      simp only [List.length_cons]
      omega
theorem crF_wf (rd : By → S31 × Bool) (recs : List By) (h : ∀ r ∈ recs, (rd r).2 = true → wfT (rd r).1) : (∀ x ∈ (crF rd recs).1, wfT x) ∧ (crF rd recs).1.Pairwise (fun a b => pl a b = false) ∧ (crF rd recs).2.length ≤ recs.length := by
  have := crG_wf rd recs ([], []) h (by simp) List.Pairwise.nil
  simpa [crF] using this

theorem R9_keptT {w w' : World} {B : Nat} {ok : Nat → Prop} {v : Value} {xs : List ByteArray} {S : Nat → Prop} (hr : Kd.string.R 9 w B ok v xs) (hk : Kept w w' S) (hS : ∀ k cells, S k → w.heap[k]? = some (.cells cells 9 (0, 0)) → False) : Kd.string.R 9 w' B ok v xs := by
  refine Kd.R_mono (Kd.R_move (Kd.R_bound hr) (fun k h => ?_)) (fun _ h => h.1)
  obtain ⟨_, _, hlt, q, hq, cells, hc⟩ := h
  have hq9 : q = 9 := by simpa [Kd.string, Kd.scalar] using hq
  subst hq9
  exact hk.2 k hlt (fun hs => hS k cells hs hc)
section
variable {w w' : World} {B d m a : Nat} {okA okW : Nat → Prop} {AV WV : Value} {first all wait : List S31} {recs : List By} {sure : Nat}
theorem note_not9 {k : Nat} {cells : Array Value} (h : Dx w B d m a okA okW AV WV first all wait recs sure) (hk : k = d ∨ k = m ∨ AV.ownBlock = some k) (hc : w.heap[k]? = some (.cells cells 9 (0, 0))) : False := by
  rcases hk with rfl | e | e
  · rw [h.blk] at hc
    injection hc with hc
    injection hc with _ hc
    exact absurd hc (by decide)
  · exact map_not h.map hc e
  · obtain ⟨_, ⟨c, hc'⟩, _⟩ := row_lt h.rowA e
    rw [hc'] at hc
    injection hc with hc
    injection hc with _ hc
    exact absurd hc (by decide)
theorem LAll (L : Lg w B a recs sure) : Calls Try.prog 21 #[.pointer (some ⟨a, 0, none⟩)] w fun e w' => ∃ A c, e = .returned (.slice A recs.length c) ∧ Kd.string.R 9 w' w.heap.size (fun k => w.heap.size ≤ k) (.slice A recs.length c) (recs.map mk) ∧ Below w.heap.size w w' := by
  refine (QAll L).mono ?_
  rintro e w' ⟨v, rfl, hr, hb⟩
  obtain ⟨A, c, rfl⟩ := Kd.R_slice hr
  rw [List.length_map] at hr ⊢
  exact ⟨A, c, rfl, hr, hb⟩
/-- One of both ways to note a word. -/
theorem DNote2 (hx : Dx w B d m a okA okW AV WV first all wait recs sure) (hF : ∀ t ∈ first, wfT t) (hP : first.Pairwise (fun a b => pl a b = false)) (t : S31) (ht : wfT t) (hfr : ∀ k, w.heap.size ≤ k → okA k) (hl : all.length ≤ 100000) :
    Calls Try.prog 23 #[.pointer (some ⟨d, 0, none⟩), .agg (cT t)] w fun e w' => e = .returned (.tuple #[]) ∧ (∃ AV', Dx w' B d m a okA okW AV' WV (noteF first t) (all ++ [t]) wait recs sure) ∧ Below B w w' ∧ Kept w w' (fun k => k = d ∨ k = m ∨ AV.ownBlock = some k) := by
  cases hn : at_ first t with
  | none =>
    have e : noteF first t = first ++ [t] := by unfold noteF; rw [hn]; rfl
    rw [e]
    exact DNote hx hF hP t ht hfr hl hn
  | some u =>
    have e : noteF first t = first := by unfold noteF; rw [hn]; rfl
    rw [e]
    exact DNoteOld hx hF hP t ht hfr hl u hn
/-- The diary is emptied: a new map, no rows. -/
def set3 (w : World) (d m' : Nat) : World := ((w.setCell ⟨d, 0, none⟩ (.map (some m'))).setCell ⟨d, 1, none⟩ (.slice none 0 0)).setCell ⟨d, 2, none⟩ (.slice none 0 0)
theorem Dx.emptied (h : Dx w B d m a okA okW AV WV first all wait recs sure) : Dx (set3 (w.alloc (.map #[] 0)) d w.heap.size) B d w.heap.size a (fun k => w.heap.size ≤ k) (fun _ => False) (.slice none 0 0) (.slice none 0 0) [] [] [] recs sure ∧ Below B w (set3 (w.alloc (.map #[] 0)) d w.heap.size) ∧ Kept w (set3 (w.alloc (.map #[] 0)) d w.heap.size) (fun k => k = d) := by
  have hd := h.blk
  have hlt := blk_lt hd
  obtain ⟨h1, h2, h3, h4, h5, h6, h7, h8, h9⟩ := h
  have hb1 := below_alloc (Below.refl w.heap.size w) (.map #[] 0)
  have hk : Kept w (set3 (w.alloc (.map #[] 0)) d w.heap.size) (fun k => k = d) := by
    unfold set3
    have k0 : Kept w (w.alloc (.map #[] 0)) (fun k => k = d) := Kept.of_below hb1 _
    have k1 := k0.setCell (p := ⟨d, 0, none⟩) (.inl rfl) (.map (some w.heap.size))
    have k2 := k1.setCell (p := ⟨d, 1, none⟩) (.inl rfl) (.slice none 0 0)
    exact k2.setCell (p := ⟨d, 2, none⟩) (.inl rfl) (.slice none 0 0)
  have hb : Below B w (set3 (w.alloc (.map #[] 0)) d w.heap.size) := by
    unfold set3
    exact Below.setCell (p := ⟨d, 2, none⟩) (Below.setCell (p := ⟨d, 1, none⟩) (Below.setCell (p := ⟨d, 0, none⟩) (hb1.mono h3) h1 _) h1 _) h1 _
  have hm : (set3 (w.alloc (.map #[] 0)) d w.heap.size).heap[w.heap.size]? = some (.map #[] 0) := by
    unfold set3
    exact far_set2 (far_set2 (far_set2 (blk_new w _) (by omega) _ _) (by omega) _ _) (by omega) _ _
  refine ⟨⟨h1, h3, Nat.le_trans h3 hb.size, ?_, ⟨#[], 0, hm, rfl⟩, Kd.R_nil _ _ _ _ _, Kd.R_nil _ _ _ _ _, fun _ _ h => h, lg_keptT h9 hk (fun k hk => by subst hk; exact not_lg hd (by decide) (by decide) (by decide) (by decide))⟩, hb, hk⟩
  unfold set3
  simpa using blk_set (blk_set (blk_set (blk_alloc hd (.map #[] 0)) 0 (.map (some w.heap.size))) 1 (.slice none 0 0)) 2 (.slice none 0 0)

theorem crash_kept {w2 w3 w4 : World} {recs2 : List By} {sure2 : Nat} (h : Dx w B d m a okA okW AV WV first all wait recs sure) (h2 : Dx w2 B d m a okA okW AV WV first all wait recs2 sure2) (k2 : Kept w w2 (TLg w)) (k3 : Kept w2 w3 (fun k => k = d)) (hb : Below w3.heap.size w3 w4) : Kept w w4 (TD (fun _ => False) w) :=
  (((k2.mono (fun k hk => TD.of_log hk)).then_ k3 (fun k hk => .inl (by subst hk; exact .inl ⟨_, 51, h.blk, by simp⟩)))).below hb

theorem crash_note {w2 wr w7 w8 : World} {AVi : Value} {f1 a1 wa1 : List S31} {r1 : List By} {s1 : Nat} (h : Dx w B d m a okA okW AV WV first all wait recs sure) (hi : Dx wr B d w2.heap.size a (fun k => w2.heap.size ≤ k) (fun _ => False) AVi (.slice none 0 0) f1 a1 wa1 r1 s1) (hb2 : Below B w w2) (hk : Kept w wr (TD (fun _ => False) w)) (hb : Below wr.heap.size wr w7) (hk8 : Kept w7 w8 (fun k => k = d ∨ k = w2.heap.size ∨ AVi.ownBlock = some k)) : Kept w w8 (TD (fun _ => False) w) :=
  (hk.below hb).then_ hk8 (fun k hk => by
    rcases hk with rfl | rfl | e
    · exact .inl (.inl ⟨_, 51, h.blk, by simp⟩)
    · exact .inr hb2.size
    · exact .inr (Nat.le_trans hb2.size (row_lt hi.rowA e).2.2))
theorem Dx.okA_mono {ok' : Nat → Prop} (h : Dx w B d m a okA (fun _ => False) AV WV first all wait recs sure) (hk : ∀ k, okA k → ok' k) : Dx w B d m a ok' (fun _ => False) AV WV first all wait recs sure := by
  obtain ⟨h1, h2, h3, h4, h5, h6, h7, h8, h9⟩ := h
  exact ⟨h1, h2, h3, h4, h5, Kd.R_mono h6 hk, h7, fun _ _ h => h, h9⟩
set_option maxHeartbeats 16000000 in
set_option maxRecDepth 100000 in
theorem DCrash0 (hx : Dx w B d m a okA okW AV WV first all wait recs sure) (keep : Int) (rd : By → S31 × Bool) (hrd : ∀ s ∈ crL keep recs sure, ∃ K, diary_read.f K (mk s) = some ((rd s).1.f0, (rd s).1.f1.f0, (rd s).1.f1.f1, (rd s).1.f1.f2, (rd s).1.f1.f3, (rd s).1.f1.f4, (rd s).2)) (hwf : ∀ s ∈ crL keep recs sure, (rd s).2 = true → wfT (rd s).1) :
    Calls Try.prog 11 #[.pointer (some ⟨d, 0, none⟩), .int .u64 keep] w fun e w' => e = .returned (.tuple #[]) ∧ (∃ m' AV', Dx w' B d m' a (fun k => w.heap.size ≤ k) (fun _ => False) AV' (.slice none 0 0) (crF rd (crL keep recs sure)).1 (crF rd (crL keep recs sure)).2 [] (crL keep recs sure) (crL keep recs sure).length) ∧ Below B w w' ∧ Kept w w' (TD (fun _ => False) w) := by
  have HX := Aside0.mk hx
  have HRD := Aside0.mk hrd
  have HWF := Aside0.mk hwf
  have hmm := @run_makeMap Try.prog
  have c3 : w.cell? ⟨d, 3, none⟩ = some (.pointer (some ⟨a, 0, none⟩)) := (blk_cell hx.blk 3).trans rfl
  clear hx hrd hwf
  go_enter Try.func11, Try.ntmps11
  go_wp2_with (first | ((with_reducible refine gate_callee (f := 20) rfl ?_); refine goesL_ (some 15) rfl rfl Try.func20 (by kernel_rfl) rfl #[.pointer (some ⟨a, 0, none⟩), .int .u64 keep] rfl (by (try simp only [List.map_toArray, List.map_cons, List.map_nil]); first | done | rfl) ?_; (with_reducible refine (LCrash HX.out.lg HX.out.size keep).mono ?_); rintro e w2 ⟨rfl, L, hb, hk⟩; refine ⟨_, rfl, ?_⟩; have hx2 := HX.out.log L hb hk; have HX2 := Aside0.mk hx2; have HB2 := Aside0.mk hb; have HK2 := Aside0.mk hk; have b0 : (w2.alloc (.map #[] 0)).cell? ⟨d, 0, none⟩ = some (.map (some m)) := (blk_cell (blk_alloc hx2.blk (.map #[] 0)) 0).trans rfl; have bz0 : (w2.alloc (.map #[] 0)).frozen? ⟨d, 0, none⟩ = false := blk_frozen (blk_alloc hx2.blk (.map #[] 0)) 0; have b1 : (w2.alloc (.map #[] 0)).cell? ⟨d, 1, none⟩ = some (AV) := (blk_cell (blk_alloc hx2.blk (.map #[] 0)) 1).trans rfl; have bz1 : (w2.alloc (.map #[] 0)).frozen? ⟨d, 1, none⟩ = false := blk_frozen (blk_alloc hx2.blk (.map #[] 0)) 1; have b2 : (w2.alloc (.map #[] 0)).cell? ⟨d, 2, none⟩ = some (WV) := (blk_cell (blk_alloc hx2.blk (.map #[] 0)) 2).trans rfl; have bz2 : (w2.alloc (.map #[] 0)).frozen? ⟨d, 2, none⟩ = false := blk_frozen (blk_alloc hx2.blk (.map #[] 0)) 2; have b3 : (w2.alloc (.map #[] 0)).cell? ⟨d, 3, none⟩ = some (.pointer (some ⟨a, 0, none⟩)) := (blk_cell (blk_alloc hx2.blk (.map #[] 0)) 3).trans rfl; have bz3 : (w2.alloc (.map #[] 0)).frozen? ⟨d, 3, none⟩ = false := blk_frozen (blk_alloc hx2.blk (.map #[] 0)) 3; have d3 : (w2.alloc (.map #[] 0)).cell? ⟨d, 0, none⟩ = some (.map (some m)) := (blk_cell (blk_alloc hx2.blk _) 0).trans rfl; have HLG3 : Aside0 (Lg ((((w2.alloc (.map #[] 0)).setCell ⟨d, 0, none⟩ (.map (some w2.heap.size))).setCell ⟨d, 1, none⟩ (.slice none 0 0)).setCell ⟨d, 2, none⟩ (.slice none 0 0)) B a (crL keep recs sure) (crL keep recs sure).length) := ⟨hx2.emptied.1.lg⟩; clear L hb hk hx2) | ((with_reducible refine gate_callee (f := 21) rfl ?_); refine goesL_ (some 30) rfl rfl Try.func21 (by kernel_rfl) rfl #[.pointer (some ⟨a, 0, none⟩)] rfl (by (try simp only [List.map_toArray, List.map_cons, List.map_nil]); first | done | rfl) ?_; (with_reducible refine (LAll HLG3.out).mono ?_); rintro e w4 ⟨A4, c4, rfl, hr, hb⟩; refine ⟨_, rfl, ?_⟩; obtain ⟨x1, x2, x3⟩ := HX2.out.emptied; have HX4 := Aside0.mk (x1.below hb); have HS2 := Aside0.mk (Nat.le_trans x2.size hb.size); have HR4 := Aside0.mk hr; have HB4 := Aside0.mk ((HB2.out.trans x2).trans (hb.mono x1.size)); have HK4 := Aside0.mk (crash_kept HX.out HX2.out HK2.out x3 hb); clear hr hb x1 x2 x3))
  have hcount := Wq.count HX4.out.lg
  rw [List.length_map] at hcount
  go_loopg [32] (crL keep recs sure).length (fun kq v32 w' => ∃ (i : Nat) (AVi : Value), v32 = .int .i64 (i : Int) ∧ Aside0 (i + kq = (crL keep recs sure).length) ∧ Aside0 (Dx w' B d w2.heap.size a (fun k => w2.heap.size ≤ k) (fun _ => False) AVi (.slice none 0 0) (crF rd ((crL keep recs sure).take i)).1 (crF rd ((crL keep recs sure).take i)).2 [] (crL keep recs sure) (crL keep recs sure).length) ∧ Aside0 (Kd.string.R 9 w' 0 (fun _ => True) (.slice A4 (crL keep recs sure).length c4) ((crL keep recs sure).map mk)) ∧ Aside0 (Below B w w') ∧ Aside0 (Kept w w' (TD (fun _ => False) w)) ∧ Aside0 (w2.heap.size ≤ w'.heap.size))
  case atStart => exact ⟨0, _, rfl, ⟨by omega⟩, HX4, ⟨Kd.R_lower (Kd.R_mono HR4.out (fun _ _ => trivial)) (Nat.zero_le _)⟩, HB4, HK4, HS2⟩
  case round =>
    obtain ⟨i, AVi, rfl, HI, HXi, HRi, HBi, HKi, HSi⟩ := hrel
    have hi := HI.out
    by_cases hat : i < (crL keep recs sure).length
    · obtain ⟨k1, rfl⟩ : ∃ k1, gk = k1 + 1 := ⟨gk - 1, by omega⟩
      have hlt : decide ((i : Int) < ((crL keep recs sure).length : Int)) = true := decide_eq_true (by omega)
      have hC := (Kd.R_reads' HRi.out).2.2
      obtain ⟨ad, e101, x0⟩ := Kd.at_string hC (i : Int) (by omega) (by rw [List.length_map]; omega)
      cases e101
      obtain ⟨s, hs⟩ : ∃ s, s = (crL keep recs sure)[i] := ⟨_, rfl⟩
      have e2 : rdOf ByteArray.empty ((crL keep recs sure).map mk) (i : Int) = mk s := by
        rw [hs]
        unfold rdOf
        rw [Int.toNat_natCast, List.getD_eq_getElem?_getD, List.getElem?_map, List.getElem?_eq_getElem hat]
        rfl
      rw [e2, Int.toNat_natCast] at x0
      have hmem : s ∈ crL keep recs sure := by rw [hs]; exact List.getElem_mem _
      obtain ⟨K, hK⟩ := HRD.out s hmem
      have hwx := HWF.out s hmem
      have HT := Aside0.mk (take_snoc hat)
      rw [← hs] at HT
      have hcf := crF_snoc rd ((crL keep recs sure).take i) s
      have HW := Aside0.mk (crF_wf rd ((crL keep recs sure).take i) (fun r hr => HWF.out r (List.mem_of_mem_take hr)))
      have HAL : Aside0 ((crF rd ((crL keep recs sure).take i)).2.length ≤ 100000) := ⟨by
        have h1 := HW.out.2.2
        have h2 : ((crL keep recs sure).take i).length ≤ (crL keep recs sure).length := by rw [List.length_take]; exact Nat.min_le_right _ _
        omega⟩
      clear HI e2 hmem hs
      generalize rd s = y at hK hwx hcf
      obtain ⟨x, o⟩ := y
      cases o
      · have HKf := Aside0.mk hK
        have HCF := Aside0.mk (hcf.trans (if_neg (by simp)))
        clear hK hcf hwx
        go_wp2_with (first | ((with_reducible refine gate_callee (f := 22) rfl ?_); refine goesL_ (some 38) rfl rfl Try.func22 (by kernel_rfl) rfl #[.string (mk s)] rfl (by (try simp only [List.map_toArray, List.map_cons, List.map_nil]); first | done | rfl) ?_; (with_reducible refine (diary_read.calls K _ x.f0 x.f1.f0 x.f1.f1 x.f1.f2 x.f1.f3 x.f1.f4 false _ HKf.out).mono ?_); rintro e w5 ⟨rfl, hb⟩; refine ⟨_, rfl, ?_⟩; have HB5 := Aside0.mk hb; clear hb) | ((with_reducible refine gate_dst (N := 6) rfl ?_); refine box_event ?hg (N := 6) ?hd (cs := #[.int .i64 0, .int .i64 0, .int .i64 0, .int .i64 0, .int .i64 0, .string ⟨#[]⟩]) (t := 31) ?hr ?_; (case hd => rfl); (case hg => rfl); (case hr => first | (go_simp; done) | (go_simp; rfl)); intro g hg w6 hbox hb; have HG6 := Aside0.mk hbox; have HGE := Aside0.mk (show wr.heap.size ≤ g by rw [hg]; exact HB5.out.size); have HB6 := Aside0.mk (below_step HB5.out hb); have b0 : w6.cell? ⟨g, 0, none⟩ = some (.int .i64 0) := (blk_cell hbox 0).trans rfl; have bz0 : w6.frozen? ⟨g, 0, none⟩ = false := blk_frozen hbox 0; have b1 : w6.cell? ⟨g, 1, none⟩ = some (.int .i64 0) := (blk_cell hbox 1).trans rfl; have bz1 : w6.frozen? ⟨g, 1, none⟩ = false := blk_frozen hbox 1; have b2 : w6.cell? ⟨g, 2, none⟩ = some (.int .i64 0) := (blk_cell hbox 2).trans rfl; have bz2 : w6.frozen? ⟨g, 2, none⟩ = false := blk_frozen hbox 2; have b3 : w6.cell? ⟨g, 3, none⟩ = some (.int .i64 0) := (blk_cell hbox 3).trans rfl; have bz3 : w6.frozen? ⟨g, 3, none⟩ = false := blk_frozen hbox 3; have b4 : w6.cell? ⟨g, 4, none⟩ = some (.int .i64 0) := (blk_cell hbox 4).trans rfl; have bz4 : w6.frozen? ⟨g, 4, none⟩ = false := blk_frozen hbox 4; have b5 : w6.cell? ⟨g, 5, none⟩ = some (.string ⟨#[]⟩) := (blk_cell hbox 5).trans rfl; have bz5 : w6.frozen? ⟨g, 5, none⟩ = false := blk_frozen hbox 5; clear hg hbox hb) | ((with_reducible refine gate_store (t := 31) (p := 6) (v := .tmp 39) rfl ?_); refine store_event (w1 := (set6 w6 g x)) ?hg rfl ?hN ?hr ?_; (case hg => rfl); (case hN => rfl); (case hr => first | (go_simp; done) | (go_simp; rfl)); intro w7 hw7; have hg7 : w7.heap[g]? = some (.cells (cT x) 31 (0, 0)) := (by rw [hw7]; exact set6_blk HG6.out x); have HB7 : Aside0 (Below wr.heap.size wr w7) := ⟨(by rw [hw7]; exact set6_below HB6.out HGE.out x)⟩; have y0 : w7.cell? ⟨g, 0, none⟩ = some (.int .i64 x.f0) := (blk_cell hg7 0).trans rfl; have yz0 : w7.frozen? ⟨g, 0, none⟩ = false := blk_frozen hg7 0; have y1 : w7.cell? ⟨g, 1, none⟩ = some (.int .i64 x.f1.f0) := (blk_cell hg7 1).trans rfl; have yz1 : w7.frozen? ⟨g, 1, none⟩ = false := blk_frozen hg7 1; have y2 : w7.cell? ⟨g, 2, none⟩ = some (.int .i64 x.f1.f1) := (blk_cell hg7 2).trans rfl; have yz2 : w7.frozen? ⟨g, 2, none⟩ = false := blk_frozen hg7 2; have y3 : w7.cell? ⟨g, 3, none⟩ = some (.int .i64 x.f1.f2) := (blk_cell hg7 3).trans rfl; have yz3 : w7.frozen? ⟨g, 3, none⟩ = false := blk_frozen hg7 3; have y4 : w7.cell? ⟨g, 4, none⟩ = some (.int .i64 x.f1.f3) := (blk_cell hg7 4).trans rfl; have yz4 : w7.frozen? ⟨g, 4, none⟩ = false := blk_frozen hg7 4; have y5 : w7.cell? ⟨g, 5, none⟩ = some (.string x.f1.f4) := (blk_cell hg7 5).trans rfl; have yz5 : w7.frozen? ⟨g, 5, none⟩ = false := blk_frozen hg7 5; clear hg7 hw7))
        go_roundg k1
        case measure => omega
        case rel => exact ⟨i + 1, AVi, rfl, ⟨by omega⟩, ⟨by rw [HT.out, HCF.out]; exact HXi.out.below HB7.out⟩, ⟨Kd.R_below HRi.out HB7.out⟩, ⟨HBi.out.trans (HB7.out.mono HXi.out.size)⟩, ⟨HKi.out.below HB7.out⟩, ⟨Nat.le_trans HSi.out HB7.out.size⟩⟩
      · have HKf := Aside0.mk hK
        have HCF := Aside0.mk (hcf.trans (if_pos rfl))
        have HWX := Aside0.mk (hwx rfl)
        clear hK hcf hwx
        go_wp2_with (first | ((with_reducible refine gate_callee (f := 22) rfl ?_); refine goesL_ (some 38) rfl rfl Try.func22 (by kernel_rfl) rfl #[.string (mk s)] rfl (by (try simp only [List.map_toArray, List.map_cons, List.map_nil]); first | done | rfl) ?_; (with_reducible refine (diary_read.calls K _ x.f0 x.f1.f0 x.f1.f1 x.f1.f2 x.f1.f3 x.f1.f4 true _ HKf.out).mono ?_); rintro e w5 ⟨rfl, hb⟩; refine ⟨_, rfl, ?_⟩; have HB5 := Aside0.mk hb; clear hb) | ((with_reducible refine gate_dst (N := 6) rfl ?_); refine box_event ?hg (N := 6) ?hd (cs := #[.int .i64 0, .int .i64 0, .int .i64 0, .int .i64 0, .int .i64 0, .string ⟨#[]⟩]) (t := 31) ?hr ?_; (case hd => rfl); (case hg => rfl); (case hr => first | (go_simp; done) | (go_simp; rfl)); intro g hg w6 hbox hb; have HG6 := Aside0.mk hbox; have HGE := Aside0.mk (show wr.heap.size ≤ g by rw [hg]; exact HB5.out.size); have HB6 := Aside0.mk (below_step HB5.out hb); have b0 : w6.cell? ⟨g, 0, none⟩ = some (.int .i64 0) := (blk_cell hbox 0).trans rfl; have bz0 : w6.frozen? ⟨g, 0, none⟩ = false := blk_frozen hbox 0; have b1 : w6.cell? ⟨g, 1, none⟩ = some (.int .i64 0) := (blk_cell hbox 1).trans rfl; have bz1 : w6.frozen? ⟨g, 1, none⟩ = false := blk_frozen hbox 1; have b2 : w6.cell? ⟨g, 2, none⟩ = some (.int .i64 0) := (blk_cell hbox 2).trans rfl; have bz2 : w6.frozen? ⟨g, 2, none⟩ = false := blk_frozen hbox 2; have b3 : w6.cell? ⟨g, 3, none⟩ = some (.int .i64 0) := (blk_cell hbox 3).trans rfl; have bz3 : w6.frozen? ⟨g, 3, none⟩ = false := blk_frozen hbox 3; have b4 : w6.cell? ⟨g, 4, none⟩ = some (.int .i64 0) := (blk_cell hbox 4).trans rfl; have bz4 : w6.frozen? ⟨g, 4, none⟩ = false := blk_frozen hbox 4; have b5 : w6.cell? ⟨g, 5, none⟩ = some (.string ⟨#[]⟩) := (blk_cell hbox 5).trans rfl; have bz5 : w6.frozen? ⟨g, 5, none⟩ = false := blk_frozen hbox 5; clear hg hbox hb) | ((with_reducible refine gate_store (t := 31) (p := 6) (v := .tmp 39) rfl ?_); refine store_event (w1 := (set6 w6 g x)) ?hg rfl ?hN ?hr ?_; (case hg => rfl); (case hN => rfl); (case hr => first | (go_simp; done) | (go_simp; rfl)); intro w7 hw7; have hg7 : w7.heap[g]? = some (.cells (cT x) 31 (0, 0)) := (by rw [hw7]; exact set6_blk HG6.out x); have HB7 : Aside0 (Below wr.heap.size wr w7) := ⟨(by rw [hw7]; exact set6_below HB6.out HGE.out x)⟩; have y0 : w7.cell? ⟨g, 0, none⟩ = some (.int .i64 x.f0) := (blk_cell hg7 0).trans rfl; have yz0 : w7.frozen? ⟨g, 0, none⟩ = false := blk_frozen hg7 0; have y1 : w7.cell? ⟨g, 1, none⟩ = some (.int .i64 x.f1.f0) := (blk_cell hg7 1).trans rfl; have yz1 : w7.frozen? ⟨g, 1, none⟩ = false := blk_frozen hg7 1; have y2 : w7.cell? ⟨g, 2, none⟩ = some (.int .i64 x.f1.f1) := (blk_cell hg7 2).trans rfl; have yz2 : w7.frozen? ⟨g, 2, none⟩ = false := blk_frozen hg7 2; have y3 : w7.cell? ⟨g, 3, none⟩ = some (.int .i64 x.f1.f2) := (blk_cell hg7 3).trans rfl; have yz3 : w7.frozen? ⟨g, 3, none⟩ = false := blk_frozen hg7 3; have y4 : w7.cell? ⟨g, 4, none⟩ = some (.int .i64 x.f1.f3) := (blk_cell hg7 4).trans rfl; have yz4 : w7.frozen? ⟨g, 4, none⟩ = false := blk_frozen hg7 4; have y5 : w7.cell? ⟨g, 5, none⟩ = some (.string x.f1.f4) := (blk_cell hg7 5).trans rfl; have yz5 : w7.frozen? ⟨g, 5, none⟩ = false := blk_frozen hg7 5; clear hg7 hw7) | ((with_reducible refine gate_callee (f := 23) rfl ?_); refine goesL_ (some 44) rfl rfl Try.func23 (by kernel_rfl) rfl #[.pointer (some ⟨d, 0, none⟩), .agg (cT x)] rfl (by (try simp only [List.map_toArray, List.map_cons, List.map_nil]); first | done | rfl) ?_; (with_reducible refine (DNote2 (HXi.out.below HB7.out) HW.out.1 HW.out.2.1 x HWX.out (fun k hk => Nat.le_trans HSi.out (Nat.le_trans HB7.out.size hk)) HAL.out).mono ?_); rintro e w8 ⟨rfl, ⟨AV8, hx8⟩, hb8, hk8⟩; refine ⟨_, rfl, ?_⟩; have HX8 := Aside0.mk hx8; have HB8 := Aside0.mk ((HBi.out.trans (HB7.out.mono HXi.out.size)).trans hb8); have HR8 := Aside0.mk (R9_keptT (Kd.R_below HRi.out HB7.out) hk8 (fun k cells hs hc => note_not9 (HXi.out.below HB7.out) hs hc)); have HK8 := Aside0.mk (crash_note HX.out HXi.out HB2.out HKi.out HB7.out hk8); have HS8 := Aside0.mk (Nat.le_trans HSi.out (Nat.le_trans HB7.out.size hb8.size)); clear hx8 hb8 hk8))
        go_roundg k1
        case measure => omega
        case rel => exact ⟨i + 1, AV8, rfl, ⟨by omega⟩, ⟨by rw [HT.out, HCF.out]; exact HX8.out⟩, HR8, HB8, HK8, HS8⟩
    · obtain rfl : gk = 0 := by omega
      have hge : decide ((i : Int) < ((crL keep recs sure).length : Int)) = false := decide_eq_false (by omega)
      have HT := Aside0.mk (List.take_of_length_le (l := crL keep recs sure) (i := i) (by omega))
      clear HI
      go_wp2
      refine bodyPost_end (results_none rfl _ _ _) rfl ⟨rfl, ⟨w2.heap.size, AVi, ?_⟩, HBi.out, HKi.out⟩
      have h := HXi.out
      rw [HT.out] at h
      exact h.okA_mono (fun k hk => Nat.le_trans HB2.out.size hk)
end
end Go.Proofs.Ytbihlbalmihbdaa.Di
namespace Go.Proofs.Ytbihlbalmihbdaa.Di
open Go.RowKit Go.Proofs.Ytbihlbalmihbdaa.PAll Go.Proofs.YtbihlbalmihbdaaW.PrintWords Go.Proofs.YtbihlbalmihbdaaW.PrintLast Go.Proofs.YtbihlbalmihbdaaW.PrintMore SG Go.Proofs.Ytbihlbalmihbdaa.Fun Go.Proofs.Ytbihlbalmihbdaa.Wal
open Go.Proofs.Ytbihlbalmihbdaa.WFun (okT recT recT_len E_chkT E_rec rdX E_dr tup rdX_rec rdX_ok)
set_option linter.unusedVariables false
set_option linter.unusedSimpArgs false

theorem i64_wf {n : Int} (h0 : -1 ≤ n) (h1 : n ≤ 1000) : (Lit.int .i64 n).wf = true := by
  show (decide (IntKind.min .i64 ≤ n) && decide (n ≤ IntKind.max .i64)) = true
  rw [Bool.and_eq_true, decide_eq_true_eq, decide_eq_true_eq]
  exact ⟨Int.le_trans (by decide) h0, Int.le_trans h1 (by decide)⟩
theorem okT_wf {t : S31} (h : okT t) : wfT t := by
  obtain ⟨⟨h1, h2⟩, hw⟩ := h
  unfold okW at hw
  exact ⟨i64_wf (by omega) (by omega), i64_wf (by omega) (by omega), i64_wf (by omega) (by omega), i64_wf (by omega) (by omega)⟩
theorem rdX_wf {l : By} (h : (rdX l).2 = true) : wfT (rdX l).1 := by
  obtain ⟨⟨h1, h2⟩, hw⟩ := rdX_ok h
  unfold okW at hw
  exact ⟨i64_wf (by omega) (by omega), i64_wf (by omega) (by omega), i64_wf (by omega) (by omega), i64_wf (by omega) (by omega)⟩
/-- What a diary holds. -/
structure St where
  first : List S31
  all : List S31
  wait : List S31
  recs : List By
  sure : Nat
open Classical in
/-- A word is said. -/
noncomputable def sayF (s : St) (t : S31) : Int × St :=
  if okT t then (match at_ s.first t with
    | some u => (if u = t then 0 else 8, s)
    | none => if appE s.recs (recT t) = 0 then (0, ⟨s.first ++ [t], s.all ++ [t], s.wait ++ [t], s.recs ++ [recT t], s.sure⟩) else (7, s)) else (1, s)
def outF (s : St) : St := ⟨s.first, s.all, [], s.recs, s.recs.length⟩
def crashF (s : St) (keep : Int) : St := ⟨(crF rdX (crL keep s.recs s.sure)).1, (crF rdX (crL keep s.recs s.sure)).2, [], crL keep s.recs s.sure, (crL keep s.recs s.sure).length⟩
def st0 : St := ⟨[], [], [], [], 0⟩
/-- A diary that holds s. -/
def Dz (w : World) (B : Nat) (ok : Nat → Prop) (d : Nat) (s : St) : Prop := Dy w B ok d s.first s.all s.wait s.recs s.sure ∧ (∀ t ∈ s.first, wfT t) ∧ s.first.Pairwise (fun a b => pl a b = false) ∧ s.all.length ≤ s.recs.length ∧ s.wait.length ≤ s.recs.length
section
variable {w w' : World} {B d : Nat} {ok ok' : Nat → Prop} {s : St}
theorem Dz.below (h : Dz w B ok d s) (hb : Below w.heap.size w w') : Dz w' B ok d s := ⟨h.1.below hb, h.2⟩
theorem Dy.mono {first all wait : List S31} {recs : List By} {sure : Nat} (h : Dy w B ok d first all wait recs sure) (hk : ∀ k, ok k → ok' k) : Dy w B ok' d first all wait recs sure := by
  obtain ⟨m, a, okA, okW, AV, WV, hx, ho⟩ := h
  exact ⟨m, a, okA, okW, AV, WV, hx, fun k h => hk k (ho k h)⟩
theorem Dz.mono (h : Dz w B ok d s) (hk : ∀ k, ok k → ok' k) : Dz w B ok' d s := ⟨h.1.mono hk, h.2⟩
theorem Dz.bound (h : Dz w B ok d s) : Dz w B (fun k => ok k ∧ k < w.heap.size) d s := by
  obtain ⟨⟨m, a, okA, okW, AV, WV, hx, ho⟩, h2⟩ := h
  obtain ⟨h1, h2', h3, h4, h5, h6, h7, h8, h9⟩ := hx
  exact ⟨⟨m, a, fun k => okA k ∧ k < w.heap.size, fun k => okW k ∧ k < w.heap.size, AV, WV, ⟨h1, h2', h3, h4, h5, Kd.R_mono (Kd.R_bound h6) (fun k h => ⟨h.1, h.2.2.1⟩), Kd.R_mono (Kd.R_bound h7) (fun k h => ⟨h.1, h.2.2.1⟩), fun k a b => h8 k a.1 b.1, h9⟩, fun k h => h.elim (fun h => ⟨ho k (.inl h.1), h.2⟩) (fun h => ⟨ho k (.inr h.1), h.2⟩)⟩, h2⟩
theorem Dz.size (h : Dz w B ok d s) : B ≤ w.heap.size := by
  obtain ⟨⟨m, a, okA, okW, AV, WV, hx, ho⟩, h2⟩ := h
  exact hx.size
theorem Dz.count (h : Dz w B ok d s) : s.recs.length ≤ 100000 ∧ ∀ x ∈ s.recs, x.length ≤ 4096 := by
  obtain ⟨⟨m, a, okA, okW, AV, WV, hx, ho⟩, h2⟩ := h
  have h := Wq.count hx.lg
  rw [List.length_map] at h
  exact ⟨h, hx.lg.2.1⟩
/-- A diary stays where none of its blocks is written. -/
theorem Dz.kept {S : Nat → Prop} (h : Dz w B ok d s) (hk : Kept w w' S) (hs : B ≤ w'.heap.size) (hS : ∀ k, S k → ¬ TD ok w k) : Dz w' B ok d s := by
  obtain ⟨⟨m, a, okA, okW, AV, WV, hx, ho⟩, h2⟩ := h
  have hmp := hx.map
  obtain ⟨h1, h2', h3, h4, h5, h6, h7, h8, h9⟩ := hx
  refine ⟨⟨m, a, okA, okW, AV, WV, ⟨h1, h2', hs, blk_kept h4 hk (fun h => hS _ h (.inl ⟨_, 51, h4, by simp⟩)), h5.kept hk (fun h => hS _ h ?_), R31_kept h6 hk (fun k cells hok _ _ h => hS _ h (.inr (.inr (ho k (.inl hok))))), R31_kept h7 hk (fun k cells hok _ _ h => hS _ h (.inr (.inr (ho k (.inr hok))))), h8, lg_keptT h9 hk (fun k h ht => hS k h (TD.of_log ht))⟩, ho⟩, h2⟩
  obtain ⟨es, c, hm, _⟩ := hmp
  exact .inr (.inl ⟨es, c, hm⟩)
theorem TD.mono {k : Nat} (h : TD ok w k) (hk : ∀ k, ok k → ok' k) : TD ok' w k := by
  rcases h with h | h | h
  · exact .inl h
  · exact .inr (.inl h)
  · exact .inr (.inr (hk k h))
theorem same_iff (u t : S31) : (u.f0 == t.f0 && ((u.f1.f0 == t.f1.f0 && (u.f1.f1 == t.f1.f1 && (u.f1.f2 == t.f1.f2 && (u.f1.f3 == t.f1.f3 && (u.f1.f4.toList == t.f1.f4.toList))))))) = true ↔ u = t := by
  obtain ⟨a, b, c, e, f, g⟩ := u
  obtain ⟨a', b', c', e', f', g'⟩ := t
  simp only [Bool.and_eq_true, beq_iff_eq, S31.mk.injEq, S29.mk.injEq]
  refine Iff.intro (fun ⟨h1, h2, h3, h4, h5, h6⟩ => ⟨h1, h2, h3, h4, h5, ?_⟩) (fun ⟨h1, h2, h3, h4, h5, h6⟩ => ⟨h1, h2, h3, h4, h5, by rw [h6]⟩)
  rw [← WFun.mk_back g, h6, WFun.mk_back]
theorem at_wf {F : List S31} {t u : S31} (h : at_ F t = some u) : u ∈ F ∧ pl t u = true := ⟨List.mem_of_find?_eq_some h, List.find?_some h⟩
open Classical in
theorem DSay (h : Dz w B ok d s) (hfr : ∀ k, w.heap.size ≤ k → ok k) (t : S31) :
    Calls Try.prog 12 #[.pointer (some ⟨d, 0, none⟩), .agg (cT t)] w fun e w' => e = .returned (.int .i64 (sayF s t).1) ∧ Dz w' B ok d (sayF s t).2 ∧ Below B w w' ∧ Kept w w' (TD ok w) := by
  have hsz := h.size
  have hc := h.count
  obtain ⟨K, hK⟩ := E_chkT t
  by_cases hok : okT t
  · have hw := okT_wf hok
    rw [if_pos hok.2] at hK
    obtain ⟨K2, hRC⟩ := E_rec hok
    have hlen := recT_len hok
    have hfull := h
    obtain ⟨⟨m, a, okA, okW, AV, WV, hx, ho⟩, hF, hP, hl, hl2⟩ := h
    unfold sayF
    rw [if_pos hok]
    cases hn : at_ s.first t with
    | some u =>
      refine (DSayOld0 hx hF hP t hw K hK hok.1 u hn _ rfl).mono ?_
      rintro e w' ⟨rfl, hb⟩
      refine ⟨congrArg (fun n => Ending.returned (.int .i64 n)) ?_, hfull.below hb, hb.mono hsz, Kept.of_below hb _⟩
      show _ = (if u = t then (0 : Int) else 8)
      by_cases hut : u = t
      · rw [if_pos ((same_iff u t).2 hut), if_pos hut]
      · rw [if_neg (fun h => hut ((same_iff u t).1 h)), if_neg hut]
    | none =>
      by_cases he : appE s.recs (recT t) = 0
      · rw [if_pos he]
        refine (DSayNew0 hx hF hP t hw K hK hok.1 hn K2 (recT t) (by omega) hRC he (by omega) (by omega)).mono ?_
        rintro e w' ⟨rfl, ⟨okA', okW', AV', WV', hx', ho'⟩, hb, hk⟩
        refine ⟨rfl, ⟨⟨m, a, okA', okW', AV', WV', hx', fun k h => ?_⟩, ?_, ?_, ?_, ?_⟩, hb, hk.mono (fun k h => h.mono ho)⟩
        · rcases ho' k h with h | h | h
          · exact ho k (.inl h)
          · exact ho k (.inr h)
          · exact hfr k h
        · have := note_wf hF hw
          unfold noteF at this
          rw [hn] at this
          exact this
        · have := note_pw (t := t) hP
          unfold noteF at this
          rw [hn] at this
          exact this
        · simp only [List.length_append, List.length_singleton]
          omega
        · simp only [List.length_append, List.length_singleton]
          omega
      · rw [if_neg he]
        refine (DSayFull0 hx hF hP t hw K hK hok.1 hn K2 (recT t) (by omega) hRC he).mono ?_
        rintro e w' ⟨rfl, hx', hb, hk⟩
        exact ⟨rfl, ⟨⟨m, a, okA, okW, AV, WV, hx', ho⟩, hF, hP, hl, hl2⟩, hb, hk.mono (fun k h => TD.of_log h)⟩
  · unfold sayF
    rw [if_neg hok]
    refine (DSayArg0 d K t _ w hK ?_).mono ?_
    · unfold okT at hok
      by_cases hw : okW t.f1.f0 t.f1.f1 t.f1.f2 t.f1.f3 t.f1.f4.toList.length
      · have : ¬ (0 ≤ t.f0 ∧ t.f0 ≤ 64) := fun h => hok ⟨h, hw⟩
        omega
      · rw [if_neg hw]
        exact .inr (.inr (by decide))
    · rintro e w' ⟨rfl, hb⟩
      exact ⟨rfl, h.below hb, hb.mono hsz, Kept.of_below hb _⟩
theorem crL_small {a : Nat} {recs : List By} {sure : Nat} (L : Lg w B a recs sure) (keep : Int) : ∀ r ∈ crL keep recs sure, r.length ≤ 4096 := (pre_flat _ (crB keep (flat recs) (flat (recs.take sure)).length) rfl).2.2
theorem DCrash (h : Dz w B ok d s) (hfr : ∀ k, w.heap.size ≤ k → ok k) (keep : Int) :
    Calls Try.prog 11 #[.pointer (some ⟨d, 0, none⟩), .int .u64 keep] w fun e w' => e = .returned (.tuple #[]) ∧ Dz w' B ok d (crashF s keep) ∧ Below B w w' ∧ Kept w w' (TD (fun _ => False) w) := by
  obtain ⟨⟨m, a, okA, okW, AV, WV, hx, ho⟩, hF, hP, hl, hl2⟩ := h
  have hwf : ∀ r ∈ crL keep s.recs s.sure, (rdX r).2 = true → wfT (rdX r).1 := fun r _ h => rdX_wf h
  obtain ⟨f1, f2, f3⟩ := crF_wf rdX (crL keep s.recs s.sure) hwf
  refine (DCrash0 hx keep rdX (fun r hr => ?_) hwf).mono ?_
  · obtain ⟨K, hK⟩ := (E_dr r (Nat.le_trans (crL_small hx.lg keep r hr) (by decide))).rounds
    exact ⟨K, hK⟩
  · rintro e w' ⟨rfl, ⟨m', AV', hx'⟩, hb, hk⟩
    have hy : Dy w' B ok d (crF rdX (crL keep s.recs s.sure)).1 (crF rdX (crL keep s.recs s.sure)).2 [] (crL keep s.recs s.sure) (crL keep s.recs s.sure).length := by
      refine ⟨m', a, fun k => w.heap.size ≤ k, fun _ => False, AV', .slice none 0 0, hx', ?_⟩
      rintro k (h | h)
      · exact hfr k h
      · exact h.elim
    unfold crashF Dz
    exact ⟨rfl, ⟨hy, f1, f2, f3, Nat.zero_le _⟩, hb, hk⟩
theorem DOutz (h : Dz w B ok d s) : Calls Try.prog 10 #[.pointer (some ⟨d, 0, none⟩)] w fun e w' => ∃ A c okW, e = .returned (.slice A s.wait.length c) ∧ (∀ k, okW k → ok k) ∧ k31.R 31 w' B okW (.slice A s.wait.length c) s.wait ∧ Dz w' B (fun k => ok k ∧ ¬ okW k) d (outF s) ∧ Below B w w' ∧ Kept w w' (TD ok w) := by
  refine (DOut h.1).mono ?_
  rintro e w' ⟨A, c, okW, rfl, h1, h2, h3, h4, h5⟩
  exact ⟨A, c, okW, rfl, h1, h2, ⟨h3, h.2.1, h.2.2.1, h.2.2.2.1, Nat.zero_le _⟩, h4, h5⟩
theorem DSaidz (h : Dz w B ok d s) (ht : Int) : Calls Try.prog 14 #[.pointer (some ⟨d, 0, none⟩), .int .i64 ht] w fun e w' => ∃ A c, e = .returned (.slice A (saidF ht s.all).length c) ∧ k29.R 29 w' w.heap.size (fun k => w.heap.size ≤ k) (.slice A (saidF ht s.all).length c) (saidF ht s.all) ∧ Below w.heap.size w w' := by
  have hc := h.count.1
  have hl := h.2.2.2.1
  refine (DSaid h.1 ht (by omega)).mono ?_
  rintro e w' ⟨V, rfl, h1, h2⟩
  obtain ⟨A, c, rfl⟩ := Kd.R_slice h1
  exact ⟨A, c, rfl, h1, h2⟩
theorem DNewz (w : World) : Calls Try.prog 9 #[] w fun e w' => ∃ d, e = .returned (.pointer (some ⟨d, 0, none⟩)) ∧ Dz w' w.heap.size (fun k => w.heap.size ≤ k) d st0 ∧ Below w.heap.size w w' := by
  refine (DNew w).mono ?_
  rintro e w' ⟨d, rfl, h1, h2⟩
  exact ⟨d, rfl, ⟨h1, by simp [st0], List.Pairwise.nil, Nat.le_refl _, Nat.le_refl _⟩, h2⟩
end
end Go.Proofs.Ytbihlbalmihbdaa.Di
namespace Go.Proofs.Ytbihlbalmihbdaa.Di
open Go.RowKit Go.Proofs.Ytbihlbalmihbdaa.PAll Go.Proofs.YtbihlbalmihbdaaW.PrintWords Go.Proofs.YtbihlbalmihbdaaW.PrintLast Go.Proofs.YtbihlbalmihbdaaW.PrintMore SG Go.Proofs.Ytbihlbalmihbdaa.Fun Go.Proofs.Ytbihlbalmihbdaa.Wal
open Go.Proofs.Ytbihlbalmihbdaa.WFun (okT recT recT_len E_chkT E_rec rdX E_dr tup rdX_rec rdX_ok)
set_option linter.unusedVariables false
set_option linter.unusedSimpArgs false


def tof (v : ByteArray) : S31 := ⟨2, ⟨2, 1, 3, 0, v⟩⟩
def ta : S31 := tof ⟨#[97]⟩
def tb : S31 := tof ⟨#[98]⟩
def tc : S31 := ⟨2, ⟨3, 1, 3, 0, ⟨#[99]⟩⟩⟩
def tm : S31 := ⟨-1, ⟨0, 0, 0, 0, ⟨#[]⟩⟩⟩
theorem recT_length (t : S31) : (recT t).length = 33 + t.f1.f4.toList.length := by
  simp only [recT, WFun.recW, texts_cons, texts_nil, List.length_append, text_length, List.length_cons, List.length_nil]
  omega
theorem one_toList (b : UInt8) : (⟨#[b]⟩ : ByteArray).toList = [b] := mk_toList [b]
theorem okT_a : okT ta := ⟨by decide, by show okW 2 1 3 0 (⟨#[97]⟩ : ByteArray).toList.length; rw [one_toList]; decide⟩
theorem okT_b : okT tb := ⟨by decide, by show okW 2 1 3 0 (⟨#[98]⟩ : ByteArray).toList.length; rw [one_toList]; decide⟩
theorem okT_c : okT tc := ⟨by decide, by show okW 3 1 3 0 (⟨#[99]⟩ : ByteArray).toList.length; rw [one_toList]; decide⟩
theorem len_a : (recT ta).length = 34 := by rw [recT_length]; show 33 + (⟨#[97]⟩ : ByteArray).toList.length = 34; rw [one_toList]; rfl
theorem len_c : (recT tc).length = 34 := by rw [recT_length]; show 33 + (⟨#[99]⟩ : ByteArray).toList.length = 34; rw [one_toList]; rfl
theorem ne_ab : ta ≠ tb := fun h => absurd (congrArg (fun t : S31 => t.f1.f4.data.toList) h) (by decide)
theorem app_ok {recs : List By} {s : By} (h1 : s.length ≤ 4096) (h2 : (flat recs).length + (8 + s.length) ≤ 65536) : appE recs s = 0 := by
  unfold appE
  rw [if_neg (by omega), if_pos h2]
section
open Classical
theorem sayF_old {s : St} {t u : S31} (h : okT t) (hn : at_ s.first t = some u) : sayF s t = (if u = t then 0 else 8, s) := by
  unfold sayF
  rw [if_pos h, hn]
theorem sayF_new {s : St} {t : S31} (h : okT t) (hn : at_ s.first t = none) (he : appE s.recs (recT t) = 0) : sayF s t = (0, ⟨s.first ++ [t], s.all ++ [t], s.wait ++ [t], s.recs ++ [recT t], s.sure⟩) := by
  unfold sayF
  rw [if_pos h, hn]
  show (if appE s.recs (recT t) = 0 then _ else _) = _
  rw [if_pos he]
theorem sayF_full {s : St} {t : S31} (h : okT t) (hn : at_ s.first t = none) (he : ¬ appE s.recs (recT t) = 0) : sayF s t = (7, s) := by
  unfold sayF
  rw [if_pos h, hn]
  show (if appE s.recs (recT t) = 0 then _ else _) = _
  rw [if_neg he]
theorem sayF_arg {s : St} {t : S31} (h : ¬ okT t) : sayF s t = (1, s) := by
  unfold sayF
  rw [if_neg h]
def sa1 : St := ⟨[ta], [ta], [ta], [recT ta], 0⟩
def sa2 : St := ⟨[ta], [ta], [], [recT ta], 1⟩
def sa3 : St := ⟨[ta, tc], [ta, tc], [tc], [recT ta, recT tc], 1⟩
theorem ex1 : sayF st0 ta = (0, sa1) := sayF_new okT_a rfl (app_ok (by rw [len_a]; decide) (by rw [len_a]; decide))
theorem ex2 : sayF sa1 tb = (8, sa1) := (sayF_old okT_b rfl).trans (by rw [if_neg ne_ab])
theorem ex3 : sayF sa1 ta = (0, sa1) := (sayF_old okT_a rfl).trans (by rw [if_pos rfl])
theorem ex4 : sayF sa2 tc = (0, sa3) := sayF_new okT_c rfl (app_ok (by rw [len_c]; decide) (by
  show (flat [recT ta]).length + _ ≤ _
  rw [len_c, flat_cons, flat_nil, List.append_nil, frame_length, len_a]; decide))
theorem ex5 : crashF sa3 0 = sa2 := by
  have h : crL 0 sa3.recs sa3.sure = [recT ta] := crL_zero _ _ (by
    intro x hx
    change x ∈ [recT ta, recT tc] at hx
    simp only [List.mem_cons, List.not_mem_nil, or_false] at hx
    rcases hx with rfl | rfl
    · rw [len_a]; decide
    · rw [len_c]; decide)
  have h2 : crF rdX [recT ta] = ([ta], [ta]) := by
    have h := crF_snoc rdX [] (recT ta)
    rw [rdX_rec okT_a, if_pos rfl, List.nil_append] at h
    exact h
  unfold crashF
  rw [h, h2]
  rfl
theorem ex6 : sayF sa2 tb = (8, sa2) := (sayF_old okT_b rfl).trans (by rw [if_neg ne_ab])
theorem ex7 : saidF 2 sa2.all = [ta.f1] := rfl
end
section
variable {w w' : World} {B d : Nat} {ok ok' : Nat → Prop} {s : St}
theorem DSayV (h : Dz w B ok d s) (hfr : ∀ k, w.heap.size ≤ k → ok k) {t : S31} {r : Int} {s' : St} (he : sayF s t = (r, s')) :
    Calls Try.prog 12 #[.pointer (some ⟨d, 0, none⟩), .agg (cT t)] w fun e w' => e = .returned (.int .i64 r) ∧ Dz w' B ok d s' ∧ Below B w w' ∧ Kept w w' (TD ok w) := by
  have := DSay h hfr t
  rw [he] at this
  exact this
theorem DCrashV (h : Dz w B ok d s) (hfr : ∀ k, w.heap.size ≤ k → ok k) {keep : Int} {s2 : St} (he : crashF s keep = s2) : Calls Try.prog 11 #[.pointer (some ⟨d, 0, none⟩), .int .u64 keep] w fun e w' => e = .returned (.tuple #[]) ∧ Dz w' B ok d s2 ∧ Below B w w' ∧ Kept w w' (TD ok w) := by
  subst he
  refine (DCrash h hfr keep).mono ?_
  rintro e w' ⟨rfl, hz, hb, hk⟩
  exact ⟨rfl, hz, hb, hk.mono (fun k h => h.mono (fun _ h => h.elim))⟩
theorem DSayArgz (d : Nat) {t : S31} (h : ¬ okT t) : Calls Try.prog 12 #[.pointer (some ⟨d, 0, none⟩), .agg (cT t)] w fun e w' => e = .returned (.int .i64 1) ∧ Below w.heap.size w w' := by
  obtain ⟨K, hK⟩ := E_chkT t
  refine DSayArg0 d K t _ w hK ?_
  unfold okT at h
  by_cases hw : okW t.f1.f0 t.f1.f1 t.f1.f2 t.f1.f3 t.f1.f4.toList.length
  · have : ¬ (0 ≤ t.f0 ∧ t.f0 ≤ 64) := fun h' => h ⟨h', hw⟩
    omega
  · rw [if_neg hw]
    exact .inr (.inr (by decide))
theorem okT_m : ¬ okT tm := fun h => absurd h.1.1 (by decide)
theorem DWaitz (h : Dz w B ok d s) {n : Int} (hn : (s.wait.length : Int) = n) : Calls Try.prog 16 #[.pointer (some ⟨d, 0, none⟩)] w fun e w' => e = .returned (.int .i64 n) ∧ w' = w := by
  subst hn
  exact DWaiting h.1
theorem DSaidV (h : Dz w B ok d s) {ht : Int} {l : List S29} {n : Nat} (he : saidF ht s.all = l) (hn : l.length = n) : Calls Try.prog 14 #[.pointer (some ⟨d, 0, none⟩), .int .i64 ht] w fun e w' => ∃ A c, e = .returned (.slice A n c) ∧ k29.R 29 w' w.heap.size (fun k => w.heap.size ≤ k) (.slice A n c) l ∧ Below w.heap.size w w' := by
  subst hn he
  exact DSaidz h ht
theorem DOutV (h : Dz w B ok d s) {s2 : St} {l : List S31} {n : Nat} (he : outF s = s2) (hl : s.wait = l) (hn : l.length = n) : Calls Try.prog 10 #[.pointer (some ⟨d, 0, none⟩)] w fun e w' => ∃ A c okR, e = .returned (.slice A n c) ∧ k31.R 31 w' B okR (.slice A n c) l ∧ Dz w' B (fun k => ¬ okR k) d s2 ∧ (∀ k, w'.heap.size ≤ k → ¬ okR k) ∧ (∀ k, okR k → ok k) ∧ Below B w w' ∧ Kept w w' (TD ok w) := by
  subst hn hl he
  refine (DOutz h).mono ?_
  rintro e w' ⟨A, c, okW, rfl, h1, h2, h3, h4, h5⟩
  refine ⟨A, c, fun k => okW k ∧ k < w'.heap.size, rfl, Kd.R_mono (Kd.R_bound h2) (fun k h => ⟨h.1, h.2.2.1⟩), h3.mono (fun k h hr => h.2 hr.1), fun k h hr => Nat.lt_irrefl _ (Nat.lt_of_lt_of_le hr.2 h), fun k h => h1 k h.1, h4, h5⟩
theorem row_td {v : Value} {xs : List S31} {okr : Nat → Prop} (h : k31.R 31 w B okr v xs) (hk : Kept w w' (TD ok w)) (hn : ∀ k, okr k → ¬ ok k) : k31.R 31 w' B okr v xs := by
  refine R31_kept h hk (fun k cells h1 h2 hc ht => ?_)
  rcases ht with ⟨c, q, hc', hq⟩ | ⟨es, c, hc'⟩ | hok
  · rw [hc] at hc'
    injection hc' with hc'
    injection hc' with _ hc'
    subst hc'
    rcases hq with e | e | e | e | e <;> exact absurd e (by decide)
  · rw [hc] at hc'
    injection hc' with hc'
    cases hc'
  · exact hn k h1 hok
end

set_option maxHeartbeats 16000000 in
set_option maxRecDepth 100000 in
theorem awake (w : World) : Calls Try.prog 8 #[] w fun e w' => e = .returned (.bool true) ∧ Below w.heap.size w w' := by
  go_enter Try.func8, Try.ntmps8
  go_wp2_with (first | ((with_reducible refine gate_callee (f := 9) rfl ?_); refine goesL_ (some 9) rfl rfl Try.func9 (by kernel_rfl) rfl #[] rfl (by (try simp only [List.map_toArray, List.map_cons, List.map_nil]); first | done | rfl) ?_; (with_reducible refine (DNewz _).mono ?_); rintro e w1 ⟨d, rfl, hz, hb⟩; refine ⟨_, rfl, ?_⟩; have HZ := Aside0.mk hz; have HB := Aside0.mk hb; clear hz hb) | ((with_reducible refine gate_callee (f := 17) rfl ?_); refine goesL_ (some 13) rfl rfl Try.func17 (by kernel_rfl) rfl #[.string ⟨#[97]⟩] rfl (by (try simp only [List.map_toArray, List.map_cons, List.map_nil]); first | done | rfl) ?_; (with_reducible refine (sandglasslaw44_of.calls ⟨#[97]⟩ 2 2 1 3 0 ⟨#[97]⟩ _ rfl).mono ?_); rintro e w2 ⟨rfl, hb⟩; refine ⟨_, rfl, ?_⟩; have HZ := Aside0.mk (HZ.out.below hb); have HB := Aside0.mk (below_step HB.out hb); clear hb) | ((with_reducible refine gate_callee (f := 12) rfl ?_); refine goesL_ (some 14) rfl rfl Try.func12 (by kernel_rfl) rfl #[.pointer (some ⟨d, 0, none⟩), .agg (cT ta)] rfl (by (try simp only [List.map_toArray, List.map_cons, List.map_nil]); first | done | rfl) ?_; (with_reducible refine (DSayV HZ.out (fun k hk => Nat.le_trans HB.out.size hk) ex1).mono ?_); rintro e w3 ⟨rfl, hz, hb, hk⟩; refine ⟨_, rfl, ?_⟩; have HZ := Aside0.mk hz; have HB := Aside0.mk (HB.out.trans hb); clear hz hb hk) | ((with_reducible refine gate_callee (f := 17) rfl ?_); refine goesL_ (some 16) rfl rfl Try.func17 (by kernel_rfl) rfl #[.string ⟨#[98]⟩] rfl (by (try simp only [List.map_toArray, List.map_cons, List.map_nil]); first | done | rfl) ?_; (with_reducible refine (sandglasslaw44_of.calls ⟨#[98]⟩ 2 2 1 3 0 ⟨#[98]⟩ _ rfl).mono ?_); rintro e w4 ⟨rfl, hb⟩; refine ⟨_, rfl, ?_⟩; have HZ := Aside0.mk (HZ.out.below hb); have HB := Aside0.mk (below_step HB.out hb); clear hb) | ((with_reducible refine gate_callee (f := 12) rfl ?_); refine goesL_ (some 17) rfl rfl Try.func12 (by kernel_rfl) rfl #[.pointer (some ⟨d, 0, none⟩), .agg (cT tb)] rfl (by (try simp only [List.map_toArray, List.map_cons, List.map_nil]); first | done | rfl) ?_; (with_reducible refine (DSayV HZ.out (fun k hk => Nat.le_trans HB.out.size hk) ex2).mono ?_); rintro e w5 ⟨rfl, hz, hb, hk⟩; refine ⟨_, rfl, ?_⟩; have HZ := Aside0.mk hz; have HB := Aside0.mk (HB.out.trans hb); clear hz hb hk) | ((with_reducible refine gate_callee (f := 17) rfl ?_); refine goesL_ (some 19) rfl rfl Try.func17 (by kernel_rfl) rfl #[.string ⟨#[97]⟩] rfl (by (try simp only [List.map_toArray, List.map_cons, List.map_nil]); first | done | rfl) ?_; (with_reducible refine (sandglasslaw44_of.calls ⟨#[97]⟩ 2 2 1 3 0 ⟨#[97]⟩ _ rfl).mono ?_); rintro e w6 ⟨rfl, hb⟩; refine ⟨_, rfl, ?_⟩; have HZ := Aside0.mk (HZ.out.below hb); have HB := Aside0.mk (below_step HB.out hb); clear hb) | ((with_reducible refine gate_callee (f := 12) rfl ?_); refine goesL_ (some 20) rfl rfl Try.func12 (by kernel_rfl) rfl #[.pointer (some ⟨d, 0, none⟩), .agg (cT ta)] rfl (by (try simp only [List.map_toArray, List.map_cons, List.map_nil]); first | done | rfl) ?_; (with_reducible refine (DSayV HZ.out (fun k hk => Nat.le_trans HB.out.size hk) ex3).mono ?_); rintro e w7 ⟨rfl, hz, hb, hk⟩; refine ⟨_, rfl, ?_⟩; have HZ := Aside0.mk hz; have HB := Aside0.mk (HB.out.trans hb); clear hz hb hk) | ((with_reducible refine gate_callee (f := 16) rfl ?_); refine goesL_ (some 22) rfl rfl Try.func16 (by kernel_rfl) rfl #[.pointer (some ⟨d, 0, none⟩)] rfl (by (try simp only [List.map_toArray, List.map_cons, List.map_nil]); first | done | rfl) ?_; (with_reducible refine (DWaitz HZ.out (n := 1) rfl).mono ?_); rintro e w8 ⟨rfl, hw⟩; refine ⟨_, rfl, ?_⟩; subst hw) | ((with_reducible refine gate_callee (f := 10) rfl ?_); refine goesL_ (some 24) rfl rfl Try.func10 (by kernel_rfl) rfl #[.pointer (some ⟨d, 0, none⟩)] rfl (by (try simp only [List.map_toArray, List.map_cons, List.map_nil]); first | done | rfl) ?_; (with_reducible refine (DOutV HZ.out (s2 := sa2) (l := [ta]) (n := 1) rfl rfl rfl).mono ?_); rintro e w9 ⟨A9, c9, okR, rfl, hr, hz, hn, _, hb, _⟩; refine ⟨_, rfl, ?_⟩; have HZ := Aside0.mk hz; have HR := Aside0.mk hr; have HN := Aside0.mk hn; have HB := Aside0.mk (HB.out.trans hb); clear hz hr hn hb) | ((with_reducible refine gate_callee (f := 12) rfl ?_); refine goesL_ (some 28) rfl rfl Try.func12 (by kernel_rfl) rfl #[.pointer (some ⟨d, 0, none⟩), .agg (cT tc)] rfl (by (try simp only [List.map_toArray, List.map_cons, List.map_nil]); first | done | rfl) ?_; (with_reducible refine (DSayV HZ.out (fun k hk => HN.out k hk) ex4).mono ?_); rintro e w10 ⟨rfl, hz, hb, hk⟩; refine ⟨_, rfl, ?_⟩; have HZ := Aside0.mk hz; have HR := Aside0.mk (row_td HR.out hk (fun k h hn => hn h)); have HN := Aside0.mk (fun k (h : _ ≤ k) => HN.out k (Nat.le_trans hb.size h)); have HB := Aside0.mk (HB.out.trans hb); clear hz hb hk) | ((with_reducible refine gate_callee (f := 11) rfl ?_); refine goesL_ (some 30) rfl rfl Try.func11 (by kernel_rfl) rfl #[.pointer (some ⟨d, 0, none⟩), .int .u64 0] rfl (by (try simp only [List.map_toArray, List.map_cons, List.map_nil]); first | done | rfl) ?_; (with_reducible refine (DCrashV HZ.out (fun k hk => HN.out k hk) ex5).mono ?_); rintro e w11 ⟨rfl, hz, hb, hk⟩; refine ⟨_, rfl, ?_⟩; have HZ := Aside0.mk hz; have HR := Aside0.mk (row_td HR.out hk (fun k h hn => hn h)); have HN := Aside0.mk (fun k (h : _ ≤ k) => HN.out k (Nat.le_trans hb.size h)); have HB := Aside0.mk (HB.out.trans hb); clear hz hb hk) | ((with_reducible refine gate_callee (f := 17) rfl ?_); refine goesL_ (some 32) rfl rfl Try.func17 (by kernel_rfl) rfl #[.string ⟨#[98]⟩] rfl (by (try simp only [List.map_toArray, List.map_cons, List.map_nil]); first | done | rfl) ?_; (with_reducible refine (sandglasslaw44_of.calls ⟨#[98]⟩ 2 2 1 3 0 ⟨#[98]⟩ _ rfl).mono ?_); rintro e w12 ⟨rfl, hb⟩; refine ⟨_, rfl, ?_⟩; have HZ := Aside0.mk (HZ.out.below hb); have HB := Aside0.mk (below_step HB.out hb); have HR := Aside0.mk (Kd.R_below HR.out hb); have HN := Aside0.mk (fun k (h : _ ≤ k) => HN.out k (Nat.le_trans hb.size h)); clear hb) | ((with_reducible refine gate_callee (f := 12) rfl ?_); refine goesL_ (some 33) rfl rfl Try.func12 (by kernel_rfl) rfl #[.pointer (some ⟨d, 0, none⟩), .agg (cT tb)] rfl (by (try simp only [List.map_toArray, List.map_cons, List.map_nil]); first | done | rfl) ?_; (with_reducible refine (DSayV HZ.out (fun k hk => HN.out k hk) ex6).mono ?_); rintro e w13 ⟨rfl, hz, hb, hk⟩; refine ⟨_, rfl, ?_⟩; have HZ := Aside0.mk hz; have HR := Aside0.mk (row_td HR.out hk (fun k h hn => hn h)); have HN := Aside0.mk (fun k (h : _ ≤ k) => HN.out k (Nat.le_trans hb.size h)); have HB := Aside0.mk (HB.out.trans hb); clear hz hb hk))
  have hC := (Kd.R_reads' HR.out).2.2
  obtain ⟨ad, e101, _⟩ := at_T31 hC 0 (by omega) (by decide)
  cases e101
  have SOF : Aside0 (∀ w', Below w13.heap.size w13 w' → w'.cell? ad = some (.int .i64 2) ∧ w'.cell? ⟨ad.block, ad.off + 1, none⟩ = some (.int .i64 2) ∧ w'.cell? ⟨ad.block, ad.off + 2, none⟩ = some (.int .i64 1) ∧ w'.cell? ⟨ad.block, ad.off + 3, none⟩ = some (.int .i64 3) ∧ w'.cell? ⟨ad.block, ad.off + 4, none⟩ = some (.int .i64 0) ∧ w'.cell? ⟨ad.block, ad.off + 5, none⟩ = some (.string ⟨#[97]⟩)) := ⟨by
    intro w' hb
    obtain ⟨ad', e101, x⟩ := at_T31 (Kd.C_below hC hb) 0 (by omega) (by decide)
    injection e101 with e101
    subst e101
    exact x⟩
  clear hC
  go_region_held (fun w' => w'.cell? ad = some (.int .i64 2) ∧ w'.cell? ⟨ad.block, ad.off + 1, none⟩ = some (.int .i64 2) ∧ w'.cell? ⟨ad.block, ad.off + 2, none⟩ = some (.int .i64 1) ∧ w'.cell? ⟨ad.block, ad.off + 3, none⟩ = some (.int .i64 3) ∧ w'.cell? ⟨ad.block, ad.off + 4, none⟩ = some (.int .i64 0) ∧ w'.cell? ⟨ad.block, ad.off + 5, none⟩ = some (.string ⟨#[97]⟩)) (exact SOF.out _ (by repeat (first | (with_reducible exact HBq.out) | (with_reducible exact Below.refl _ _) | (with_reducible apply below_alloc) | (with_reducible apply below_drew)))) (first | ((refine (sandglasslaw44_of.calls ⟨#[97]⟩ 2 2 1 3 0 ⟨#[97]⟩ _ rfl).mono ?_); rintro e wq ⟨rfl, hb⟩; have hbq : Below w13.heap.size w13 wq := below_step (by repeat (first | (with_reducible exact HBq.out) | (with_reducible exact Below.refl _ _) | (with_reducible apply below_alloc) | (with_reducible apply below_drew))) hb; have HBq := Aside0.mk hbq; clear hb hbq) | ((refine (DSaidV (HZ.out.below (by repeat (first | (with_reducible exact HBq.out) | (with_reducible exact Below.refl _ _) | (with_reducible apply below_alloc) | (with_reducible apply below_drew)))) (ht := 2) (l := [ta.f1]) (n := 1) ex7 rfl).mono ?_); rintro e wq ⟨Aq, cq, rfl, _, hb⟩; have hbq : Below w13.heap.size w13 wq := below_step (by repeat (first | (with_reducible exact HBq.out) | (with_reducible exact Below.refl _ _) | (with_reducible apply below_alloc) | (with_reducible apply below_drew))) hb; have HBq := Aside0.mk hbq; clear hb hbq) | ((refine (DWaitz (HZ.out.below (by repeat (first | (with_reducible exact HBq.out) | (with_reducible exact Below.refl _ _) | (with_reducible apply below_alloc) | (with_reducible apply below_drew)))) (n := 0) rfl).mono ?_); rintro e wq ⟨rfl, hw⟩; subst hw) | ((refine (DSayArgz d (t := tm) okT_m).mono ?_); rintro e wq ⟨rfl, hb⟩; have hbq : Below w13.heap.size w13 wq := below_step (by repeat (first | (with_reducible exact HBq.out) | (with_reducible exact Below.refl _ _) | (with_reducible apply below_alloc) | (with_reducible apply below_drew))) hb; have HBq := Aside0.mk hbq; clear hb hbq))
  all_goals
    go_wp2
    go_ret
    exact ⟨rfl, below_step HB.out (by repeat (first | (with_reducible exact HBq.out) | (with_reducible exact Below.refl _ _) | (with_reducible apply below_alloc) | (with_reducible apply below_drew)))⟩
end Go.Proofs.Ytbihlbalmihbdaa.Di
namespace Go.Proofs.Ytbihlbalmihbdaa.Di
open Go.RowKit Go.Proofs.Ytbihlbalmihbdaa.PAll Go.Proofs.YtbihlbalmihbdaaW.PrintWords Go.Proofs.YtbihlbalmihbdaaW.PrintLast Go.Proofs.YtbihlbalmihbdaaW.PrintMore SG Go.Proofs.Ytbihlbalmihbdaa.Fun Go.Proofs.Ytbihlbalmihbdaa.Wal
open Go.Proofs.Ytbihlbalmihbdaa.WFun (okT recT recT_len E_chkT E_rec rdX E_dr tup rdX_rec rdX_ok)
set_option linter.unusedVariables false
set_option linter.unusedSimpArgs false

set_option maxHeartbeats 8000000 in
set_option maxRecDepth 100000 in
theorem NSay (w : World) (t : S31) : Calls Try.prog 12 #[.pointer none, .agg (cT t)] w fun e w' => e = .returned (.int .i64 1) ∧ Below w.heap.size w w' := by
  unfold cT
  go_enter Try.func12, Try.ntmps12
  go_wp2_with (first | ((with_reducible refine gate_dst (N := 3) rfl ?_); refine box_event ?hg (N := 3) ?hd (cs := #[.int .i64 t.f0, .int .i64 t.f1.f0, .int .i64 t.f1.f1, .int .i64 t.f1.f2, .int .i64 t.f1.f3, .string t.f1.f4]) (t := 31) ?hr ?_; (case hd => rfl); (case hg => rfl); (case hr => first | (go_simp; done) | (go_simp; rfl)); intro g hg w0 hbox hb; have HG0 := Aside0.mk (show w0.heap[g]? = some (.cells (cT t) 31 (0, 0)) from hbox); have HGE := Aside0.mk (show w.heap.size ≤ g by rw [hg]; exact Nat.le_refl _); have HB0 := Aside0.mk hb; have b0 : w0.cell? ⟨g, 0, none⟩ = some (.int .i64 t.f0) := (blk_cell hbox 0).trans rfl; have bz0 : w0.frozen? ⟨g, 0, none⟩ = false := blk_frozen hbox 0; have b1 : w0.cell? ⟨g, 1, none⟩ = some (.int .i64 t.f1.f0) := (blk_cell hbox 1).trans rfl; have bz1 : w0.frozen? ⟨g, 1, none⟩ = false := blk_frozen hbox 1; have b2 : w0.cell? ⟨g, 2, none⟩ = some (.int .i64 t.f1.f1) := (blk_cell hbox 2).trans rfl; have bz2 : w0.frozen? ⟨g, 2, none⟩ = false := blk_frozen hbox 2; have b3 : w0.cell? ⟨g, 3, none⟩ = some (.int .i64 t.f1.f2) := (blk_cell hbox 3).trans rfl; have bz3 : w0.frozen? ⟨g, 3, none⟩ = false := blk_frozen hbox 3; have b4 : w0.cell? ⟨g, 4, none⟩ = some (.int .i64 t.f1.f3) := (blk_cell hbox 4).trans rfl; have bz4 : w0.frozen? ⟨g, 4, none⟩ = false := blk_frozen hbox 4; have b5 : w0.cell? ⟨g, 5, none⟩ = some (.string t.f1.f4) := (blk_cell hbox 5).trans rfl; have bz5 : w0.frozen? ⟨g, 5, none⟩ = false := blk_frozen hbox 5; clear hg hbox hb))
  go_ret
  exact ⟨rfl, HB0.out⟩
set_option maxHeartbeats 8000000 in
set_option maxRecDepth 100000 in
theorem NOut (w : World) : Calls Try.prog 10 #[.pointer none] w fun e w' => e = .returned (.slice none 0 0) ∧ w' = w := by
  go_enter Try.func10, Try.ntmps10
  go_wp2
  go_ret
  exact ⟨rfl, rfl⟩
set_option maxHeartbeats 8000000 in
set_option maxRecDepth 100000 in
theorem NSaid (w : World) (h : Int) : Calls Try.prog 14 #[.pointer none, .int .i64 h] w fun e w' => e = .returned (.slice none 0 0) ∧ w' = w := by
  go_enter Try.func14, Try.ntmps14
  go_wp2
  go_ret
  exact ⟨rfl, rfl⟩
set_option maxHeartbeats 8000000 in
set_option maxRecDepth 100000 in
theorem NWaiting (w : World) : Calls Try.prog 16 #[.pointer none] w fun e w' => e = .returned (.int .i64 0) ∧ w' = w := by
  go_enter Try.func16, Try.ntmps16
  go_wp2
  go_ret
  exact ⟨rfl, rfl⟩
set_option maxHeartbeats 8000000 in
set_option maxRecDepth 100000 in
theorem NCrashD (w : World) (keep : Int) : Calls Try.prog 11 #[.pointer none, .int .u64 keep] w fun e w' => e = .returned (.tuple #[]) ∧ w' = w := by
  go_enter Try.func11, Try.ntmps11
  go_wp2
  exact bodyPost_ret (results_none rfl _ _ _) rfl ⟨rfl, rfl⟩
set_option maxHeartbeats 8000000 in
set_option maxRecDepth 100000 in
theorem DiaryNone_walk (t : S31) (keep : Int) (w : World) : Calls Try.prog 6 #[.agg (cT t), .int .u64 keep] w fun e w' => e = .returned (.bool true) ∧ Below w.heap.size w w' := by
  unfold cT
  go_enter Try.func6, Try.ntmps6
  go_wp2_with (first | ((with_reducible refine gate_dst (N := 2) rfl ?_); refine box_event ?hg (N := 2) ?hd (cs := #[.int .i64 t.f0, .int .i64 t.f1.f0, .int .i64 t.f1.f1, .int .i64 t.f1.f2, .int .i64 t.f1.f3, .string t.f1.f4]) (t := 31) ?hr ?_; (case hd => rfl); (case hg => rfl); (case hr => first | (go_simp; done) | (go_simp; rfl)); intro g hg w0 hbox hb; have HG0 := Aside0.mk (show w0.heap[g]? = some (.cells (cT t) 31 (0, 0)) from hbox); have HB0 := Aside0.mk hb; have b0 : w0.cell? ⟨g, 0, none⟩ = some (.int .i64 t.f0) := (blk_cell hbox 0).trans rfl; have bz0 : w0.frozen? ⟨g, 0, none⟩ = false := blk_frozen hbox 0; have b1 : w0.cell? ⟨g, 1, none⟩ = some (.int .i64 t.f1.f0) := (blk_cell hbox 1).trans rfl; have bz1 : w0.frozen? ⟨g, 1, none⟩ = false := blk_frozen hbox 1; have b2 : w0.cell? ⟨g, 2, none⟩ = some (.int .i64 t.f1.f1) := (blk_cell hbox 2).trans rfl; have bz2 : w0.frozen? ⟨g, 2, none⟩ = false := blk_frozen hbox 2; have b3 : w0.cell? ⟨g, 3, none⟩ = some (.int .i64 t.f1.f2) := (blk_cell hbox 3).trans rfl; have bz3 : w0.frozen? ⟨g, 3, none⟩ = false := blk_frozen hbox 3; have b4 : w0.cell? ⟨g, 4, none⟩ = some (.int .i64 t.f1.f3) := (blk_cell hbox 4).trans rfl; have bz4 : w0.frozen? ⟨g, 4, none⟩ = false := blk_frozen hbox 4; have b5 : w0.cell? ⟨g, 5, none⟩ = some (.string t.f1.f4) := (blk_cell hbox 5).trans rfl; have bz5 : w0.frozen? ⟨g, 5, none⟩ = false := blk_frozen hbox 5; clear hg hbox hb) | ((with_reducible refine gate_callee (f := 11) rfl ?_); refine goesL_ (some 8) rfl rfl Try.func11 (by kernel_rfl) rfl #[.pointer none, .int .u64 keep] rfl (by (try simp only [List.map_toArray, List.map_cons, List.map_nil]); first | done | rfl) ?_; (with_reducible refine (NCrashD _ keep).mono ?_); rintro e w1 ⟨rfl, hw⟩; refine ⟨_, rfl, ?_⟩; subst hw) | ((with_reducible refine gate_callee (f := 12) rfl ?_); refine goesL_ (some 11) rfl rfl Try.func12 (by kernel_rfl) rfl #[.pointer none, .agg (cT t)] rfl (by (try simp only [List.map_toArray, List.map_cons, List.map_nil]); first | done | rfl) ?_; (with_reducible refine (NSay _ t).mono ?_); rintro e w2 ⟨rfl, hb⟩; refine ⟨_, rfl, ?_⟩; have hg2 := blk_below HG0.out hb; have y0 : w2.cell? ⟨g, 0, none⟩ = some (.int .i64 t.f0) := (blk_cell hg2 0).trans rfl; have yz0 : w2.frozen? ⟨g, 0, none⟩ = false := blk_frozen hg2 0; have y1 : w2.cell? ⟨g, 1, none⟩ = some (.int .i64 t.f1.f0) := (blk_cell hg2 1).trans rfl; have yz1 : w2.frozen? ⟨g, 1, none⟩ = false := blk_frozen hg2 1; have y2 : w2.cell? ⟨g, 2, none⟩ = some (.int .i64 t.f1.f1) := (blk_cell hg2 2).trans rfl; have yz2 : w2.frozen? ⟨g, 2, none⟩ = false := blk_frozen hg2 2; have y3 : w2.cell? ⟨g, 3, none⟩ = some (.int .i64 t.f1.f2) := (blk_cell hg2 3).trans rfl; have yz3 : w2.frozen? ⟨g, 3, none⟩ = false := blk_frozen hg2 3; have y4 : w2.cell? ⟨g, 4, none⟩ = some (.int .i64 t.f1.f3) := (blk_cell hg2 4).trans rfl; have yz4 : w2.frozen? ⟨g, 4, none⟩ = false := blk_frozen hg2 4; have y5 : w2.cell? ⟨g, 5, none⟩ = some (.string t.f1.f4) := (blk_cell hg2 5).trans rfl; have yz5 : w2.frozen? ⟨g, 5, none⟩ = false := blk_frozen hg2 5; have HB0 := Aside0.mk (below_step HB0.out hb); clear hb hg2) | ((refine (NOut _).mono ?_); rintro e w3 ⟨rfl, hw⟩; subst hw) | ((refine (NSaid _ t.f0).mono ?_); rintro e w3 ⟨rfl, hw⟩; subst hw) | ((refine (NWaiting _).mono ?_); rintro e w3 ⟨rfl, hw⟩; subst hw) | ((refine (awake _).mono ?_); rintro e w5 ⟨rfl, hb⟩; have HB5 := Aside0.mk (below_step HB0.out hb); clear hb))
  go_ret
  exact ⟨rfl, HB5.out⟩
end Go.Proofs.Ytbihlbalmihbdaa.Di
namespace Go.Proofs.Ytbihlbalmihbdaa.Di
open Go.ChangeShapes Go.WideShapes Go.ChangeAt Go.RowKit Go.Proofs.Ytbihlbalmihbdaa.PAll Go.Proofs.YtbihlbalmihbdaaW.PrintWords SG
set_option linter.unusedVariables false
set_option maxRecDepth 100000 in
/-- A word that comes in by value. -/
theorem tall_arg {H : Type} {enc : TypeId × Value → H} {W : World} {base b' : Nat} {spare : Nat → Bool} {held : Bool} {v : Value} {d : DataW H} {ps : List MemPlace} {m : _}
    (hv : Value.okWide Try.prog W m b' 31 v) (h : DataW.Trod enc Try.prog W base spare held 31 v d ps) : ∃ t : S31, v = .agg (cT t) := by
  obtain ⟨cs, rfl, _⟩ := okWide_struct Try.underlying31 hv
  obtain ⟨fuel, hf⟩ := h
  have f := SG.PT.ok_fits (.agg [.int .i64, .agg [.int .i64, .int .i64, .int .i64, .int .i64, .str]]) 31 _ _ _ (by kernel_rfl) hf
  simp only [SG.PT.fits, SG.PT.fitsL, Value.cells] at f
  obtain ⟨_, _, e_, ⟨a0, rfl, _⟩, ⟨_, _, rfl, ⟨_, _, rfl, ⟨a1, rfl, _⟩, ⟨_, _, rfl, ⟨a2, rfl, _⟩, ⟨_, _, rfl, ⟨a3, rfl, _⟩, ⟨_, _, rfl, ⟨a4, rfl, _⟩, ⟨_, _, rfl, ⟨a5, rfl, _⟩, rfl⟩⟩⟩⟩⟩, rfl⟩⟩ := f
  exact ⟨⟨a0, ⟨a1, a2, a3, a4, a5⟩⟩, congrArg Value.agg (Array.toList_inj.mp (e_.trans rfl))⟩
def toD : List Value → S34
  | [.int _ a, .int _ b, .int _ c, .int _ d, .int _ e, .int _ f, .string s, .int _ k] => ⟨a, ⟨b, ⟨c, d, e, f, s⟩⟩, k⟩
  | _ => z34
set_option maxRecDepth 100000 in
/-- Deeds that come in. -/
theorem deeds_arg {H : Type} {enc : TypeId × Value → H} {W : World} {base : Nat} {spare : Nat → Bool} {held : Bool} {a : Option Addr} {len cap : Nat} {d : DataW H} {ps : List MemPlace}
    (h : DataW.Trod enc Try.prog W base spare held 22 (.slice a len cap) d ps) : ∃ l : List S34, len = l.length ∧ Kd.C k34 W a l.length l ∧ l.length ≤ cap := by
  obtain ⟨L, rfl, hf, hc, hm, hr⟩ := plain_slice (.agg [.int .i64, .agg [.int .i64, .agg [.int .i64, .int .i64, .int .i64, .int .i64, .str]], .int .u64]) Try.underlying22 (e := 34) (by kernel_rfl) (by kernel_rfl) h
  refine ⟨L.map toD, (List.length_map _).symm, ⟨rfl, ?_, fun hn => ?_⟩, by rw [List.length_map]; exact hc⟩
  · rw [List.length_map]
    unfold maxLen at hm
    omega
  · rw [List.length_map] at hn
    obtain ⟨ad, e, hcell⟩ := hr hn
    refine ⟨ad, e, fun j p hj => ?_⟩
    rw [List.getElem?_map, Option.map_eq_some_iff] at hj
    obtain ⟨c, hc, rfl⟩ := hj
    obtain ⟨x1, y1, rfl, ⟨n1, rfl, _⟩, x2, y2, rfl, ⟨x3, y3, rfl, ⟨n3, rfl, _⟩, x4, y4, rfl, ⟨x5, y5, rfl, ⟨n5, rfl, _⟩, x6, y6, rfl, ⟨n6, rfl, _⟩, x7, y7, rfl, ⟨n7, rfl, _⟩, x8, y8, rfl, ⟨n8, rfl, _⟩, x9, y9, rfl, ⟨n9, rfl, _⟩, rfl⟩, rfl⟩, x10, y10, rfl, ⟨n10, rfl, _⟩, rfl⟩ := hf c (List.mem_of_getElem? hc)
    exact ⟨_, rfl, k34_mk W ⟨n1, ⟨n3, ⟨n5, n6, n7, n8, n9⟩⟩, n10⟩, fun i u hu => hcell j _ hc i u hu⟩
end Go.Proofs.Ytbihlbalmihbdaa.Di
namespace Go.Proofs.Ytbihlbalmihbdaa.Di
open Go.RowKit Go.Proofs.Ytbihlbalmihbdaa.PAll Go.Proofs.YtbihlbalmihbdaaW.PrintWords Go.Proofs.YtbihlbalmihbdaaW.PrintLast Go.Proofs.YtbihlbalmihbdaaW.PrintMore SG Go.Proofs.Ytbihlbalmihbdaa.Fun Go.Proofs.Ytbihlbalmihbdaa.Wal
open Go.Proofs.Ytbihlbalmihbdaa.WFun (okT recT recT_len E_chkT E_rec rdX E_dr tup rdX_rec rdX_ok)
set_option linter.unusedVariables false
set_option linter.unusedSimpArgs false

/-- Deeds that are few. -/
def fewP (l : List S34) : Prop := l.length ≤ 80 ∧ ∀ x ∈ l, x.f1.f1.f4.size ≤ 5000

theorem rd34 {l : List S34} {i : Nat} (h : i < l.length) : rd_T34 l (i : Int) = l[i] := by
  unfold rd_T34
  rw [Int.toNat_natCast, List.getD_eq_getElem?_getD, List.getElem?_eq_getElem h, Option.getD_some]

theorem few_l0 (l : List S34) (hl : l.length ≤ 80) (d : Nat) : ∀ (i : Nat), l.length - i = d →
    (sandglasslaw44_few.l0 (d + 1) l (i : Int) = some true ∧ ∀ j, i ≤ j → (h : j < l.length) → l[j].f1.f1.f4.size ≤ 5000) ∨ sandglasslaw44_few.l0 (d + 1) l (i : Int) = some false := by
  induction d with
  | zero =>
    intro i h
    left
    refine ⟨?_, fun j h1 h2 => by omega⟩
    unfold sandglasslaw44_few.l0
    rw [if_neg (by omega)]
  | succ d ih =>
    intro i h
    unfold sandglasslaw44_few.l0
    rw [if_pos (by omega), if_pos (by omega), rd34 (by omega)]
    by_cases hs : ((l[i]'(by omega)).f1.f1.f4.size : Int) > 5000
    · right
      rw [if_pos hs]
    · rw [if_neg hs, w64n _ (by omega)]
      rcases ih (i + 1) (by omega) with ⟨h1, h2⟩ | h1
      · left
        refine ⟨h1, fun j h3 h4 => ?_⟩
        by_cases hj : i = j
        · subst hj; omega
        · exact h2 j (by omega) h4
      · right
        exact h1
theorem few_f (l : List S34) : (sandglasslaw44_few.f (l.length + 1) l = some true ∧ fewP l) ∨ sandglasslaw44_few.f (l.length + 1) l = some false := by
  unfold sandglasslaw44_few.f
  by_cases h : (l.length : Int) > 80
  · right
    rw [if_pos h]
  · rw [if_neg h]
    rcases few_l0 l (by omega) l.length 0 (by omega) with ⟨h1, h2⟩ | h1
    · left
      refine ⟨h1, by omega, fun x hx => ?_⟩
      obtain ⟨j, hj, rfl⟩ := List.getElem_of_mem hx
      exact h2 j (by omega) hj
    · right
      exact h1


/-- Words that are the same. -/
theorem words_l0 (l : List S29) (hl : l.length ≤ 100000) (d : Nat) : ∀ (i : Nat), l.length - i = d → sandglassref16_Words.l0 (d + 1) l l (i : Int) = some true := by
  induction d with
  | zero =>
    intro i h
    unfold sandglassref16_Words.l0
    rw [if_neg (by omega)]
  | succ d ih =>
    intro i h
    have hi : i < l.length := by omega
    unfold sandglassref16_Words.l0
    rw [if_pos (by omega), if_pos (by omega), if_pos (by omega), if_neg (by simp), w64m i (by omega)]
    exact ih (i + 1) (by omega)
theorem words_f (l : List S29) (hl : l.length ≤ 100000) : sandglassref16_Words.f (l.length + 1) l l = some true := by
  unfold sandglassref16_Words.f
  rw [if_pos rfl]
  exact words_l0 l hl l.length 0 (by omega)
theorem WordsEq {w : World} {A0 A1 : Option Addr} {c0 c1 n : Nat} (l : List S29) (hl : l.length ≤ 100000) (hn : l.length = n) (h0 : Kd.C k29 w A0 l.length l) (hc0 : n ≤ c0) (h1 : Kd.C k29 w A1 l.length l) (hc1 : n ≤ c1) :
    Calls Try.prog 15 #[.slice A0 n c0, .slice A1 n c1] w fun e w' => e = .returned (.bool true) ∧ Below w.heap.size w w' := by
  subst hn
  refine (sandglassref16_Words.calls _ A0 c0 l A1 c1 l true w h0 hc0 h1 hc1 (words_f l hl)).mono ?_
  rintro e w' ⟨rfl, h⟩
  exact ⟨rfl, h.below⟩
/-- Deeds without a crash. -/
noncomputable def playK : List S34 → St → St
  | [], s => s
  | x :: r, s => playK r (if x.f0 = 1 then outF s else (sayF s x.f1).2)
/-- All is what the records say. -/
def Cl (s : St) : Prop := s.recs = s.all.map recT ∧ ∀ t ∈ s.all, okT t
theorem Cl_say {s : St} (h : Cl s) (t : S31) : Cl (sayF s t).2 := by
  by_cases hok : okT t
  · cases hn : at_ s.first t with
    | some u => rw [sayF_old hok hn]; exact h
    | none =>
      by_cases he : appE s.recs (recT t) = 0
      · rw [sayF_new hok hn he]
        refine ⟨?_, fun x hx => ?_⟩
        · show s.recs ++ [recT t] = (s.all ++ [t]).map recT
          rw [h.1, List.map_append]
          rfl
        · rcases List.mem_append.1 hx with hx | hx
          · exact h.2 x hx
          · rw [List.mem_singleton.1 hx]; exact hok
      · rw [sayF_full hok hn he]; exact h
  · rw [sayF_arg hok]; exact h
theorem Cl_play (l : List S34) : ∀ (s : St), Cl s → Cl (playK l s) := by
  induction l with
  | nil => exact fun s h => h
  | cons x r ih =>
    intro s h
    rw [playK]
    refine ih _ ?_
    by_cases hx : x.f0 = 1
    · rw [if_pos hx]; exact h
    · rw [if_neg hx]; exact Cl_say h _
theorem crF_all (all : List S31) (h : ∀ t ∈ all, okT t) : (crF rdX (all.map recT)).2 = all := by
  have : ∀ (l : List S31) (s : List S31 × List S31), (∀ t ∈ l, okT t) → ((l.map recT).foldl (fun s r => if (rdX r).2 = true then (noteF s.1 (rdX r).1, s.2 ++ [(rdX r).1]) else s) s).2 = s.2 ++ l := by
    intro l
    induction l with
    | nil => intro s _; simp
    | cons t l ih =>
      intro s hl
      rw [List.map_cons, List.foldl_cons, rdX_rec (hl t (by simp)), if_pos rfl, ih _ (fun x hx => hl x (List.mem_cons_of_mem _ hx))]
      simp
  have := this all ([], []) h
  simpa [crF] using this
theorem crL_full (keep : Int) (recs : List By) (h : ∀ x ∈ recs, x.length ≤ 4096) : crL keep recs recs.length = recs := by
  unfold crL
  rw [List.take_length]
  obtain ⟨s1, s2, s3⟩ := crB_spec keep (flat recs) (flat recs).length (Nat.le_refl _)
  rw [List.take_length, List.take_of_length_le s2] at s3
  have hp := pre_append recs h []
  rw [List.append_nil] at hp
  rw [s3, hp]
  show recs ++ (pre []).1 = _
  rw [pre_other (by decide), List.append_nil]
/-- Behind a crash all is there that was sure. -/
theorem kept_all {s : St} (h : Cl s) (hr : ∀ x ∈ s.recs, x.length ≤ 4096) (keep : Int) : (crashF (outF s) keep).all = s.all := by
  show (crF rdX (crL keep s.recs s.recs.length)).2 = s.all
  rw [crL_full keep _ hr, h.1]
  exact crF_all _ h.2
end Go.Proofs.Ytbihlbalmihbdaa.Di
namespace Go.Proofs.Ytbihlbalmihbdaa.Di
open Go.RowKit Go.Proofs.Ytbihlbalmihbdaa.PAll Go.Proofs.YtbihlbalmihbdaaW.PrintWords Go.Proofs.YtbihlbalmihbdaaW.PrintLast Go.Proofs.YtbihlbalmihbdaaW.PrintMore SG Go.Proofs.Ytbihlbalmihbdaa.Fun Go.Proofs.Ytbihlbalmihbdaa.Wal
open Go.Proofs.Ytbihlbalmihbdaa.WFun (okT recT recT_len E_chkT E_rec rdX E_dr tup rdX_rec rdX_ok)
set_option linter.unusedVariables false
set_option linter.unusedSimpArgs false


section
variable {w w' : World} {B d : Nat} {ok : Nat → Prop} {s : St}
theorem DOutD (h : Dz w B ok d s) : Calls Try.prog 10 #[.pointer (some ⟨d, 0, none⟩)] w fun e w' => ∃ v, e = .returned v ∧ Dz w' B ok d (outF s) ∧ Below B w w' := by
  refine (DOutz h).mono ?_
  rintro e w' ⟨A, c, okW, rfl, h1, h2, h3, h4, h5⟩
  exact ⟨_, rfl, h3.mono (fun k h => h.1), h4⟩
theorem k29_types (q : Nat) (h : q ∈ 29 :: k29.E) : q = 29 := by
  simpa [k29, Kd.iso, Kd.pair, Kd.int, Kd.string, Kd.scalar] using h
theorem row29_kept {v : Value} {xs : List S29} {okr : Nat → Prop} (h : k29.R 29 w B okr v xs) (hk : Kept w w' (TD (fun _ => False) w)) : k29.R 29 w' B okr v xs := by
  refine Kd.R_mono (Kd.R_move (Kd.R_bound h) (fun k h => ?_)) (fun _ h => h.1)
  obtain ⟨ho, _, hlt, q, hq, cells, hc⟩ := h
  have hq := k29_types q hq
  subst hq
  refine hk.2 k hlt (fun ht => ?_)
  rcases ht with ⟨c, q, hc', hq⟩ | ⟨es, c, hc'⟩ | hok
  · rw [hc] at hc'
    injection hc' with hc'
    injection hc' with _ hc'
    subst hc'
    rcases hq with e | e | e | e | e <;> exact absurd e (by decide)
  · rw [hc] at hc'
    injection hc' with hc'
    cases hc'
  · exact hok
end
set_option maxHeartbeats 16000000 in
set_option maxRecDepth 100000 in
theorem DiaryKept_many (A0 : Option Addr) (c0 : Nat) (l : List S34) (keep h : Int) (w : World) (hr0 : Kd.C k34 w A0 l.length l) (hc0 : l.length ≤ c0) (hf : sandglasslaw44_few.f (l.length + 1) l = some false) :
    Calls Try.prog 4 #[.slice A0 l.length c0, .int .u64 keep, .int .i64 h] w fun e w' => e = .returned (.bool true) ∧ Below w.heap.size w w' := by
  go_enter Try.func4, Try.ntmps4
  go_wp2_with (first | ((with_reducible refine gate_callee (f := 7) rfl ?_); refine goesL_ (some 11) rfl rfl Try.func7 (by kernel_rfl) rfl #[.slice A0 l.length c0] rfl (by (try simp only [List.map_toArray, List.map_cons, List.map_nil]); first | done | rfl) ?_; (with_reducible refine (sandglasslaw44_few.calls _ A0 c0 l false _ hr0 hc0 hf).mono ?_); rintro e w1 ⟨rfl, hb⟩; refine ⟨_, rfl, ?_⟩; have HB1 := Aside0.mk hb.below; clear hb) | ((with_reducible refine gate_callee (f := 8) rfl ?_); refine goesL_ (some 13) rfl rfl Try.func8 (by kernel_rfl) rfl #[] rfl (by (try simp only [List.map_toArray, List.map_cons, List.map_nil]); first | done | rfl) ?_; (with_reducible refine (awake _).mono ?_); rintro e w2 ⟨rfl, hb⟩; refine ⟨_, rfl, ?_⟩; have HB2 := Aside0.mk (below_step HB1.out hb); clear hb))
  go_ret
  exact ⟨rfl, HB2.out⟩
set_option maxHeartbeats 16000000 in
set_option maxRecDepth 100000 in
theorem DiaryKept_few (A0 : Option Addr) (c0 : Nat) (l : List S34) (keep h : Int) (w : World) (hr0 : Kd.C k34 w A0 l.length l) (hc0 : l.length ≤ c0) (hf : sandglasslaw44_few.f (l.length + 1) l = some true) (hfl : l.length ≤ 80) :
    Calls Try.prog 4 #[.slice A0 l.length c0, .int .u64 keep, .int .i64 h] w fun e w' => e = .returned (.bool true) ∧ Below w.heap.size w w' := by
  have HR0 := Aside0.mk hr0
  have HF := Aside0.mk hf
  clear hf
  go_enter Try.func4, Try.ntmps4
  go_wp2_with (first | ((with_reducible refine gate_callee (f := 7) rfl ?_); refine goesL_ (some 11) rfl rfl Try.func7 (by kernel_rfl) rfl #[.slice A0 l.length c0] rfl (by (try simp only [List.map_toArray, List.map_cons, List.map_nil]); first | done | rfl) ?_; (with_reducible refine (sandglasslaw44_few.calls _ A0 c0 l true _ hr0 hc0 HF.out).mono ?_); rintro e w1 ⟨rfl, hb⟩; refine ⟨_, rfl, ?_⟩; have HB1 := Aside0.mk hb.below; clear hb) | ((with_reducible refine gate_callee (f := 9) rfl ?_); refine goesL_ (some 14) rfl rfl Try.func9 (by kernel_rfl) rfl #[] rfl (by (try simp only [List.map_toArray, List.map_cons, List.map_nil]); first | done | rfl) ?_; (with_reducible refine (DNewz _).mono ?_); rintro e w2 ⟨d, rfl, hz, hb⟩; refine ⟨_, rfl, ?_⟩; have HZ := Aside0.mk hz; have HB2 := Aside0.mk (below_step HB1.out hb); have HB := Aside0.mk hb; clear hz hb))
  clear hr0
  go_loopg [8] l.length (fun kq v8 w' => ∃ (i : Nat) (s : St), v8 = .int .i64 (i : Int) ∧ Aside0 (i + kq = l.length) ∧ Aside0 (Dz w' w1.heap.size (fun k => w1.heap.size ≤ k) d s) ∧ Aside0 (Cl s) ∧ Aside0 (Below w1.heap.size w1 w'))
  case atStart => exact ⟨0, st0, rfl, ⟨by omega⟩, HZ, ⟨rfl, fun t ht => by cases ht⟩, HB⟩
  case round =>
    obtain ⟨i, s, rfl, HI, HZi, HC, HBi⟩ := hrel
    have hi := HI.out
    by_cases hat : i < l.length
    · obtain ⟨k1, rfl⟩ : ∃ k1, gk = k1 + 1 := ⟨gk - 1, by omega⟩
      have hlt : decide ((i : Int) < (l.length : Int)) = true := decide_eq_true (by omega)
      obtain ⟨ad, e101, x0, x1, x2, x3, x4, x5, x6, x7⟩ := at_T34 (Kd.C_below HR0.out (below_step HB1.out HBi.out)) (i : Int) (by omega) (by omega)
      cases e101
      rw [rd34 hat] at x0 x1 x2 x3 x4 x5 x6 x7
      rw [Int.toNat_natCast] at x0 x1 x2 x3 x4 x5 x6 x7
      generalize l[i] = x at x0 x1 x2 x3 x4 x5 x6 x7
      clear x7 HI
      by_cases hk : x.f0 = 1
      · have e1 : (x.f0 == 1) = true := by simp [hk]
        clear hk
        go_wp2_with (first | ((with_reducible refine gate_callee (f := 10) rfl ?_); refine goesL_ (some 28) rfl rfl Try.func10 (by kernel_rfl) rfl #[.pointer (some ⟨d, 0, none⟩)] rfl (by (try simp only [List.map_toArray, List.map_cons, List.map_nil]); first | done | rfl) ?_; (with_reducible refine (DOutD HZi.out).mono ?_); rintro e w3 ⟨v3, rfl, hz, hb⟩; refine ⟨_, rfl, ?_⟩; have HZ3 := Aside0.mk hz; have HB3 := Aside0.mk (HBi.out.trans hb); clear hz hb))
        go_roundg k1
        case measure => omega
        case rel => exact ⟨i + 1, outF s, rfl, ⟨by omega⟩, HZ3, HC, HB3⟩
      · have e1 : (x.f0 == 1) = false := by simpa using hk
        clear hk
        go_wp2_with (first | ((with_reducible refine gate_callee (f := 12) rfl ?_); refine goesL_ (some 35) rfl rfl Try.func12 (by kernel_rfl) rfl #[.pointer (some ⟨d, 0, none⟩), .agg (cT x.f1)] rfl (by (try simp only [List.map_toArray, List.map_cons, List.map_nil]); first | done | rfl) ?_; (with_reducible refine (DSay HZi.out (fun k hk => Nat.le_trans HBi.out.size hk) x.f1).mono ?_); rintro e w3 ⟨rfl, hz, hb, _⟩; refine ⟨_, rfl, ?_⟩; have HZ3 := Aside0.mk hz; have HB3 := Aside0.mk (HBi.out.trans hb); clear hz hb))
        go_roundg k1
        case measure => omega
        case rel => exact ⟨i + 1, (sayF s x.f1).2, rfl, ⟨by omega⟩, HZ3, ⟨Cl_say HC.out x.f1⟩, HB3⟩
    · obtain rfl : gk = 0 := by omega
      have hge : decide ((i : Int) < (l.length : Int)) = false := decide_eq_false (by omega)
      have HL : Aside0 ((saidF h s.all).length ≤ 100000) := ⟨by
        have h1 := HZi.out.count.1
        have h2 := HZi.out.2.2.2.1
        have h3 := saidF_len h s.all
        omega⟩
      have HKA := Aside0.mk (kept_all HC.out HZi.out.count.2 keep)
      clear HI
      obtain ⟨n, hn⟩ : ∃ n, n = (saidF h s.all).length := ⟨_, rfl⟩
      have HN := Aside0.mk hn
      clear hn
      go_wp2_with (first | ((with_reducible refine gate_callee (f := 10) rfl ?_); refine goesL_ (some 37) rfl rfl Try.func10 (by kernel_rfl) rfl #[.pointer (some ⟨d, 0, none⟩)] rfl (by (try simp only [List.map_toArray, List.map_cons, List.map_nil]); first | done | rfl) ?_; (with_reducible refine (DOutD HZi.out).mono ?_); rintro e w3 ⟨v3, rfl, hz, hb⟩; refine ⟨_, rfl, ?_⟩; have HZ3 := Aside0.mk hz; have HB3 := Aside0.mk (HBi.out.trans hb); clear hz hb) | ((with_reducible refine gate_callee (f := 14) rfl ?_); refine goesL_ (some 40) rfl rfl Try.func14 (by kernel_rfl) rfl #[.pointer (some ⟨d, 0, none⟩), .int .i64 h] rfl (by (try simp only [List.map_toArray, List.map_cons, List.map_nil]); first | done | rfl) ?_; (with_reducible refine (DSaidV HZ3.out (l := saidF h s.all) (n := n) rfl HN.out.symm).mono ?_); rintro e w4 ⟨A4, c4, rfl, hr, hb⟩; refine ⟨_, rfl, ?_⟩; have HZ4 := Aside0.mk (HZ3.out.below hb); have HR4 := Aside0.mk hr; have HB4 := Aside0.mk (below_step HB3.out hb); clear hr hb) | ((with_reducible refine gate_callee (f := 11) rfl ?_); refine goesL_ (some 43) rfl rfl Try.func11 (by kernel_rfl) rfl #[.pointer (some ⟨d, 0, none⟩), .int .u64 keep] rfl (by (try simp only [List.map_toArray, List.map_cons, List.map_nil]); first | done | rfl) ?_; (with_reducible refine (DCrash HZ4.out (fun k hk => Nat.le_trans HB4.out.size hk) keep).mono ?_); rintro e w5 ⟨rfl, hz, hb, hk⟩; refine ⟨_, rfl, ?_⟩; have HZ5 := Aside0.mk hz; have HR5 := Aside0.mk (row29_kept HR4.out hk); have HB5 := Aside0.mk (HB4.out.trans hb); clear hz hb hk) | ((with_reducible refine gate_callee (f := 14) rfl ?_); refine goesL_ (some 46) rfl rfl Try.func14 (by kernel_rfl) rfl #[.pointer (some ⟨d, 0, none⟩), .int .i64 h] rfl (by (try simp only [List.map_toArray, List.map_cons, List.map_nil]); first | done | rfl) ?_; (with_reducible refine (DSaidV HZ5.out (l := saidF h s.all) (n := n) (congrArg (saidF h) HKA.out) HN.out.symm).mono ?_); rintro e w6 ⟨A6, c6, rfl, hr, hb⟩; refine ⟨_, rfl, ?_⟩; have HR6 := Aside0.mk hr; have HR5 := Aside0.mk (Kd.R_below HR5.out hb); have HB6 := Aside0.mk (below_step HB5.out hb); clear hr hb) | ((with_reducible refine gate_callee (f := 15) rfl ?_); refine goesL_ (some 48) rfl rfl Try.func15 (by kernel_rfl) rfl #[.slice A6 n c6, .slice A4 n c4] rfl (by (try simp only [List.map_toArray, List.map_cons, List.map_nil]); first | done | rfl) ?_; (with_reducible refine (WordsEq (saidF h s.all) HL.out HN.out.symm (Kd.R_reads' HR6.out).2.2 (Kd.R_reads' HR6.out).2.1 (Kd.R_reads' HR5.out).2.2 (Kd.R_reads' HR5.out).2.1).mono ?_); rintro e w7 ⟨rfl, hb⟩; refine ⟨_, rfl, ?_⟩; have HB7 := Aside0.mk (below_step HB6.out hb); clear hb) | ((refine (awake _).mono ?_); rintro e w8 ⟨rfl, hb⟩; have HB8 := Aside0.mk (below_step HB7.out hb); clear hb))
      go_ret
      exact ⟨rfl, below_step HB1.out HB8.out⟩
theorem DiaryKept_walk (A0 : Option Addr) (c0 : Nat) (l : List S34) (keep h : Int) (w : World) (hr0 : Kd.C k34 w A0 l.length l) (hc0 : l.length ≤ c0) :
    Calls Try.prog 4 #[.slice A0 l.length c0, .int .u64 keep, .int .i64 h] w fun e w' => e = .returned (.bool true) ∧ Below w.heap.size w w' := by
  rcases few_f l with ⟨h1, h2⟩ | h1
  · exact DiaryKept_few A0 c0 l keep h w hr0 hc0 h1 h2.1
  · exact DiaryKept_many A0 c0 l keep h w hr0 hc0 h1
end Go.Proofs.Ytbihlbalmihbdaa.Di
namespace Go.Proofs.Ytbihlbalmihbdaa.Di
open Go.RowKit Go.Proofs.Ytbihlbalmihbdaa.PAll Go.Proofs.YtbihlbalmihbdaaW.PrintWords Go.Proofs.YtbihlbalmihbdaaW.PrintLast Go.Proofs.YtbihlbalmihbdaaW.PrintMore SG Go.Proofs.Ytbihlbalmihbdaa.Fun Go.Proofs.Ytbihlbalmihbdaa.Wal
open Go.Proofs.Ytbihlbalmihbdaa.WFun (okT recT recT_len E_chkT E_rec rdX E_dr tup rdX_rec rdX_ok)
set_option linter.unusedVariables false
set_option linter.unusedSimpArgs false

/-- A word's place is among the first words. -/
def has (first : List S31) (t : S31) : Prop := ∃ u ∈ first, pl t u = true
theorem has_of {first : List S31} {t u : S31} (h : at_ first t = some u) : has first t := ⟨u, at_wf h⟩
theorem has_none {first : List S31} {t : S31} (h : at_ first t = none) : ¬ has first t := by
  rintro ⟨u, hu, hp⟩
  unfold at_ at h
  rw [List.find?_eq_none] at h
  exact h u hu hp
theorem pl_refl (t : S31) : pl t t = true := ky_eq.1 rfl
theorem pl_trans {a b c : S31} (h : pl a b = true) (h2 : pl b c = true) : pl a c = true := ky_eq.1 ((ky_eq.2 h).trans (ky_eq.2 h2))
theorem has_app {first : List S31} {t : S31} (h : has first t) (r : List S31) : has (first ++ r) t := by
  obtain ⟨u, hu, hp⟩ := h
  exact ⟨u, List.mem_append_left _ hu, hp⟩
theorem has_note {first : List S31} {t u : S31} (h : has first t ∨ t = u) : has (noteF first u) t := by
  unfold noteF
  cases hn : at_ first u with
  | none =>
    show has (first ++ [u]) t
    rcases h with h | rfl
    · exact has_app h _
    · exact ⟨t, by simp, pl_refl t⟩
  | some v =>
    show has first t
    rcases h with h | rfl
    · exact h
    · exact has_of hn
theorem crG_has (rd : By → S31 × Bool) (t : S31) (recs : List By) : ∀ (s : List S31 × List S31), (has s.1 t ∨ ∃ r ∈ recs, rd r = (t, true)) →
    has (recs.foldl (fun s r => if (rd r).2 = true then (noteF s.1 (rd r).1, s.2 ++ [(rd r).1]) else s) s).1 t := by
  induction recs with
  | nil => rintro s (h | ⟨r, hr, _⟩); exact h; cases hr
  | cons r l ih =>
    intro s h
    rw [List.foldl_cons]
    refine ih _ ?_
    rcases h with h | ⟨x, hx, e⟩
    · left
      by_cases hr : (rd r).2 = true
      · rw [if_pos hr]; exact has_note (.inl h)
      · rw [if_neg hr]; exact h
    · rcases List.mem_cons.1 hx with rfl | hx
      · left
        rw [if_pos (by rw [e]), e]
        exact has_note (.inr rfl)
      · exact .inr ⟨x, hx, e⟩
/-- Of the words that came out, and wait. -/
def Iv (came : List S31) (s : St) : Prop :=
  (came ++ s.wait).Pairwise (fun a b => pl a b = false) ∧ (∀ t ∈ came ++ s.wait, okT t ∧ has s.first t) ∧ (∀ t ∈ came, recT t ∈ s.recs.take s.sure) ∧ (∀ t ∈ s.wait, recT t ∈ s.recs)
theorem Iv_0 : Iv [] st0 := by
  unfold Iv st0
  simp
theorem Iv_say {came : List S31} {s : St} (h : Iv came s) (hs : s.sure ≤ s.recs.length) (t : S31) : Iv came (sayF s t).2 := by
  by_cases hok : okT t
  · cases hn : at_ s.first t with
    | some u => rw [sayF_old hok hn]; exact h
    | none =>
      by_cases he : appE s.recs (recT t) = 0
      · rw [sayF_new hok hn he]
        obtain ⟨h1, h2, h3, h4⟩ := h
        refine ⟨?_, ?_, ?_, ?_⟩
        · show (came ++ (s.wait ++ [t])).Pairwise _
          rw [← List.append_assoc, List.pairwise_append]
          refine ⟨h1, List.pairwise_singleton _ _, fun x hx y hy => ?_⟩
          rw [List.mem_singleton.1 hy]
          obtain ⟨u, hu, hp⟩ := (h2 x hx).2
          cases hp2 : pl x t with
          | false => rfl
          | true => exact absurd ⟨u, hu, pl_trans (pl_comm hp2) hp⟩ (has_none hn)
        · show ∀ x ∈ came ++ (s.wait ++ [t]), okT x ∧ has (s.first ++ [t]) x
          intro x hx
          rw [← List.append_assoc] at hx
          rcases List.mem_append.1 hx with hx | hx
          · exact ⟨(h2 x hx).1, has_app (h2 x hx).2 _⟩
          · rw [List.mem_singleton.1 hx]
            exact ⟨hok, t, by simp, pl_refl t⟩
        · show ∀ x ∈ came, recT x ∈ (s.recs ++ [recT t]).take s.sure
          intro x hx
          rw [List.take_append_of_le_length hs]
          exact h3 x hx
        · show ∀ x ∈ s.wait ++ [t], recT x ∈ s.recs ++ [recT t]
          intro x hx
          rcases List.mem_append.1 hx with hx | hx
          · exact List.mem_append_left _ (h4 x hx)
          · rw [List.mem_singleton.1 hx]
            simp
      · rw [sayF_full hok hn he]; exact h
  · rw [sayF_arg hok]; exact h
theorem Iv_out {came : List S31} {s : St} (h : Iv came s) : Iv (came ++ s.wait) (outF s) := by
  obtain ⟨h1, h2, h3, h4⟩ := h
  refine ⟨?_, ?_, ?_, fun t h => by cases h⟩
  · show ((came ++ s.wait) ++ []).Pairwise _
    rw [List.append_nil]; exact h1
  · show ∀ t ∈ (came ++ s.wait) ++ [], okT t ∧ has s.first t
    rw [List.append_nil]; exact h2
  · show ∀ t ∈ came ++ s.wait, recT t ∈ s.recs.take s.recs.length
    intro t ht
    rw [List.take_length]
    rcases List.mem_append.1 ht with ht | ht
    · exact List.mem_of_mem_take (h3 t ht)
    · exact h4 t ht
theorem Iv_crash {came : List S31} {s : St} (h : Iv came s) (hr : ∀ x ∈ s.recs, x.length ≤ 4096) (keep : Int) : Iv came (crashF s keep) := by
  obtain ⟨h1, h2, h3, h4⟩ := h
  obtain ⟨r, hc⟩ := crL_sure keep s.recs s.sure hr
  have hm : ∀ t ∈ came, recT t ∈ crL keep s.recs s.sure := fun t ht => by rw [hc]; exact List.mem_append_left _ (h3 t ht)
  refine ⟨?_, ?_, ?_, fun t h => by cases h⟩
  · show (came ++ []).Pairwise _
    rw [List.append_nil]
    exact (List.pairwise_append.1 h1).1
  · show ∀ t ∈ came ++ [], okT t ∧ has (crF rdX (crL keep s.recs s.sure)).1 t
    rw [List.append_nil]
    intro t ht
    have hok := (h2 t (List.mem_append_left _ ht)).1
    exact ⟨hok, crG_has rdX t _ _ (.inr ⟨recT t, hm t ht, rdX_rec hok⟩)⟩
  · show ∀ t ∈ came, recT t ∈ (crL keep s.recs s.sure).take (crL keep s.recs s.sure).length
    rw [List.take_length]
    exact hm
/-- Said twice: one answer, and the second time nothing is new. -/
theorem say_twice (s : St) (t : S31) : (sayF (sayF s t).2 t) = ((sayF s t).1, (sayF s t).2) := by
  by_cases hok : okT t
  · cases hn : at_ s.first t with
    | some u =>
      rw [sayF_old hok hn]
      show sayF s t = _
      rw [sayF_old hok hn]
    | none =>
      by_cases he : appE s.recs (recT t) = 0
      · rw [sayF_new hok hn he]
        have : at_ (s.first ++ [t]) t = some t := by
          unfold at_ at hn ⊢
          rw [List.find?_append, hn]
          simp [pl_refl]
        exact (sayF_old hok this).trans (by rw [if_pos rfl])
      · rw [sayF_full hok hn he]
        exact sayF_full hok hn he
  · simp only [sayF_arg hok]
end Go.Proofs.Ytbihlbalmihbdaa.Di
namespace Go.Proofs.Ytbihlbalmihbdaa.Di
open Go.RowKit Go.Proofs.Ytbihlbalmihbdaa.PAll Go.Proofs.YtbihlbalmihbdaaW.PrintWords Go.Proofs.YtbihlbalmihbdaaW.PrintLast Go.Proofs.YtbihlbalmihbdaaW.PrintMore SG Go.Proofs.Ytbihlbalmihbdaa.Fun Go.Proofs.Ytbihlbalmihbdaa.Wal
open Go.Proofs.Ytbihlbalmihbdaa.WFun (okT recT recT_len E_chkT E_rec rdX E_dr tup rdX_rec rdX_ok)
set_option linter.unusedVariables false
set_option linter.unusedSimpArgs false
section
variable {w w' : World} {B d : Nat} {ok : Nat → Prop} {s : St}
theorem Dz.sure (h : Dz w B ok d s) : s.sure ≤ s.recs.length := by
  obtain ⟨⟨m, a, okA, okW, AV, WV, hx, ho⟩, _⟩ := h
  exact hx.lg.1
/-- A block of a row of words is no diary's. -/
theorem row_not {V : Value} {xs : List S31} {okr : Nat → Prop} (hr : k31.R 31 w B okr V xs) (hn : ∀ k, V.ownBlock = some k → ¬ ok k) {k : Nat} (hk : V.ownBlock = some k) : ¬ TD ok w k := by
  obtain ⟨_, ⟨cells, hc⟩, _⟩ := row_lt hr hk
  rintro (⟨c, q, hc', hq⟩ | ⟨es, c, hc'⟩ | hok)
  · rw [hc] at hc'
    injection hc' with hc'
    injection hc' with _ hc'
    subst hc'
    rcases hq with e | e | e | e | e <;> exact absurd e (by decide)
  · rw [hc] at hc'
    injection hc' with hc'
    cases hc'
  · exact hn k hk hok
/-- A diary stays where the law's row grows. -/
theorem Dz.grown {V : Value} {xs : List S31} {okr : Nat → Prop} (h : Dz w B ok d s) (hr : k31.R 31 w B okr V xs) (hn : ∀ k, V.ownBlock = some k → ¬ ok k) (hg : w.grownBy w' V.ownBlock) (hs : B ≤ w'.heap.size) : Dz w' B ok d s :=
  h.kept (Kept.of_grown hg (Kept.refl w (fun k => V.ownBlock = some k)) (fun k hk => .inl hk)) hs (fun k hk => row_not hr hn hk)
/-- All waits come out: a row of its own. -/
theorem DOutW (h : Dz w B ok d s) : Calls Try.prog 10 #[.pointer (some ⟨d, 0, none⟩)] w fun e w' => ∃ A c okR, e = .returned (.slice A s.wait.length c) ∧ k31.R 31 w' B okR (.slice A s.wait.length c) s.wait ∧ Dz w' B (fun k => (ok k ∧ ¬ okR k) ∧ k < w'.heap.size) d (outF s) ∧ (∀ k, okR k → ok k ∧ k < w'.heap.size) ∧ Below B w w' ∧ Kept w w' (TD ok w) := by
  refine (DOutz h).mono ?_
  rintro e w' ⟨A, c, okW, rfl, h1, h2, h3, h4, h5⟩
  refine ⟨A, c, fun k => okW k ∧ k < w'.heap.size, rfl, Kd.R_mono (Kd.R_bound h2) (fun k h => ⟨h.1, h.2.2.1⟩), h3.bound.mono (fun k h => ⟨⟨h.1.1, fun hr => h.1.2 hr.1⟩, h.2⟩), fun k h => ⟨h1 k h.1, h.2⟩, h4, h5⟩
/-- The law's row, by its own block. -/
theorem R31_own {V : Value} {xs : List S31} {okr : Nat → Prop} (hr : k31.R 31 w B okr V xs) : k31.R 31 w B (fun k => V.ownBlock = some k) V xs :=
  ⟨fun k h => h, hr.2.imp_ (fun x cs hp => by
    obtain rfl := k31_openM hp
    exact k31_mkM _ _ _ x)⟩
end
end Go.Proofs.Ytbihlbalmihbdaa.Di
namespace Go.Proofs.Ytbihlbalmihbdaa.Di
open Go.RowKit Go.Proofs.Ytbihlbalmihbdaa.PAll Go.Proofs.YtbihlbalmihbdaaW.PrintWords Go.Proofs.YtbihlbalmihbdaaW.PrintLast Go.Proofs.YtbihlbalmihbdaaW.PrintMore SG Go.Proofs.Ytbihlbalmihbdaa.Fun Go.Proofs.Ytbihlbalmihbdaa.Wal
open Go.Proofs.Ytbihlbalmihbdaa.WFun (okT recT recT_len E_chkT E_rec rdX E_dr tup rdX_rec rdX_ok)
set_option linter.unusedVariables false
set_option linter.unusedSimpArgs false
/-- A law's run: its diary, and the row of all that came out. -/
def OI (w1 w : World) (d : Nat) (V : Value) (came : List S31) (s : St) : Prop :=
  Dz w w1.heap.size (fun k => V.ownBlock ≠ some k) d s ∧ k31.R 31 w w1.heap.size (fun k => V.ownBlock = some k) V came ∧ Iv came s ∧ Below w1.heap.size w1 w
/-- The same, when something has just come out, in a row of its own. -/
def OO (w1 w : World) (d : Nat) (V : Value) (came : List S31) (s : St) (A : Option Addr) (c : Nat) : Prop :=
  ∃ okR, k31.R 31 w w1.heap.size okR (.slice A s.wait.length c) s.wait ∧ Dz w w1.heap.size (fun k => (V.ownBlock ≠ some k ∧ ¬ okR k) ∧ k < w.heap.size) d (outF s) ∧ k31.R 31 w w1.heap.size (fun k => V.ownBlock = some k) V came ∧ Iv came s ∧ Below w1.heap.size w1 w
section
variable {w1 w w' : World} {d : Nat} {V V1 : Value} {came : List S31} {s : St} {A : Option Addr} {c : Nat}
theorem OI_0 (hz : Dz w w1.heap.size (fun k => w1.heap.size ≤ k) d st0) (hb : Below w1.heap.size w1 w) : OI w1 w d (.slice none 0 0) [] st0 :=
  ⟨hz.mono (fun k _ h => by cases h), Kd.R_nil _ _ _ _ _, Iv_0, hb⟩
theorem OI.fresh (h : OI w1 w d V came s) : ∀ k, w.heap.size ≤ k → V.ownBlock ≠ some k := fun k hk he => Nat.lt_irrefl _ (Nat.lt_of_lt_of_le (row_lt h.2.1 he).1 hk)
theorem OI.below (h : OI w1 w d V came s) (hb : Below w.heap.size w w') : OI w1 w' d V came s := ⟨h.1.below hb, Kd.R_below h.2.1 hb, h.2.2.1, below_step h.2.2.2 hb⟩
theorem OISay (h : OI w1 w d V came s) {t : S31} {r : Int} {s' : St} (he : sayF s t = (r, s')) : Calls Try.prog 12 #[.pointer (some ⟨d, 0, none⟩), .agg (cT t)] w fun e w' => e = .returned (.int .i64 r) ∧ OI w1 w' d V came s' := by
  refine (DSayV h.1 h.fresh he).mono ?_
  rintro e w' ⟨rfl, hz, hb, hk⟩
  have hi := Iv_say h.2.2.1 h.1.sure t
  rw [he] at hi
  exact ⟨rfl, hz, row_td h.2.1 hk (fun k h hn => hn h), hi, h.2.2.2.trans hb⟩
theorem OICrash (h : OI w1 w d V came s) (keep : Int) : Calls Try.prog 11 #[.pointer (some ⟨d, 0, none⟩), .int .u64 keep] w fun e w' => e = .returned (.tuple #[]) ∧ OI w1 w' d V came (crashF s keep) := by
  refine (DCrashV h.1 h.fresh rfl).mono ?_
  rintro e w' ⟨rfl, hz, hb, hk⟩
  exact ⟨rfl, hz, row_td h.2.1 hk (fun k h hn => hn h), Iv_crash h.2.2.1 h.1.count.2 keep, h.2.2.2.trans hb⟩
theorem OIOut (h : OI w1 w d V came s) : Calls Try.prog 10 #[.pointer (some ⟨d, 0, none⟩)] w fun e w' => ∃ A c, e = .returned (.slice A s.wait.length c) ∧ OO w1 w' d V came s A c := by
  refine (DOutW h.1).mono ?_
  rintro e w' ⟨A, c, okR, rfl, hr, hz, _, hb, hk⟩
  exact ⟨A, c, rfl, okR, hr, hz, row_td h.2.1 hk (fun k h hn => hn h), h.2.2.1, h.2.2.2.trans hb⟩
theorem OIWait (h : OI w1 w d V came s) {n : Int} (hn : (s.wait.length : Int) = n) : Calls Try.prog 16 #[.pointer (some ⟨d, 0, none⟩)] w fun e w' => e = .returned (.int .i64 n) ∧ w' = w := DWaitz h.1 hn
theorem OO.row (h : OO w1 w d V came s A c) : k31.R 31 w w1.heap.size (fun k => V.ownBlock = some k ∨ w.heap.size ≤ k) V came := by
  obtain ⟨okR, h1, h2, h3, _⟩ := h
  exact Kd.R_mono h3 (fun _ => .inl)
theorem OO.reads (h : OO w1 w d V came s A c) : Kd.C k31 w A s.wait.length s.wait := by
  obtain ⟨okR, h1, _⟩ := h
  exact (Kd.R_reads' h1).2.2
theorem OO.bel (h : OO w1 w d V came s A c) : Below w1.heap.size w1 w := by
  obtain ⟨okR, _, _, _, _, h⟩ := h
  exact h
theorem OO.grown (h : OO w1 w d V came s A c) (hr : k31.R 31 w' w1.heap.size (fun k => V.ownBlock = some k ∨ w.heap.size ≤ k) V1 (came ++ s.wait)) (hb : Below w1.heap.size w1 w') (hg : w.grownBy w' V.ownBlock) (hat : V1.ownBlock = V.ownBlock ∨ ∃ b, V1.ownBlock = some b ∧ w.heap.size ≤ b) : OI w1 w' d V1 (came ++ s.wait) (outF s) := by
  obtain ⟨okR, h1, h2, h3, h4, h5⟩ := h
  refine ⟨(h2.grown h3 (fun k hk hn => hn.1.1 hk) hg hb.size).mono (fun k hk he => ?_), R31_own hr, Iv_out h4, hb⟩
  rcases hat with hat | ⟨b, hat, hle⟩
  · exact hk.1.1 (hat ▸ he)
  · rw [hat] at he
    injection he with he
    have := hk.2
    omega
theorem say_wait (s : St) (t : S31) : (sayF s t).2.wait.length ≤ s.wait.length + 1 ∧ ((sayF s t).1 ≠ 0 → (sayF s t).2.wait.length = s.wait.length) := by
  by_cases hok : okT t
  · cases hn : at_ s.first t with
    | some u => rw [sayF_old hok hn]; exact ⟨Nat.le_succ _, fun _ => rfl⟩
    | none =>
      by_cases he : appE s.recs (recT t) = 0
      · rw [sayF_new hok hn he]
        exact ⟨by simp, fun h => absurd rfl h⟩
      · rw [sayF_full hok hn he]; exact ⟨Nat.le_succ _, fun _ => rfl⟩
  · rw [sayF_arg hok]; exact ⟨Nat.le_succ _, fun _ => rfl⟩
/-- Two words that came out are not of one place. -/
theorem OI.apart (h : OI w1 w d V came s) {i j : Nat} (hj : j < i) (hi : i < came.length) : pl came[i] (came[j]'(Nat.lt_trans hj hi)) = false := by
  have := (List.pairwise_append.1 h.2.2.1.1).1
  have := List.pairwise_iff_getElem.1 this j i (Nat.lt_trans hj hi) hi hj
  cases hp : pl came[i] (came[j]'(Nat.lt_trans hj hi)) with
  | false => rfl
  | true => exact absurd (pl_comm hp) (by rw [this]; decide)
theorem pl_ne {x y : S31} (h : pl x y = false) : (x.f0 == y.f0 && ((x.f1.f0 == y.f1.f0 && (x.f1.f1 == y.f1.f1 && (x.f1.f2 == y.f1.f2 && (x.f1.f3 == y.f1.f3 && (x.f1.f4.toList == y.f1.f4.toList))))))) = false := by
  refine Bool.eq_false_iff.2 (fun he => ?_)
  rw [(same_iff x y).1 he, pl_refl] at h
  cases h
/-- A place of a row of words, as long as it stands. -/
theorem at31 {w : World} {A : Option Addr} {l : List S31} (hC : Kd.C k31 w A l.length l) {i : Nat} (hi : i < l.length) : ∃ ad, A = some ad ∧ ∀ w', Below w.heap.size w w' → w'.cell? (ad.add (i * 6)) = some (.int .i64 l[i].f0) ∧ w'.cell? ⟨(ad.add (i * 6)).block, (ad.add (i * 6)).off + 1, none⟩ = some (.int .i64 l[i].f1.f0) ∧ w'.cell? ⟨(ad.add (i * 6)).block, (ad.add (i * 6)).off + 2, none⟩ = some (.int .i64 l[i].f1.f1) ∧ w'.cell? ⟨(ad.add (i * 6)).block, (ad.add (i * 6)).off + 3, none⟩ = some (.int .i64 l[i].f1.f2) ∧ w'.cell? ⟨(ad.add (i * 6)).block, (ad.add (i * 6)).off + 4, none⟩ = some (.int .i64 l[i].f1.f3) ∧ w'.cell? ⟨(ad.add (i * 6)).block, (ad.add (i * 6)).off + 5, none⟩ = some (.string l[i].f1.f4) := by
  obtain ⟨ad, e, _⟩ := at_T31 hC (i : Int) (by omega) (by omega)
  refine ⟨ad, e, fun w' hb => ?_⟩
  obtain ⟨ad', e', x⟩ := at_T31 (Kd.C_below hC hb) (i : Int) (by omega) (by omega)
  rw [e] at e'
  injection e' with e'
  subst e'
  rw [rd31 hi, Int.toNat_natCast] at x
  exact x
/-- A place of a row of deeds, as long as it stands. -/
theorem at34 {w : World} {A : Option Addr} {l : List S34} (hC : Kd.C k34 w A l.length l) {i : Nat} (hi : i < l.length) : ∃ ad, A = some ad ∧ ∀ w', Below w.heap.size w w' → w'.cell? (ad.add (i * 8)) = some (.int .i64 l[i].f0) ∧ w'.cell? ⟨(ad.add (i * 8)).block, (ad.add (i * 8)).off + 1, none⟩ = some (.int .i64 l[i].f1.f0) ∧ w'.cell? ⟨(ad.add (i * 8)).block, (ad.add (i * 8)).off + 2, none⟩ = some (.int .i64 l[i].f1.f1.f0) ∧ w'.cell? ⟨(ad.add (i * 8)).block, (ad.add (i * 8)).off + 3, none⟩ = some (.int .i64 l[i].f1.f1.f1) ∧ w'.cell? ⟨(ad.add (i * 8)).block, (ad.add (i * 8)).off + 4, none⟩ = some (.int .i64 l[i].f1.f1.f2) ∧ w'.cell? ⟨(ad.add (i * 8)).block, (ad.add (i * 8)).off + 5, none⟩ = some (.int .i64 l[i].f1.f1.f3) ∧ w'.cell? ⟨(ad.add (i * 8)).block, (ad.add (i * 8)).off + 6, none⟩ = some (.string l[i].f1.f1.f4) ∧ w'.cell? ⟨(ad.add (i * 8)).block, (ad.add (i * 8)).off + 7, none⟩ = some (.int .u64 l[i].f2) := by
  obtain ⟨ad, e, _⟩ := at_T34 hC (i : Int) (by omega) (by omega)
  refine ⟨ad, e, fun w' hb => ?_⟩
  obtain ⟨ad', e', x⟩ := at_T34 (Kd.C_below hC hb) (i : Int) (by omega) (by omega)
  rw [e] at e'
  injection e' with e'
  subst e'
  rw [rd34 hi, Int.toNat_natCast] at x
  exact x
theorem Against_no {x y : S31} (h : pl x y = false) : sandglassref44_Against.f x.f0 x.f1.f0 x.f1.f1 x.f1.f2 x.f1.f3 x.f1.f4 y.f0 y.f1.f0 y.f1.f1 y.f1.f2 y.f1.f3 y.f1.f4 = some false := by
  unfold sandglassref44_Against.f
  by_cases h1 : x.f0 = y.f0
  · rw [if_pos h1]
    by_cases h2 : x.f1.f0 = y.f1.f0
    · rw [if_pos h2]
      by_cases h3 : x.f1.f1 = y.f1.f1
      · rw [if_pos h3]
        by_cases h4 : x.f1.f2 = y.f1.f2
        · exact absurd h (by simp [pl, h1, h2, h3, h4])
        · rw [if_neg h4]
      · rw [if_neg h3]
    · rw [if_neg h2]
  · rw [if_neg h1]
theorem AgainstNo {x y : S31} (h : pl x y = false) (w : World) : Calls Try.prog 13 #[.agg (cT x), .agg (cT y)] w fun e w' => e = .returned (.bool false) ∧ Below w.heap.size w w' := sandglassref44_Against.calls _ _ _ _ _ _ _ _ _ _ _ _ false w (Against_no h)
end
end Go.Proofs.Ytbihlbalmihbdaa.Di
