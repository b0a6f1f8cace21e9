/-
  bellwetherlaw09.RatioOrders: the walk.
-/
import Derived.Test.YtdbljhjgmfdpjaaR4
import Derived.Deep.QuietTactic
import Derived.BigQuiet
set_option linter.unusedVariables false
set_option linter.unusedSimpArgs false
namespace Go.Proofs.Ytdbljhjgmfdpjaa
open Go.RowKit

attribute [local go_sem] row_size row_cell row_cell_other row_frozen row_frozen_other row_set row_set_other row_drew row_drewN row_heap row_heap_other heap_alloc_at heap_alloc_lt heap_drew_at heap_drewN_at

def nzA (x0 y1 x2 y3 x4 y5 : Nat) (k : Nat) : Array Value := match k with
  | 0 => #[.int .i64 0, .int .i64 0, .int .i64 0, .int .i64 0, .int .i64 0, .int .i64 0]
  | 1 => #[.int .i64 x0, .int .i64 0, .int .i64 0, .int .i64 0, .int .i64 0, .int .i64 0]
  | 2 => #[.int .i64 x0, .int .i64 y1, .int .i64 0, .int .i64 0, .int .i64 0, .int .i64 0]
  | 3 => #[.int .i64 x0, .int .i64 y1, .int .i64 x2, .int .i64 0, .int .i64 0, .int .i64 0]
  | 4 => #[.int .i64 x0, .int .i64 y1, .int .i64 x2, .int .i64 y3, .int .i64 0, .int .i64 0]
  | 5 => #[.int .i64 x0, .int .i64 y1, .int .i64 x2, .int .i64 y3, .int .i64 x4, .int .i64 0]
  | _ => #[.int .i64 x0, .int .i64 y1, .int .i64 x2, .int .i64 y3, .int .i64 x4, .int .i64 y5]
def mn (x y : Int) : Int := if y < x then y else x
def mx (x y : Int) : Int := if x < y then y else x
theorem max_mx (ats : Array TypeId) (ty : TypeId) (k k' : IntKind) (x y : Int) : Builtin.max_ ats ty #[.int k x, .int k' y] = pure (.int k (mx x y)) := by
  simp only [Builtin.max_, List.foldlM_cons, List.foldlM_nil, Builtin.max2, gt_iff_lt, mx]; rfl
theorem min_mn (ats : Array TypeId) (ty : TypeId) (k k' : IntKind) (x y : Int) : Builtin.min_ ats ty #[.int k x, .int k' y] = pure (.int k (mn x y)) := by
  simp only [Builtin.min_, List.foldlM_cons, List.foldlM_nil, Builtin.min2, gt_iff_lt, mn]; rfl
attribute [local go_sem] max_mx min_mn
theorem cmp42' (a b c d : Nat) (ha : a ≤ 4294967296) (hb : b ≤ 4294967296) (hc : c ≤ 4294967296) (hd : d ≤ 4294967296) (hb0 : 0 < b) (hd0 : 0 < d) (w : World) :
    Calls Try.prog 42 #[.int .i64 a, .int .i64 b, .int .i64 c, .int .i64 d] w fun e w' => e = .returned (.int .i64 (cmpF a b c d)) ∧ Below w.heap.size w w' :=
  cmp42 a b c d (by omega) (by omega) (by omega) (by omega) hb0 hd0 w
theorem sgn3 (x y : Nat) : sgnN x y = -1 ∨ sgnN x y = 0 ∨ sgnN x y = 1 := by
  unfold sgnN
  repeat' split
  all_goals omega
theorem sgn_le {x y : Nat} : sgnN x y ≤ 0 ↔ x ≤ y := by
  unfold sgnN
  repeat' split
  all_goals omega
theorem sgn_ge {x y : Nat} : 0 ≤ sgnN x y ↔ y ≤ x := by
  unfold sgnN
  repeat' split
  all_goals omega
theorem cross {a b c d e f : Nat} (hd : 0 < d) (h1 : a * d ≤ c * b) (h2 : c * f ≤ e * d) : a * f ≤ e * b := by
  have k1 := Nat.mul_le_mul_right f h1
  have k2 := Nat.mul_le_mul_right b h2
  have e1 : a * d * f = a * f * d := Nat.mul_right_comm _ _ _
  have e2 : c * b * f = c * f * b := Nat.mul_right_comm _ _ _
  have e3 : e * d * b = e * b * d := Nat.mul_right_comm _ _ _
  rw [e1] at k1; rw [e2] at k1; rw [e3] at k2
  exact Nat.le_of_mul_le_mul_right (Nat.le_trans k1 k2) hd
theorem ords (a b c d e f : Nat) (hb : 0 < b) (hd : 0 < d) (hf : 0 < f) :
    cmpF c d a b = -cmpF a b c d ∧ (cmpF a b c d = -1 ∨ cmpF a b c d = 0 ∨ cmpF a b c d = 1) ∧ (cmpF c d e f = -1 ∨ cmpF c d e f = 0 ∨ cmpF c d e f = 1) ∧ (cmpF a b e f = -1 ∨ cmpF a b e f = 0 ∨ cmpF a b e f = 1) ∧
    (cmpF a b c d ≤ 0 → cmpF c d e f ≤ 0 → cmpF a b e f ≤ 0) ∧ (0 ≤ cmpF a b c d → 0 ≤ cmpF c d e f → 0 ≤ cmpF a b e f) := by
  refine ⟨?_, sgn3 _ _, sgn3 _ _, sgn3 _ _, fun h1 h2 => sgn_le.2 (cross hd (sgn_le.1 h1) (sgn_le.1 h2)), fun h1 h2 => sgn_ge.2 ?_⟩
  · unfold cmpF sgnN
    rw [Nat.mul_comm c b, Nat.mul_comm a d, Nat.mul_comm d a, Nat.mul_comm b c]
    repeat' split
    all_goals omega
  · have k1 := Nat.mul_le_mul_right f (sgn_ge.1 h1)
    have k2 := Nat.mul_le_mul_right b (sgn_ge.1 h2)
    rw [Nat.mul_right_comm c b f, Nat.mul_right_comm a d f] at k1
    rw [Nat.mul_right_comm e d b] at k2
    exact Nat.le_of_mul_le_mul_right (Nat.le_trans k2 k1) hd
theorem clampMx (x lo hi : Int) (h : lo ≤ hi) : clampI x lo hi = mn (mx x lo) hi := by
  unfold clampI mn mx; repeat' split
  all_goals omega
theorem mn_mx (a b : Int) : mn a b ≤ mx a b := by
  unfold mn mx; repeat' split
  all_goals omega
set_option maxHeartbeats 4000000 in
theorem law8w (x0 x1 x2 x3 x4 x5 y1 y3 y5 : Nat) (q0 : wrap64 (x0 : Int) = x0) (q1 : wrap64 (wrap64 (x1 : Int) + 1) = y1) (q2 : wrap64 (x2 : Int) = x2) (q3 : wrap64 (wrap64 (x3 : Int) + 1) = y3) (q4 : wrap64 (x4 : Int) = x4) (q5 : wrap64 (wrap64 (x5 : Int) + 1) = y5)
    (h0 : x0 ≤ 4294967296) (h1 : y1 ≤ 4294967296) (h2 : x2 ≤ 4294967296) (h3 : y3 ≤ 4294967296) (h4 : x4 ≤ 4294967296) (h5 : y5 ≤ 4294967296) (z1 : 0 < y1) (z3 : 0 < y3) (z5 : 0 < y5) (w : World) :
    Calls Try.prog 8 #[.agg #[.int .u32 x0, .int .u32 x1, .int .u32 x2, .int .u32 x3, .int .u32 x4, .int .u32 x5]] w fun e w' => e = .returned (.bool true) ∧ Below w.heap.size w w' := by
  have HB0 := Hide.mk (below_alloc (Below.refl w.heap.size w) (Obj.cells #[.int .u32 x0, .int .u32 x1, .int .u32 x2, .int .u32 x3, .int .u32 x4, .int .u32 x5] 59))
  go_enter Try.func8, Try.ntmps8
  go_wp2_with (go_at_call 41; refine (alive41 _).mono ?_; rintro e w' ⟨rfl, hb⟩; have HB1 := Hide.mk (below_step HB0.out hb); have b0 : w'.heap[w.heap.size]? = some (.cells #[.int .u32 x0, .int .u32 x1, .int .u32 x2, .int .u32 x3, .int .u32 x4, .int .u32 x5] 59 (0, 0)) := (hb.block (w.heap.size) (by (first | omega | (simp [row_size] <;> omega)))).trans (by (refine heap_alloc_at _ _ _ ?_; (first | rfl | (simp [row_size]; done)))); have z0 : w.heap.size < w'.heap.size := (Array.getElem?_eq_some_iff.1 b0).1; rw [row_self b0]; clear b0; clear hb)
  go_loopw [4] (fun i wr => ∃ k : Nat, i = .int .i64 k ∧ k ≤ 6 ∧ wr = (Row w' w.heap.size #[.int .u32 x0, .int .u32 x1, .int .u32 x2, .int .u32 x3, .int .u32 x4, .int .u32 x5] 59).alloc (Obj.cells (nzA x0 y1 x2 y3 x4 y5 k) 60)) (fun i _ => 6 - (intOf i).toNat)
  case atStart => exact ⟨0, rfl, by omega, rfl⟩
  case round =>
    obtain ⟨k, rfl, hk, rfl⟩ := hrel
    have hk7 : k = 0 ∨ k = 1 ∨ k = 2 ∨ k = 3 ∨ k = 4 ∨ k = 5 ∨ k = 6 := by omega
    clear hk
    rcases hk7 with rfl | rfl | rfl | rfl | rfl | rfl | rfl
    · simp only [nzA]
      go_wp2
      go_roundw
      case rel => exact ⟨1, rfl, by omega, rfl⟩
      case measure => simp [intOf]
    · simp only [nzA]
      go_wp2
      go_roundw
      case rel => exact ⟨2, rfl, by omega, rfl⟩
      case measure => simp [intOf]
    · simp only [nzA]
      go_wp2
      go_roundw
      case rel => exact ⟨3, rfl, by omega, rfl⟩
      case measure => simp [intOf]
    · simp only [nzA]
      go_wp2
      go_roundw
      case rel => exact ⟨4, rfl, by omega, rfl⟩
      case measure => simp [intOf]
    · simp only [nzA]
      go_wp2
      go_roundw
      case rel => exact ⟨5, rfl, by omega, rfl⟩
      case measure => simp [intOf]
    · simp only [nzA]
      go_wp2
      go_roundw
      case rel => exact ⟨6, rfl, by omega, rfl⟩
      case measure => simp [intOf]
    · simp only [nzA]
      have zz : w.heap.size < w'.heap.size := z0
      have HT : Hide (Below w.heap.size w ((Row w' w.heap.size #[.int .u32 x0, .int .u32 x1, .int .u32 x2, .int .u32 x3, .int .u32 x4, .int .u32 x5] 59).alloc (Obj.cells #[.int .i64 x0, .int .i64 y1, .int .i64 x2, .int .i64 y3, .int .i64 x4, .int .i64 y5] 60))) := ⟨below_alloc (below_row HB1.out (Nat.le_refl _)) _⟩
      go_wp2_with (go_at_call 42; refine (cmp42' _ _ _ _ (by assumption) (by assumption) (by assumption) (by assumption) (by assumption) (by assumption) _).mono ?_; rintro e w2 ⟨rfl, hb⟩; have hz2 : w'.heap.size < w2.heap.size := (by have := hb.size; simp [row_size] at this; omega); have b1 : w2.heap[w'.heap.size]? = some (.cells #[.int .i64 x0, .int .i64 y1, .int .i64 x2, .int .i64 y3, .int .i64 x4, .int .i64 y5] 60 (0, 0)) := (hb.block (w'.heap.size) (by (first | omega | (simp [row_size] <;> omega)))).trans (by (first | (refine row_heap _ _ _ _ ?_; (first | omega | (simp [row_size] <;> omega))) | (refine heap_alloc_at _ _ _ ?_; (first | rfl | (simp [row_size]; done))))); have HX := Hide.mk (below_step HT.out hb); clear HT; rw [row_self b1]; have HT : Hide (Below w.heap.size w (Row w2 w'.heap.size #[.int .i64 x0, .int .i64 y1, .int .i64 x2, .int .i64 y3, .int .i64 x4, .int .i64 y5] 60)) := ⟨below_row HX.out (Nat.le_of_lt zz)⟩; clear b1; clear hb; clear HX)
      have c0 : (Row w2 w'.heap.size #[.int .i64 x0, .int .i64 y1, .int .i64 x2, .int .i64 y3, .int .i64 x4, .int .i64 y5] 60).cell? ⟨w'.heap.size, 0, none⟩ = some (.int .i64 x0) := by rw [row_cell (h := by assumption)]; rfl
      have c2 : (Row w2 w'.heap.size #[.int .i64 x0, .int .i64 y1, .int .i64 x2, .int .i64 y3, .int .i64 x4, .int .i64 y5] 60).cell? ⟨w'.heap.size, 2, none⟩ = some (.int .i64 x2) := by rw [row_cell (h := by assumption)]; rfl
      have c4 : (Row w2 w'.heap.size #[.int .i64 x0, .int .i64 y1, .int .i64 x2, .int .i64 y3, .int .i64 x4, .int .i64 y5] 60).cell? ⟨w'.heap.size, 4, none⟩ = some (.int .i64 x4) := by rw [row_cell (h := by assumption)]; rfl
      generalize Row w2 w'.heap.size #[.int .i64 x0, .int .i64 y1, .int .i64 x2, .int .i64 y3, .int .i64 x4, .int .i64 y5] 60 = WR at *
      have hO := ords x0 y1 x2 y3 x4 y5 z1 z3 z5
      have hcl := clampMx (x0 : Int) (mn x2 x4) (mx x2 x4) (mn_mx _ _)
      generalize cmpF x2 y3 x0 y1 = ba at *
      generalize cmpF x0 y1 x2 y3 = ab at *
      generalize cmpF x2 y3 x4 y5 = bc at *
      generalize cmpF x0 y1 x4 y5 = ac at *
      obtain ⟨rfl, hab, hbc, hac, t1, t2⟩ := hO
      have HT1 := Hide.mk t1
      have HT2 := Hide.mk t2
      clear t1 t2
      rcases hab with rfl | rfl | rfl <;> rcases hbc with rfl | rfl | rfl <;> rcases hac with rfl | rfl | rfl
      all_goals first
        | (exfalso; have := HT1.out (by omega) (by omega); omega)
        | (exfalso; have := HT2.out (by omega) (by omega); omega)
        | skip
      all_goals
        clear HT1 HT2
        go_quiet ((go_at_call 43; refine Calls.quiet_of_same (clamp43 _ _ _ _)))
        go_wp2
        go_ret
        exact ⟨rfl, below_drewN HT.out _⟩
theorem w64 (x : Nat) (h : x < 4294967296) : wrap64 (x : Int) = x := by unfold wrap64; omega
theorem w64s (x : Nat) (h : x < 4294967296) : wrap64 (wrap64 (x : Int) + 1) = ((x + 1 : Nat) : Int) := by unfold wrap64; omega
theorem law8 (x0 x1 x2 x3 x4 x5 : Nat) (h0 : x0 < 4294967296) (h1 : x1 < 4294967296) (h2 : x2 < 4294967296) (h3 : x3 < 4294967296) (h4 : x4 < 4294967296) (h5 : x5 < 4294967296) (w : World) :
    Calls Try.prog 8 #[.agg #[.int .u32 x0, .int .u32 x1, .int .u32 x2, .int .u32 x3, .int .u32 x4, .int .u32 x5]] w fun e w' => e = .returned (.bool true) ∧ Below w.heap.size w w' :=
  law8w x0 x1 x2 x3 x4 x5 (x1 + 1) (x3 + 1) (x5 + 1) (w64 _ h0) (w64s _ h1) (w64 _ h2) (w64s _ h3) (w64 _ h4) (w64s _ h5) (by omega) (by omega) (by omega) (by omega) (by omega) (by omega) (by omega) (by omega) (by omega) w
end Go.Proofs.Ytdbljhjgmfdpjaa
