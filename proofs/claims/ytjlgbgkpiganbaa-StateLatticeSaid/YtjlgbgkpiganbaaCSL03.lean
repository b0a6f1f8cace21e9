/-
  Parts: P198, PEq, X3, Z0, P178, P119, P68, P129 (brought together by wip/pack.py; W..: words printed by the kit's print.sh; P..: printed by wip/xp.py).
-/
import Derived.Deep.RegionHeld3
import Derived.Test.YtjlgbgkpiganbaaCSL02
namespace Go.Proofs.Ytjlgbgkpiganbaa.P
open Go.RowKit Go.Proofs.YtjlgbgkpiganbaaW.PrintWords Go.Proofs.YtjlgbgkpiganbaaW.PrintLast Go.Proofs.YtjlgbgkpiganbaaW.PrintMore
attribute [local go_sem] max2_int min2_int max_two min_two max_three min_three max_four min_four
set_option linter.unusedVariables false
set_option linter.unusedSimpArgs false
def entry_Get.f (l0 : List (S152)) (a1 : Int) : Option (Int × Int × ByteArray × Bool) := (x227.f l0 a1).bind fun t102 => (if t102 < 0 then (some (0, 0, (⟨#[]⟩ : ByteArray), false)) else (if 0 ≤ t102 then (if t102 < (l0.length : Int) then (some ((rd_T152 l0 t102).f0, (rd_T152 l0 t102).f1, (rd_T152 l0 t102).f2, true)) else (none)) else (none)))
set_option maxHeartbeats 8000000 in
set_option maxRecDepth 100000 in
theorem entry_Get.calls (A0 : Option Addr) (c0 : Nat) (l0 : List (S152)) (a1 : Int) (r1 : Int) (r2 : Int) (r3 : ByteArray) (r4 : Bool) (w : World) (hr0 : Kd.C k152 w A0 l0.length l0) (hc0 : l0.length ≤ c0) (h : entry_Get.f l0 a1 = some (r1, r2, r3, r4)) :
    Calls Try.prog 198 #[.slice A0 l0.length c0, .int .i64 a1] w fun e w' => e = .returned (.tuple #[.agg #[.int .i64 r1, .int .i64 r2, .string r3], .bool r4]) ∧ Below w.heap.size w w' := by
  have hu152 := Try.underlying152
  have HR0 := Aside0.mk hr0
  have HC0 := Aside0.mk hc0
  clear hr0 hc0
  have HB := Aside0.mk (Below.refl w.heap.size w)
  have H : ((x227.f l0 a1).bind fun t102 => (if t102 < 0 then (some (0, 0, (⟨#[]⟩ : ByteArray), false)) else (if 0 ≤ t102 then (if t102 < (l0.length : Int) then (some ((rd_T152 l0 t102).f0, (rd_T152 l0 t102).f1, (rd_T152 l0 t102).f2, true)) else (none)) else (none)))) = some (r1, r2, r3, r4) := h
  clear h
  replace H := Option.bind_eq_some_iff.mp H
  obtain ⟨t102, A30, H⟩ := H
  replace H : (if t102 < 0 then (some (0, 0, (⟨#[]⟩ : ByteArray), false)) else (if 0 ≤ t102 then (if t102 < (l0.length : Int) then (some ((rd_T152 l0 t102).f0, (rd_T152 l0 t102).f1, (rd_T152 l0 t102).f2, true)) else (none)) else (none))) = some (r1, r2, r3, r4) := H
  have A3 := Aside0.mk A30
  clear A30
  by_cases c4 : t102 < 0
  · rw [if_pos c4] at H
    have c4b0 : decide (t102 < 0) = true := decide_eq_true c4
    clear c4
    simp only [Option.some.injEq, Prod.mk.injEq] at H
    obtain ⟨rfl, rfl, rfl, rfl⟩ := H
    go_enter Try.func198, Try.ntmps198
    go_wp2_with (first | ((with_reducible refine gate_dst (N := 4) rfl ?_); refine box_event ?hg (N := 4) ?hd (cs := #[.int .i64 0, .int .i64 0, .string (⟨#[]⟩ : ByteArray)]) (t := 152) ?hr ?_; (case hd => rfl); (case hg => rfl); (case hr => first | (go_simp; done) | (go_simp; rfl)); intro gb101 hg w5 hbox hb; have n0_ := Aside0.mk (below_step (by repeat (first | (with_reducible first | exact HB.out | apply below_alloc | apply pw_below_drewN | apply below_drew1) | exact HB.out)) hb); have n1_ := Aside0.mk (hbox); have n2_ := Aside0.mk ((by rw [hg]; exact (below_size (by repeat (first | (with_reducible first | exact HB.out | apply below_alloc | apply pw_below_drewN | apply below_drew1) | exact HB.out))) : w.heap.size ≤ gb101)); have n3_ := Aside0.mk ((by rw [hg]; exact (below_size (by repeat (first | (with_reducible first | exact HB.out | apply below_alloc | apply pw_below_drewN | apply below_drew1) | exact HB.out))) : w.heap.size ≤ gb101)); clear HB; have HB := n0_; have BK101 := n1_; have GW101 := n2_; have GE101 := n3_; clear n0_ n1_ n2_ n3_; clear hb hbox hg) | ((with_reducible refine gate_callee (f := 227) rfl ?_); refine goesL_ (some 9) rfl rfl Try.func227 (by kernel_rfl) rfl #[.slice A0 l0.length c0, .int .i64 a1] rfl (by (try simp only [List.map_toArray, List.map_cons, List.map_nil]); first | done | rfl | (simp only [List.length_drop, List.length_take]; rfl)) ?_; (with_reducible refine (x227.calls _ _ l0 a1 t102 _ ?side1 ?side2 A3.out).mono ?_); (case side1 => repeat (first | exact (Kd.C_below HR0.out HB.out) | (with_reducible refine Kd.C_alloc ?_ _) | (with_reducible refine Kd.C_drewN ?_ _) | (with_reducible refine Kd.C_drew ?_))); (case side2 => exact HC0.out); rintro e w6 ⟨rfl, hb⟩; refine ⟨_, rfl, ?_⟩; have n0_ := Aside0.mk (blk_below (g := gb101) (o := .cells #[.int .i64 0, .int .i64 0, .string (⟨#[]⟩ : ByteArray)] 152 (0, 0)) (by (with_reducible repeat (first | refine blk_drewN ?_ _ | refine blk_drew ?_ | refine blk_alloc ?_ _)); exact BK101.out) hb); have n1_ := Aside0.mk (below_step (by repeat (first | (with_reducible first | exact HB.out | apply below_alloc | apply pw_below_drewN | apply below_drew1 | refine below_set ?_ GE101.out) | exact HB.out)) hb); clear BK101; clear HB; have BK101 := n0_; have HB := n1_; clear n0_ n1_; (try clear hb); (try clear hb2); (try clear hk); (try clear hi); have hcz7_0 : w6.cell? ⟨gb101, 0, none⟩ = some (.int .i64 0) := (blk_cell BK101.out 0).trans rfl; have hcz7_1 : w6.cell? ⟨gb101, 1, none⟩ = some (.int .i64 0) := (blk_cell BK101.out 1).trans rfl; have hcz7_2 : w6.cell? ⟨gb101, 2, none⟩ = some (.string (⟨#[]⟩ : ByteArray)) := (blk_cell BK101.out 2).trans rfl; have hfz7_0 := blk_frozen BK101.out 0; have hfz7_1 := blk_frozen BK101.out 1; have hfz7_2 := blk_frozen BK101.out 2))
    refine bodyPost_ret (results_ct rfl _ _ gb101 152 #[.int .i64 0, .int .i64 0, .string (⟨#[]⟩ : ByteArray)] (0, 0) _ rfl (by (with_reducible repeat (first | refine blk_drewN ?_ _ | refine blk_drew ?_ | refine blk_alloc ?_ _)); refine blk_put (cs := #[.int .i64 0, .int .i64 0, .string (⟨#[]⟩ : ByteArray)]) ?_ 2 _ rfl; (with_reducible repeat (first | refine blk_drewN ?_ _ | refine blk_drew ?_ | refine blk_alloc ?_ _)); refine blk_put (cs := #[.int .i64 0, .int .i64 0, .string (⟨#[]⟩ : ByteArray)]) ?_ 1 _ rfl; (with_reducible repeat (first | refine blk_drewN ?_ _ | refine blk_drew ?_ | refine blk_alloc ?_ _)); refine blk_put (cs := #[.int .i64 0, .int .i64 0, .string (⟨#[]⟩ : ByteArray)]) ?_ 0 _ rfl; (with_reducible repeat (first | refine blk_drewN ?_ _ | refine blk_drew ?_ | refine blk_alloc ?_ _)); exact BK101.out) Try.underlying152 rfl (by kernel_rfl)) rfl ?_
    exact ⟨by first | rfl | (simp [errW_none, errW_some] <;> rfl) | (simp [*, errW_none, errW_some] <;> rfl), by repeat (first | (with_reducible first | exact HB.out | apply below_alloc | apply pw_below_drewN | apply below_drew1 | refine below_set ?_ GE101.out) | exact HB.out)⟩
  · rw [if_neg c4] at H
    have c4b0 : decide (t102 < 0) = false := decide_eq_false c4
    clear c4
    by_cases c8 : 0 ≤ t102
    · rw [if_pos c8] at H
      have c8b0 : decide (0 ≤ t102) = true := decide_eq_true c8
      clear c8
      by_cases c9 : t102 < (l0.length : Int)
      · rw [if_pos c9] at H
        have c9b0 : decide (t102 < (l0.length : Int)) = true := decide_eq_true c9
        clear c9
        simp only [Option.some.injEq, Prod.mk.injEq] at H
        obtain ⟨rfl, rfl, rfl, rfl⟩ := H
        go_enter Try.func198, Try.ntmps198
        go_wp2_with (first | ((with_reducible refine gate_dst (N := 4) rfl ?_); refine box_event ?hg (N := 4) ?hd (cs := #[.int .i64 0, .int .i64 0, .string (⟨#[]⟩ : ByteArray)]) (t := 152) ?hr ?_; (case hd => rfl); (case hg => rfl); (case hr => first | (go_simp; done) | (go_simp; rfl)); intro gb101 hg w10 hbox hb; have n0_ := Aside0.mk (below_step (by repeat (first | (with_reducible first | exact HB.out | apply below_alloc | apply pw_below_drewN | apply below_drew1) | exact HB.out)) hb); have n1_ := Aside0.mk (hbox); have n2_ := Aside0.mk ((by rw [hg]; exact (below_size (by repeat (first | (with_reducible first | exact HB.out | apply below_alloc | apply pw_below_drewN | apply below_drew1) | exact HB.out))) : w.heap.size ≤ gb101)); have n3_ := Aside0.mk ((by rw [hg]; exact (below_size (by repeat (first | (with_reducible first | exact HB.out | apply below_alloc | apply pw_below_drewN | apply below_drew1) | exact HB.out))) : w.heap.size ≤ gb101)); clear HB; have HB := n0_; have BK101 := n1_; have GW101 := n2_; have GE101 := n3_; clear n0_ n1_ n2_ n3_; clear hb hbox hg) | ((with_reducible refine gate_callee (f := 227) rfl ?_); refine goesL_ (some 9) rfl rfl Try.func227 (by kernel_rfl) rfl #[.slice A0 l0.length c0, .int .i64 a1] rfl (by (try simp only [List.map_toArray, List.map_cons, List.map_nil]); first | done | rfl | (simp only [List.length_drop, List.length_take]; rfl)) ?_; (with_reducible refine (x227.calls _ _ l0 a1 t102 _ ?side1 ?side2 A3.out).mono ?_); (case side1 => repeat (first | exact (Kd.C_below HR0.out HB.out) | (with_reducible refine Kd.C_alloc ?_ _) | (with_reducible refine Kd.C_drewN ?_ _) | (with_reducible refine Kd.C_drew ?_))); (case side2 => exact HC0.out); rintro e w11 ⟨rfl, hb⟩; refine ⟨_, rfl, ?_⟩; have n0_ := Aside0.mk (blk_below (g := gb101) (o := .cells #[.int .i64 0, .int .i64 0, .string (⟨#[]⟩ : ByteArray)] 152 (0, 0)) (by (with_reducible repeat (first | refine blk_drewN ?_ _ | refine blk_drew ?_ | refine blk_alloc ?_ _)); exact BK101.out) hb); have n1_ := Aside0.mk (below_step (by repeat (first | (with_reducible first | exact HB.out | apply below_alloc | apply pw_below_drewN | apply below_drew1 | refine below_set ?_ GE101.out) | exact HB.out)) hb); clear BK101; clear HB; have BK101 := n0_; have HB := n1_; clear n0_ n1_; (try clear hb); (try clear hb2); (try clear hk); (try clear hi); have p103 : 0 ≤ (t102 : Int) := of_decide_eq_true (by first | (with_reducible assumption) | assumption); have q103 : t102 < (l0.length : Int) := of_decide_eq_true (by first | (with_reducible assumption) | assumption); obtain ⟨ad103, e103, hx103_0, hx103_1, hx103_2⟩ := at_T152 HR0.out t102 p103 q103; cases e103; replace hx103_0 := (HB.out.cell (World.block_lt_of_cell? w _ hx103_0)).trans hx103_0; replace hx103_1 := (HB.out.cell (World.block_lt_of_cell? w _ hx103_1)).trans hx103_1; replace hx103_2 := (HB.out.cell (World.block_lt_of_cell? w _ hx103_2)).trans hx103_2; replace p103 := eq_true p103; replace q103 := eq_true q103; have hcz12_0 : w11.cell? ⟨gb101, 0, none⟩ = some (.int .i64 0) := (blk_cell BK101.out 0).trans rfl; have hcz12_1 : w11.cell? ⟨gb101, 1, none⟩ = some (.int .i64 0) := (blk_cell BK101.out 1).trans rfl; have hcz12_2 : w11.cell? ⟨gb101, 2, none⟩ = some (.string (⟨#[]⟩ : ByteArray)) := (blk_cell BK101.out 2).trans rfl; have hfz12_0 := blk_frozen BK101.out 0; have hfz12_1 := blk_frozen BK101.out 1; have hfz12_2 := blk_frozen BK101.out 2))
        refine bodyPost_ret (results_ct rfl _ _ gb101 152 #[.int .i64 ((rd_T152 l0 t102).f0), .int .i64 ((rd_T152 l0 t102).f1), .string ((rd_T152 l0 t102).f2)] (0, 0) _ rfl (by (with_reducible repeat (first | refine blk_drewN ?_ _ | refine blk_drew ?_ | refine blk_alloc ?_ _)); refine blk_put (cs := #[.int .i64 ((rd_T152 l0 t102).f0), .int .i64 ((rd_T152 l0 t102).f1), .string (⟨#[]⟩ : ByteArray)]) ?_ 2 _ rfl; (with_reducible repeat (first | refine blk_drewN ?_ _ | refine blk_drew ?_ | refine blk_alloc ?_ _)); refine blk_put (cs := #[.int .i64 ((rd_T152 l0 t102).f0), .int .i64 0, .string (⟨#[]⟩ : ByteArray)]) ?_ 1 _ rfl; (with_reducible repeat (first | refine blk_drewN ?_ _ | refine blk_drew ?_ | refine blk_alloc ?_ _)); refine blk_put (cs := #[.int .i64 0, .int .i64 0, .string (⟨#[]⟩ : ByteArray)]) ?_ 0 _ rfl; (with_reducible repeat (first | refine blk_drewN ?_ _ | refine blk_drew ?_ | refine blk_alloc ?_ _)); exact BK101.out) Try.underlying152 rfl (by kernel_rfl)) rfl ?_
        exact ⟨by first | rfl | (simp [errW_none, errW_some] <;> rfl) | (simp [*, errW_none, errW_some] <;> rfl), by repeat (first | (with_reducible first | exact HB.out | apply below_alloc | apply pw_below_drewN | apply below_drew1 | refine below_set ?_ GE101.out) | exact HB.out)⟩
      · rw [if_neg c9] at H
        exact absurd H (by simp)
    · rw [if_neg c8] at H
      exact absurd H (by simp)
end Go.Proofs.Ytjlgbgkpiganbaa.P
namespace Go.Proofs.Ytjlgbgkpiganbaa.P
open Go.RowKit Go.Proofs.YtjlgbgkpiganbaaW.PrintWords Go.Proofs.YtjlgbgkpiganbaaW.PrintLast Go.Proofs.YtjlgbgkpiganbaaW.PrintMore
attribute [local go_sem] max2_int min2_int max_two min_two max_three min_three max_four min_four
set_option linter.unusedVariables false
set_option linter.unusedSimpArgs false
theorem eqA152 (d : Nat) (w : World) (x0 y0 : Int) (x1 y1 : Int) (x2 y2 : ByteArray) :
    (Op.equalIn (d + 2) 152 (.agg #[.int .i64 x0, .int .i64 x1, .string x2]) (.agg #[.int .i64 y0, .int .i64 y1, .string y2])).run Try.prog w = .ok (x0 == y0 && (x1 == y1 && (x2.toList == y2.toList))) w := by
  refine eqA_of Try.underlying152 (by kernel_rfl) ?_
  refine eqf_cons (by rfl) (by go_simp; rfl) (by go_simp; rfl) (by go_simp) ?_
  refine eqf_cons (by rfl) (by go_simp; rfl) (by go_simp; rfl) (by go_simp) ?_
  exact eqf_last (by rfl) (by go_simp; rfl) (by go_simp; rfl) (by go_simp)
end Go.Proofs.Ytjlgbgkpiganbaa.P
set_option linter.unusedVariables false
set_option linter.unusedSimpArgs false
namespace Go.Proofs.Ytjlgbgkpiganbaa.P
open Go.RowKit Go.Proofs.YtjlgbgkpiganbaaW.PrintWords Go.Proofs.YtjlgbgkpiganbaaW.PrintLast Go.Proofs.YtjlgbgkpiganbaaW.PrintMore
attribute [local go_sem high] eqA152
def lowB (x y : S152) : Bool := decide (x.f1 < y.f1) || (x.f1 == y.f1 && Op.bytesLess x.f2.toList y.f2.toList)
def badE (l : List S152) (y : S152) : Bool := match l.find? (fun x => x.f0 == y.f0) with | none => true | some x => lowB x y
theorem idxOf_find {α : Type} (p : α → Bool) : ∀ l : List α, (l.find? p = none ∧ idxOf p l = -1) ∨ ∃ k x, idxOf p l = (k : Nat) ∧ l[k]? = some x ∧ l.find? p = some x ∧ p x = true
  | [] => .inl ⟨rfl, rfl⟩
  | y :: l => by
    cases h : p y
    · rcases idxOf_find p l with ⟨h1, h2⟩ | ⟨k, x, h1, h2, h3, h4⟩
      · exact .inl ⟨by simp [h, h1], by simp [idxOf, h, h2]⟩
      · refine .inr ⟨k + 1, x, ?_, by simpa using h2, by simp [h, h3], h4⟩
        simp only [idxOf, h, h1]
        simp; omega
    · exact .inr ⟨0, y, by simp [idxOf, h], by simp, by simp [h], h⟩
theorem get_none {l : List S152} {key : Int} (h : l.find? (fun x => x.f0 == key) = none) : entry_Get.f l key = some (0, 0, ⟨#[]⟩, false) := by
  rcases idxOf_find (fun x : S152 => x.f0 == key) l with ⟨_, h2⟩ | ⟨k, x, _, _, h3, _⟩
  · simp [entry_Get.f, x227.f, h2]
  · rw [h] at h3; cases h3
theorem get_some {l : List S152} {key : Int} {x : S152} (h : l.find? (fun x => x.f0 == key) = some x) : entry_Get.f l key = some (x.f0, x.f1, x.f2, true) := by
  rcases idxOf_find (fun x : S152 => x.f0 == key) l with ⟨h1, _⟩ | ⟨k, x', h1, h2, h3, _⟩
  · rw [h] at h1; cases h1
  · rw [h] at h3
    obtain rfl := Option.some.inj h3
    obtain ⟨hlt, hx⟩ := List.getElem?_eq_some_iff.1 h2
    have e : rd_T152 l (k : Int) = x := by unfold rd_T152; rw [Int.toNat_natCast, List.getD_eq_getElem?_getD, h2]; rfl
    have n1 : ¬ ((k : Int) < 0) := by omega
    have n2 : (0 : Int) ≤ k := by omega
    have n3 : (k : Int) < l.length := by omega
    simp only [entry_Get.f, x227.f, h1, Option.bind_some]
    rw [if_neg n1, if_pos n2, if_pos n3, e]
theorem cl197no (g : Nat) (A : Option Addr) (c : Nat) (l : List S152) (y : S152) (W : World) (hb : W.heap[g]? = some (.cells #[.slice A l.length c] 66 (0, 0))) (hr : Kd.C k152 W A l.length l) (hc : l.length ≤ c) (h : l.find? (fun x => x.f0 == y.f0) = none) :
    Calls Try.prog 197 #[.agg #[.int .i64 y.f0, .int .i64 y.f1, .string y.f2], .pointer (some ⟨g, 0, none⟩)] W fun e w' => e = .returned (.bool true) ∧ Below W.heap.size W w' := by
  have h0 : W.cell? ⟨g, 0, none⟩ = some (.slice A l.length c) := (blk_cell hb 0).trans rfl
  have hlt : g < W.heap.size := (Array.getElem?_eq_some_iff.1 hb).1
  have HC := Aside0.mk (entry_Get.calls A c l y.f0 0 0 ⟨#[]⟩ false (W.alloc (.cells #[.int .i64 y.f0, .int .i64 y.f1, .string y.f2] 152)) (Kd.C_alloc hr _) hc (get_none h))
  have HB := Aside0.mk ((Below.refl W.heap.size W).alloc (Nat.le_refl _) (.cells #[.int .i64 y.f0, .int .i64 y.f1, .string y.f2] 152))
  clear hb hr h
  have hu := Try.underlying152
  go_enter Try.func197, Try.ntmps197
  go_wp2_with (go_at_call 198; refine HC.out.mono ?_; rintro e w' ⟨rfl, hb⟩; have HB1 := Aside0.mk (below_step HB.out hb); clear hb)
  go_quiet (fail)
  go_wp2
  go_ret
  exact ⟨rfl, by repeat (first | (with_reducible first | exact HB1.out | apply below_alloc | apply pw_below_drewN | apply below_drew1) | exact HB1.out)⟩
theorem bcell' {W w1 : World} (hb : Below W.heap.size W w1) : (∀ b o, b < W.heap.size → w1.cell? ⟨b, o, none⟩ = W.cell? ⟨b, o, none⟩) := fun b o h => hb.cell (p := ⟨b, o, none⟩) h
theorem higher_some (x y : S152) : entry_higher.f x.f0 x.f1 x.f2 y.f0 y.f1 y.f2 = if lowB x y then some (y.f0, y.f1, y.f2) else some (x.f0, x.f1, x.f2) := by
  unfold entry_higher.f lowB
  by_cases h1 : x.f1 < y.f1
  · simp [h1]
  · by_cases h2 : y.f1 = x.f1
    · by_cases h3 : Op.bytesLess x.f2.toList y.f2.toList = true
      · simp [h1, h2, h3]
      · simp [h1, h2, h3]
    · have h2' : ¬ x.f1 = y.f1 := fun h => h2 h.symm
      simp [h1, h2, h2']
set_option maxHeartbeats 1000000 in
theorem cl197lo (g : Nat) (A : Option Addr) (c : Nat) (l : List S152) (x y : S152) (W : World) (hb : W.heap[g]? = some (.cells #[.slice A l.length c] 66 (0, 0))) (hr : Kd.C k152 W A l.length l) (hc : l.length ≤ c) (h : l.find? (fun x => x.f0 == y.f0) = some x) (hx : lowB x y = false) :
    Calls Try.prog 197 #[.agg #[.int .i64 y.f0, .int .i64 y.f1, .string y.f2], .pointer (some ⟨g, 0, none⟩)] W fun e w' => e = .returned (.bool false) ∧ Below W.heap.size W w' := by
  have h0 : W.cell? ⟨g, 0, none⟩ = some (.slice A l.length c) := (blk_cell hb 0).trans rfl
  have hlt : g < W.heap.size := (Array.getElem?_eq_some_iff.1 hb).1
  have HC := Aside0.mk (entry_Get.calls A c l y.f0 x.f0 x.f1 x.f2 true (W.alloc (.cells #[.int .i64 y.f0, .int .i64 y.f1, .string y.f2] 152)) (Kd.C_alloc hr _) hc (get_some h))
  have HB := Aside0.mk ((Below.refl W.heap.size W).alloc (Nat.le_refl _) (.cells #[.int .i64 y.f0, .int .i64 y.f1, .string y.f2] 152))
  have HH := Aside0.mk (fun V => entry_higher.calls x.f0 x.f1 x.f2 y.f0 y.f1 y.f2 x.f0 x.f1 x.f2 V (by rw [higher_some, hx]; rfl))
  clear hb hr h hx
  have hu := Try.underlying152
  go_enter Try.func197, Try.ntmps197
  go_wp2_with (go_at_call 198; refine HC.out.mono ?_; rintro e w' ⟨rfl, hb⟩; have HB1 := Aside0.mk (below_step HB.out hb); have b2 := (hb.block W.heap.size (by simp)).trans (heap_alloc_new W _); have hz : W.heap.size < w'.heap.size := (Array.getElem?_eq_some_iff.1 b2).1; have hz1 : W.heap.size < w'.heap.size + 1 := Nat.lt_succ_of_lt hz; have c0 := (blk_cell b2 0).trans rfl; have c1 := (blk_cell b2 1).trans rfl; have c2 := (blk_cell b2 2).trans rfl; clear hb b2)
  go_region_held3 (fun V => V.cell? ⟨w'.heap.size, 0, none⟩ = some (.int .i64 x.f0) ∧ V.cell? ⟨w'.heap.size, 1, none⟩ = some (.int .i64 x.f1) ∧ V.cell? ⟨w'.heap.size, 2, none⟩ = some (.string x.f2) ∧ V.cell? ⟨W.heap.size, 0, none⟩ = some (.int .i64 y.f0) ∧ V.cell? ⟨W.heap.size, 1, none⟩ = some (.int .i64 y.f1) ∧ V.cell? ⟨W.heap.size, 2, none⟩ = some (.string y.f2)) (go_keep) ((go_at_call 194; refine (HH.out _).mono ?_; rintro e w2 ⟨rfl, hb2⟩; have hc2 := bcell' hb2; have HB2 := Aside0.mk hb2; clear hb2))
  all_goals
    go_wp2
    go_ret
    exact ⟨by first | rfl | simp, below_step (by repeat (first | (with_reducible first | exact HB1.out | apply below_alloc | apply pw_below_drewN | apply below_drew1) | exact HB1.out)) HB2.out⟩
theorem low_ne {x y : S152} (h : lowB x y = true) : ¬ y.f1 = x.f1 ∨ (y.f2.toList == x.f2.toList) = false := by
  unfold lowB at h
  by_cases h1 : x.f1 < y.f1
  · exact .inl (by omega)
  · simp only [h1, decide_false, Bool.false_or, Bool.and_eq_true] at h
    refine .inr ?_
    rw [beq_eq_false_iff_ne]
    intro e
    rw [e, bytesLess_irrefl] at h
    exact absurd h.2 (by simp)
set_option maxHeartbeats 1000000 in
theorem cl197hi (g : Nat) (A : Option Addr) (c : Nat) (l : List S152) (x y : S152) (W : World) (hb : W.heap[g]? = some (.cells #[.slice A l.length c] 66 (0, 0))) (hr : Kd.C k152 W A l.length l) (hc : l.length ≤ c) (h : l.find? (fun x => x.f0 == y.f0) = some x) (hx : lowB x y = true) :
    Calls Try.prog 197 #[.agg #[.int .i64 y.f0, .int .i64 y.f1, .string y.f2], .pointer (some ⟨g, 0, none⟩)] W fun e w' => e = .returned (.bool true) ∧ Below W.heap.size W w' := by
  have h0 : W.cell? ⟨g, 0, none⟩ = some (.slice A l.length c) := (blk_cell hb 0).trans rfl
  have hlt : g < W.heap.size := (Array.getElem?_eq_some_iff.1 hb).1
  have HC := Aside0.mk (entry_Get.calls A c l y.f0 x.f0 x.f1 x.f2 true (W.alloc (.cells #[.int .i64 y.f0, .int .i64 y.f1, .string y.f2] 152)) (Kd.C_alloc hr _) hc (get_some h))
  have HB := Aside0.mk ((Below.refl W.heap.size W).alloc (Nat.le_refl _) (.cells #[.int .i64 y.f0, .int .i64 y.f1, .string y.f2] 152))
  have HH := Aside0.mk (fun V => entry_higher.calls x.f0 x.f1 x.f2 y.f0 y.f1 y.f2 y.f0 y.f1 y.f2 V (by rw [higher_some, hx]; rfl))
  have HD := Aside0.mk (low_ne hx)
  clear hb hr h hx
  have hu := Try.underlying152
  go_enter Try.func197, Try.ntmps197
  go_wp2_with (go_at_call 198; refine HC.out.mono ?_; rintro e w' ⟨rfl, hb⟩; have HB1 := Aside0.mk (below_step HB.out hb); have b2 := (hb.block W.heap.size (by simp)).trans (heap_alloc_new W _); have hz : W.heap.size < w'.heap.size := (Array.getElem?_eq_some_iff.1 b2).1; have hz1 : W.heap.size < w'.heap.size + 1 := Nat.lt_succ_of_lt hz; have c0 := (blk_cell b2 0).trans rfl; have c1 := (blk_cell b2 1).trans rfl; have c2 := (blk_cell b2 2).trans rfl; clear hb b2)
  go_region_held3 (fun V => V.cell? ⟨w'.heap.size, 0, none⟩ = some (.int .i64 x.f0) ∧ V.cell? ⟨w'.heap.size, 1, none⟩ = some (.int .i64 x.f1) ∧ V.cell? ⟨w'.heap.size, 2, none⟩ = some (.string x.f2) ∧ V.cell? ⟨W.heap.size, 0, none⟩ = some (.int .i64 y.f0) ∧ V.cell? ⟨W.heap.size, 1, none⟩ = some (.int .i64 y.f1) ∧ V.cell? ⟨W.heap.size, 2, none⟩ = some (.string y.f2)) (go_keep) ((go_at_call 194; refine (HH.out _).mono ?_; rintro e w2 ⟨rfl, hb2⟩; have hc2 := bcell' hb2; have HB2 := Aside0.mk hb2; clear hb2))
  all_goals
    go_wp2
    go_ret
    refine ⟨?_, below_step (by repeat (first | (with_reducible first | exact HB1.out | apply below_alloc | apply pw_below_drewN | apply below_drew1) | exact HB1.out)) HB2.out⟩
    have := HD.out
    rcases this with h | h <;> simp [h]
theorem cl197 (g : Nat) (A : Option Addr) (c : Nat) (l : List S152) (y : S152) (W : World) (hb : W.heap[g]? = some (.cells #[.slice A l.length c] 66 (0, 0))) (hr : Kd.C k152 W A l.length l) (hc : l.length ≤ c) :
    Calls Try.prog 197 #[.agg #[.int .i64 y.f0, .int .i64 y.f1, .string y.f2], .pointer (some ⟨g, 0, none⟩)] W fun e w' => e = .returned (.bool (badE l y)) ∧ Below W.heap.size W w' := by
  cases h : l.find? (fun x => x.f0 == y.f0) with
  | none =>
    have e : badE l y = true := by unfold badE; rw [h]
    rw [e]; exact cl197no g A c l y W hb hr hc h
  | some x =>
    have e : badE l y = lowB x y := by unfold badE; rw [h]
    rw [e]
    cases h2 : lowB x y
    · exact cl197lo g A c l x y W hb hr hc h h2
    · exact cl197hi g A c l x y W hb hr hc h h2
def x141.f (l0 l1 : List S152) : Option Bool := some (!(l1.any (badE l0)))
set_option maxRecDepth 100000 in
theorem x141.calls (A0 : Option Addr) (c0 : Nat) (l0 : List S152) (A1 : Option Addr) (c1 : Nat) (l1 : List S152) (r : Bool) (w : World) (hr0 : Kd.C k152 w A0 l0.length l0) (hc0 : l0.length ≤ c0) (hr1 : Kd.C k152 w A1 l1.length l1) (hc1 : l1.length ≤ c1) (h : x141.f l0 l1 = some r) :
    Calls Try.prog 141 #[.slice A0 l0.length c0, .slice A1 l1.length c1] w fun e w' => e = .returned (.bool r) ∧ Below w.heap.size w w' := by
  obtain rfl := Option.some.inj h
  clear h
  have H := Aside0.mk (contains187 197 Try.f197 Try.func197 (by kernel_rfl) rfl #[.pointer (some ⟨w.heap.size, 0, none⟩)] (badE l0) A1 c1 l1 (w.alloc (.cells #[.slice A0 l0.length c0] 66)) (Kd.C_alloc hr1 _) hc1 (fun x _ W hW => cl197 w.heap.size A0 c0 l0 x W ((hW.block w.heap.size (by simp)).trans (heap_alloc_new w _)) (Kd.C_below (Kd.C_alloc hr0 _) hW) hc0))
  have HB := Aside0.mk ((Below.refl w.heap.size w).alloc (Nat.le_refl _) (.cells #[.slice A0 l0.length c0] 66))
  clear hr0 hr1
  go_enter Try.func141, Try.ntmps141
  go_wp2_with (go_at_call 187; refine H.out.mono ?_; rintro e w' ⟨rfl, hb⟩; have HB1 := Aside0.mk (below_step HB.out hb); clear hb)
  go_ret
  exact ⟨rfl, HB1.out⟩
end Go.Proofs.Ytjlgbgkpiganbaa.P
set_option linter.unusedVariables false
set_option linter.unusedSimpArgs false
namespace Go.Proofs.Ytjlgbgkpiganbaa.P
open Go.RowKit Go.Proofs.YtjlgbgkpiganbaaW.PrintWords
theorem bytesLess_trans : ∀ x y z : List UInt8, Op.bytesLess x y = true → Op.bytesLess y z = true → Op.bytesLess x z = true
  | [], [], _, h, _ => by simp [Op.bytesLess] at h
  | _ :: _, [], _, h, _ => by simp [Op.bytesLess] at h
  | _, _ :: _, [], _, h => by simp [Op.bytesLess] at h
  | [], _ :: _, _ :: _, _, _ => by simp [Op.bytesLess]
  | a :: x, b :: y, c :: z, h1, h2 => by
    simp only [Op.bytesLess, Bool.or_eq_true, Bool.and_eq_true, decide_eq_true_eq, beq_iff_eq] at h1 h2 ⊢
    rcases h1 with h1 | ⟨rfl, h1⟩
    · rcases h2 with h2 | ⟨rfl, h2⟩
      · left; rw [UInt8.lt_iff_toNat_lt] at h1 h2 ⊢; omega
      · exact .inl h1
    · rcases h2 with h2 | ⟨rfl, h2⟩
      · exact .inl h2
      · exact .inr ⟨rfl, bytesLess_trans x y z h1 h2⟩
theorem bytes_eq {x y : ByteArray} (h : x.toList = y.toList) : x = y := by
  rw [ByteArray.toList_eq, ByteArray.toList_eq] at h
  cases x; cases y
  congr
  exact Array.toList_inj.1 h
theorem bytes_tri {x y : ByteArray} (h1 : Op.bytesLess x.toList y.toList = false) (h2 : Op.bytesLess y.toList x.toList = false) : x = y := by
  have := bytesLess_flip x.toList y.toList
  rw [h1, h2] at this
  exact bytes_eq (by simpa using this)
def hiE (x y : S152) : S152 := if lowB x y then y else x
theorem lowB_iff (x y : S152) : lowB x y = true ↔ x.f1 < y.f1 ∨ (x.f1 = y.f1 ∧ Op.bytesLess x.f2.toList y.f2.toList = true) := by
  simp [lowB]
theorem lowB_irrefl (x : S152) : lowB x x = false := by
  cases h : lowB x x
  · rfl
  · rcases (lowB_iff x x).1 h with h | ⟨_, h⟩
    · omega
    · rw [bytesLess_irrefl] at h; cases h
theorem lowB_trans {x y z : S152} (h1 : lowB x y = true) (h2 : lowB y z = true) : lowB x z = true := by
  rw [lowB_iff] at *
  rcases h1 with h1 | ⟨h1, h3⟩ <;> rcases h2 with h2 | ⟨h2, h4⟩
  · exact .inl (by omega)
  · exact .inl (by omega)
  · exact .inl (by omega)
  · exact .inr ⟨h1.trans h2, bytesLess_trans _ _ _ h3 h4⟩
theorem S152.eq' {x y : S152} (h0 : x.f0 = y.f0) (h1 : x.f1 = y.f1) (h2 : x.f2 = y.f2) : x = y := by
  cases x; cases y; simp_all
theorem lowB_tri {x y : S152} (hk : x.f0 = y.f0) (h1 : lowB x y = false) (h2 : lowB y x = false) : x = y := by
  have a1 : ¬ (lowB x y = true) := by simp [h1]
  have a2 : ¬ (lowB y x = true) := by simp [h2]
  rw [lowB_iff] at a1 a2
  have e1 : x.f1 = y.f1 := by omega
  refine S152.eq' hk e1 (bytes_tri ?_ ?_)
  · cases h : Op.bytesLess x.f2.toList y.f2.toList
    · rfl
    · exact absurd (.inr ⟨e1, h⟩) a1
  · cases h : Op.bytesLess y.f2.toList x.f2.toList
    · rfl
    · exact absurd (.inr ⟨e1.symm, h⟩) a2
theorem lowB_asymm {x y : S152} (h : lowB x y = true) : lowB y x = false := by
  cases h2 : lowB y x
  · rfl
  · have := lowB_trans h h2; rw [lowB_irrefl] at this; cases this
theorem hiE_self (x : S152) : hiE x x = x := by unfold hiE; split <;> rfl
theorem hiE_key {x y : S152} (h : x.f0 = y.f0) : (hiE x y).f0 = x.f0 := by unfold hiE; split; exact h.symm; rfl
theorem hiE_comm {x y : S152} (hk : x.f0 = y.f0) : hiE x y = hiE y x := by
  unfold hiE
  cases h1 : lowB x y
  · cases h2 : lowB y x
    · simpa using lowB_tri hk h1 h2
    · simp
  · simp [lowB_asymm h1]
theorem hiE_assoc {x y z : S152} (h1 : x.f0 = y.f0) (h2 : y.f0 = z.f0) : hiE (hiE x y) z = hiE x (hiE y z) := by
  unfold hiE
  cases a : lowB x y <;> cases b : lowB y z <;> simp [a, b]
  · cases c : lowB x z
    · intro h; cases h
    ·
      intro _
      exfalso
      cases d : lowB z y
      · have := lowB_tri h2 b d; subst this; rw [c] at a; cases a
      · have := lowB_trans c d; rw [this] at a; cases a
  · have := lowB_trans a b; simp [this]
def getE (l : List S152) (k : Int) : Option S152 := l.find? (fun x => x.f0 == k)
theorem getE_nil (k : Int) : getE [] k = none := rfl
theorem getE_cons (x : S152) (l : List S152) (k : Int) : getE (x :: l) k = if x.f0 = k then some x else getE l k := by
  unfold getE
  by_cases h : x.f0 = k
  · simp [h]
  · have : (x.f0 == k) = false := by simpa using h
    simp [List.find?, this, h]
theorem getE_key {l : List S152} {k : Int} {x : S152} (h : getE l k = some x) : x.f0 = k ∧ x ∈ l := by
  unfold getE at h
  exact ⟨by simpa using List.find?_some h, List.mem_of_find?_eq_some h⟩
def Sorted (l : List S152) : Prop := l.Pairwise (fun x y => x.f0 < y.f0)
theorem Sorted.nil : Sorted [] := List.Pairwise.nil
theorem sorted_cons {x : S152} {l : List S152} : Sorted (x :: l) ↔ (∀ y ∈ l, x.f0 < y.f0) ∧ Sorted l := List.pairwise_cons
theorem getE_none {l : List S152} {k : Int} (h : ∀ y ∈ l, y.f0 ≠ k) : getE l k = none := by
  unfold getE
  rw [List.find?_eq_none]
  intro x hx
  simpa using h x hx
theorem getE_mem {l : List S152} (hs : Sorted l) {x : S152} (hx : x ∈ l) : getE l x.f0 = some x := by
  induction l with
  | nil => cases hx
  | cons y l ih =>
    obtain ⟨h1, h2⟩ := sorted_cons.1 hs
    rw [getE_cons]
    rcases List.mem_cons.1 hx with rfl | hx
    · simp
    · have := h1 x hx
      rw [if_neg (by omega)]
      exact ih h2 hx
theorem sorted_ext {a b : List S152} (ha : Sorted a) (hb : Sorted b) (h : ∀ k, getE a k = getE b k) : a = b := by
  induction a generalizing b with
  | nil =>
    cases b with
    | nil => rfl
    | cons y b => have := h y.f0; rw [getE_cons, if_pos rfl, getE_nil] at this; cases this
  | cons x a ih =>
    cases b with
    | nil => have := h x.f0; rw [getE_cons, if_pos rfl, getE_nil] at this; cases this
    | cons y b =>
      obtain ⟨a1, a2⟩ := sorted_cons.1 ha
      obtain ⟨b1, b2⟩ := sorted_cons.1 hb
      have hx := h x.f0
      have hy := h y.f0
      rw [getE_cons, if_pos rfl, getE_cons] at hx
      rw [getE_cons, getE_cons, if_pos rfl] at hy
      have e : x.f0 = y.f0 := by
        by_cases e : y.f0 = x.f0
        · exact e.symm
        · rw [if_neg e] at hx
          rw [if_neg (fun q => e q.symm)] at hy
          have m1 := b1 x (getE_key hx.symm).2
          have m2 := a1 y (getE_key hy).2
          omega
      rw [if_pos e.symm] at hx
      obtain rfl := Option.some.inj hx
      congr 1
      refine ih a2 b2 fun k => ?_
      have hk := h k
      rw [getE_cons, getE_cons] at hk
      by_cases q : x.f0 = k
      · subst q
        rw [getE_none (fun z hz => by have := a1 z hz; omega), getE_none (fun z hz => by have := b1 z hz; omega)]
      · rwa [if_neg q, if_neg q] at hk
def mergeE : List S152 → List S152 → List S152
  | [], b => b
  | x :: a, [] => x :: a
  | x :: a, y :: b => if x.f0 < y.f0 then x :: mergeE a (y :: b) else if y.f0 < x.f0 then y :: mergeE (x :: a) b else hiE x y :: mergeE a b
termination_by a b => a.length + b.length
theorem mergeE_nil_right (a : List S152) : mergeE a [] = a := by cases a <;> simp [mergeE]
theorem mergeE_mem {a b : List S152} {z : S152} (h : z ∈ mergeE a b) : z ∈ a ∨ z ∈ b := by
  fun_induction mergeE a b with
  | case1 b => exact .inr h
  | case2 x a => exact .inl h
  | case3 x a y b h1 ih =>
    rcases List.mem_cons.1 h with rfl | h
    · exact .inl List.mem_cons_self
    · rcases ih h with h | h
      · exact .inl (List.mem_cons_of_mem _ h)
      · exact .inr h
  | case4 x a y b h1 h2 ih =>
    rcases List.mem_cons.1 h with rfl | h
    · exact .inr List.mem_cons_self
    · rcases ih h with h | h
      · exact .inl h
      · exact .inr (List.mem_cons_of_mem _ h)
  | case5 x a y b h1 h2 ih =>
    rcases List.mem_cons.1 h with rfl | h
    · unfold hiE; split
      · exact .inr List.mem_cons_self
      · exact .inl List.mem_cons_self
    · rcases ih h with h | h
      · exact .inl (List.mem_cons_of_mem _ h)
      · exact .inr (List.mem_cons_of_mem _ h)
theorem mergeE_sorted {a b : List S152} (ha : Sorted a) (hb : Sorted b) : Sorted (mergeE a b) := by
  fun_induction mergeE a b with
  | case1 b => exact hb
  | case2 x a => exact ha
  | case3 x a y b h1 ih =>
    obtain ⟨a1, a2⟩ := sorted_cons.1 ha
    obtain ⟨b1, b2⟩ := sorted_cons.1 hb
    refine sorted_cons.2 ⟨fun z hz => ?_, ih a2 hb⟩
    rcases mergeE_mem hz with hz | hz
    · exact a1 z hz
    · rcases List.mem_cons.1 hz with rfl | hz
      · exact h1
      · have := b1 z hz; omega
  | case4 x a y b h1 h2 ih =>
    obtain ⟨a1, a2⟩ := sorted_cons.1 ha
    obtain ⟨b1, b2⟩ := sorted_cons.1 hb
    refine sorted_cons.2 ⟨fun z hz => ?_, ih ha b2⟩
    rcases mergeE_mem hz with hz | hz
    · rcases List.mem_cons.1 hz with rfl | hz
      · exact h2
      · have := a1 z hz; omega
    · exact b1 z hz
  | case5 x a y b h1 h2 ih =>
    obtain ⟨a1, a2⟩ := sorted_cons.1 ha
    obtain ⟨b1, b2⟩ := sorted_cons.1 hb
    have e : x.f0 = y.f0 := by omega
    refine sorted_cons.2 ⟨fun z hz => ?_, ih a2 b2⟩
    rw [hiE_key e]
    rcases mergeE_mem hz with hz | hz
    · exact a1 z hz
    · have := b1 z hz; omega
def hiO : Option S152 → Option S152 → Option S152
  | none, o => o
  | some x, none => some x
  | some x, some y => some (hiE x y)
theorem hiO_none (o : Option S152) : hiO o none = o := by cases o <;> rfl
theorem getE_merge {a b : List S152} (ha : Sorted a) (hb : Sorted b) (k : Int) : getE (mergeE a b) k = hiO (getE a k) (getE b k) := by
  fun_induction mergeE a b with
  | case1 b => rfl
  | case2 x a => rw [getE_nil, hiO_none]
  | case3 x a y b h1 ih =>
    obtain ⟨a1, a2⟩ := sorted_cons.1 ha
    obtain ⟨b1, b2⟩ := sorted_cons.1 hb
    rw [getE_cons, getE_cons x a, ih a2 hb]
    by_cases q : x.f0 = k
    · rw [if_pos q, if_pos q, getE_none (l := y :: b) (fun z hz => by
        rcases List.mem_cons.1 hz with rfl | hz
        · omega
        · have := b1 z hz; omega)]
      rfl
    · rw [if_neg q, if_neg q]
  | case4 x a y b h1 h2 ih =>
    obtain ⟨a1, a2⟩ := sorted_cons.1 ha
    obtain ⟨b1, b2⟩ := sorted_cons.1 hb
    rw [getE_cons, getE_cons y b, ih ha b2]
    by_cases q : y.f0 = k
    · rw [if_pos q, if_pos q, getE_none (l := x :: a) (fun z hz => by
        rcases List.mem_cons.1 hz with rfl | hz
        · omega
        · have := a1 z hz; omega)]
      rfl
    · rw [if_neg q, if_neg q]
  | case5 x a y b h1 h2 ih =>
    obtain ⟨a1, a2⟩ := sorted_cons.1 ha
    obtain ⟨b1, b2⟩ := sorted_cons.1 hb
    have e : x.f0 = y.f0 := by omega
    rw [getE_cons, getE_cons x a, getE_cons y b, ih a2 b2, hiE_key e]
    by_cases q : x.f0 = k
    · rw [if_pos q, if_pos q, if_pos (e ▸ q)]; rfl
    · rw [if_neg q, if_neg q, if_neg (e ▸ q)]
def SameKey : Option S152 → Option S152 → Prop
  | some x, some y => x.f0 = y.f0
  | _, _ => True
theorem sameKey_get (a b : List S152) (k : Int) : SameKey (getE a k) (getE b k) := by
  cases h1 : getE a k with
  | none => trivial
  | some x => cases h2 : getE b k with
    | none => trivial
    | some y => exact (getE_key h1).1.trans (getE_key h2).1.symm
theorem mergeE_comm {a b : List S152} (ha : Sorted a) (hb : Sorted b) : mergeE a b = mergeE b a := by
  refine sorted_ext (mergeE_sorted ha hb) (mergeE_sorted hb ha) fun k => ?_
  rw [getE_merge ha hb, getE_merge hb ha]
  have h := sameKey_get a b k
  cases h1 : getE a k with
  | none => rw [hiO_none]; rfl
  | some x => cases h2 : getE b k with
    | none => rfl
    | some y => rw [h1, h2] at h; exact congrArg some (hiE_comm h)
theorem mergeE_self {a : List S152} (ha : Sorted a) : mergeE a a = a := by
  refine sorted_ext (mergeE_sorted ha ha) ha fun k => ?_
  rw [getE_merge ha ha]
  cases h1 : getE a k with
  | none => rfl
  | some x => exact congrArg some (hiE_self x)
theorem mergeE_assoc {a b c : List S152} (ha : Sorted a) (hb : Sorted b) (hc : Sorted c) : mergeE (mergeE a b) c = mergeE a (mergeE b c) := by
  refine sorted_ext (mergeE_sorted (mergeE_sorted ha hb) hc) (mergeE_sorted ha (mergeE_sorted hb hc)) fun k => ?_
  rw [getE_merge (mergeE_sorted ha hb) hc, getE_merge ha hb, getE_merge ha (mergeE_sorted hb hc), getE_merge hb hc]
  have p := sameKey_get a b k
  have q := sameKey_get b c k
  cases h1 : getE a k with
  | none => rfl
  | some x => cases h2 : getE b k with
    | none => rfl
    | some y => cases h3 : getE c k with
      | none => rfl
      | some z => rw [h1, h2] at p; rw [h2, h3] at q; exact congrArg some (hiE_assoc p q)
def overE (a b : List S152) : Bool := !(b.any (badE a))
theorem overE_iff {a b : List S152} (ha : Sorted a) (hb : Sorted b) : overE a b = true ↔ mergeE a b = a := by
  have hm : mergeE a b = a ↔ ∀ k, hiO (getE a k) (getE b k) = getE a k := by
    constructor
    · intro h k; rw [← getE_merge ha hb, h]
    · intro h; exact sorted_ext (mergeE_sorted ha hb) ha fun k => by rw [getE_merge ha hb]; exact h k
  rw [hm]
  unfold overE
  rw [Bool.not_eq_true', List.any_eq_false]
  constructor
  · intro h k
    cases h2 : getE b k with
    | none => exact hiO_none _
    | some y =>
      obtain ⟨hk, hmem⟩ := getE_key h2
      have hb' := h y hmem
      unfold badE at hb'
      change ¬ (match getE a y.f0 with | none => true | some x => lowB x y) = true at hb'
      rw [hk] at hb'
      cases h1 : getE a k with
      | none => rw [h1] at hb'; simp at hb'
      | some x => rw [h1] at hb'; simp at hb'; simp [hiO, hiE, hb']
  · intro h y hy
    have h2 := getE_mem hb hy
    have h3 := h y.f0
    rw [h2] at h3
    unfold badE
    change ¬ (match getE a y.f0 with | none => true | some x => lowB x y) = true
    cases h1 : getE a y.f0 with
    | none => rw [h1] at h3; cases h3
    | some x =>
      rw [h1] at h3
      simp only [hiO, Option.some.injEq] at h3
      simp only [Bool.not_eq_true]
      cases h4 : lowB x y
      · rfl
      · simp only [hiE, h4, if_true] at h3
        subst h3
        rw [lowB_irrefl] at h4; cases h4
end Go.Proofs.Ytjlgbgkpiganbaa.P
namespace Go.Proofs.Ytjlgbgkpiganbaa.P
open Go.RowKit Go.Proofs.YtjlgbgkpiganbaaW.PrintWords Go.Proofs.YtjlgbgkpiganbaaW.PrintLast Go.Proofs.YtjlgbgkpiganbaaW.PrintMore
attribute [local go_sem] max2_int min2_int max_two min_two max_three min_three max_four min_four
set_option linter.unusedVariables false
set_option linter.unusedSimpArgs false
def bellwetherref04_Great.l0 : Nat → List (S152) → Int → Int → Option (Bool)
  | 0, _, _, _ => none
  | k + 1, x0, x3, x4 => if x4 < (x0.length : Int) then (if x3 ≤ 4000 then (if 0 ≤ x4 then (bellwetherref04_Great.l0 k x0 (wrap64 (x3 + (((rd_T152 x0 x4).f2).size : Int))) (wrap64 (x4 + 1))) else (none)) else (some (decide (x3 > 4000)))) else (some (decide (x3 > 4000)))
def bellwetherref04_Great.f (k : Nat) (l0 : List (S152)) : Option (Bool) := bellwetherref04_Great.l0 k l0 (l0.length : Int) 0
theorem bellwetherref04_Great.mono_l : ∀ k, (∀ y0 y1 y2, LeO (bellwetherref04_Great.l0 k y0 y1 y2) (bellwetherref04_Great.l0 (k + 1) y0 y1 y2))
  | 0 => fun _ _ _ r h => by simp [bellwetherref04_Great.l0] at h
  | k + 1 => by
    have ih0 := bellwetherref04_Great.mono_l k
    · intro y0 y1 y2
      unfold bellwetherref04_Great.l0
      repeat' first
      | (with_reducible exact ih0 _ _ _)
      | (with_reducible exact LeO.refl _)
      | (with_reducible exact LeO.none _)
      | (with_reducible refine LeO.ite ?_ ?_)
      | (with_reducible refine LeO.bind ?_ (fun _ => ?_))
      | exact ih0 _ _ _
      | exact LeO.none _
      | refine LeO.ite ?_ ?_
      | refine LeO.bind ?_ (fun _ => ?_)
theorem bellwetherref04_Great.mono : ∀ a0 k, LeO (bellwetherref04_Great.f k a0) (bellwetherref04_Great.f (k + 1) a0) := by
  intro a0 k
  have ih0 := bellwetherref04_Great.mono_l k
  unfold bellwetherref04_Great.f
  repeat' first
      | (with_reducible exact ih0 _ _ _)
      | (with_reducible exact LeO.refl _)
      | (with_reducible exact LeO.none _)
      | (with_reducible refine LeO.ite ?_ ?_)
      | (with_reducible refine LeO.bind ?_ (fun _ => ?_))
      | exact ih0 _ _ _
      | exact LeO.none _
      | refine LeO.ite ?_ ?_
      | refine LeO.bind ?_ (fun _ => ?_)
set_option maxHeartbeats 8000000 in
set_option maxRecDepth 100000 in
theorem bellwetherref04_Great.calls (k : Nat) (A0 : Option Addr) (c0 : Nat) (l0 : List (S152)) (r : Bool) (w : World) (hr0 : Kd.C k152 w A0 l0.length l0) (hc0 : l0.length ≤ c0) (h : bellwetherref04_Great.f k l0 = some r) :
    Calls Try.prog 178 #[.slice A0 l0.length c0] w fun e w' => e = .returned (.bool r) ∧ Drawn0 w w' := by
  have HR0 := Aside0.mk hr0
  have HC0 := Aside0.mk hc0
  clear hr0 hc0
  have H : (bellwetherref04_Great.l0 k l0 (l0.length : Int) 0) = some r := h
  clear h
  have H' := Aside0.mk H
  clear H
  go_enter Try.func178, Try.ntmps178
  go_wp2
  go_loopg [3, 4] k (fun kq v3 v4 w' => ∃ (x3_1 : Int) (x4_1 : Int), v3 = .int .i64 x3_1 ∧ v4 = .int .i64 x4_1 ∧ Aside0 (bellwetherref04_Great.l0 kq l0 x3_1 x4_1 = some r) ∧ Aside0 (kq ≤ k) ∧ Drawn0 w w')
  case atStart => exact ⟨((l0.length : Int)), (0), (by first | rfl | (simp; done) | (simp [*]; done)), (by first | rfl | (simp; done) | (simp [*]; done)), H', ⟨Nat.le_refl _⟩, by repeat (first | exact Drawn0.refl _ | apply Drawn0.step)⟩
  case round =>
    clear H'
    try clear c1
    obtain ⟨x3_1, x4_1, rfl, rfl, HA, HK1, ⟨m1, rfl⟩⟩ := hrel
    cases gk with
    | zero => exact absurd HA.out (by simp [bellwetherref04_Great.l0])
    | succ k1 =>
      have H := HA.out
      clear HA
      simp only [bellwetherref04_Great.l0] at H
      by_cases c2 : x4_1 < (l0.length : Int)
      · rw [if_pos c2] at H
        have c2b0 : decide (x4_1 < (l0.length : Int)) = true := decide_eq_true c2
        clear c2
        by_cases c3 : x3_1 ≤ 4000
        · rw [if_pos c3] at H
          have c3b0 : decide (x3_1 ≤ 4000) = true := decide_eq_true c3
          clear c3
          by_cases c4 : 0 ≤ x4_1
          · rw [if_pos c4] at H
            have c4b0 : decide (0 ≤ x4_1) = true := decide_eq_true c4
            clear c4
            have H' := Aside0.mk H
            clear H
            have p101 : 0 ≤ (x4_1 : Int) := of_decide_eq_true (by first | (with_reducible assumption) | assumption)
            have q101 : x4_1 < (l0.length : Int) := of_decide_eq_true (by first | (with_reducible assumption) | assumption)
            obtain ⟨ad101, e101, hx101_0, hx101_1, hx101_2⟩ := at_T152 HR0.out x4_1 p101 q101
            cases e101
            replace p101 := eq_true p101
            replace q101 := eq_true q101
            go_wp2
            go_roundg k1
            case measure => have := HK1.out; omega
            case rel => exact ⟨(wrap64 (x3_1 + (((rd_T152 l0 x4_1).f2).size : Int))), (wrap64 (x4_1 + 1)), (by first | rfl | (simp; done) | (simp [*]; done)), (by first | rfl | (simp; done) | (simp [*]; done)), H', ⟨by have := HK1.out; omega⟩, by repeat (first | exact Drawn0.refl _ | apply Drawn0.step)⟩
          · rw [if_neg c4] at H
            exact absurd H (by simp)
        · rw [if_neg c3] at H
          have c3b0 : decide (x3_1 ≤ 4000) = false := decide_eq_false c3
          clear c3
          obtain rfl := Option.some.inj H
          go_wp2
          go_ret
          exact ⟨by first | rfl | (simp; done) | (simp [*]; done), by repeat (first | exact Drawn0.refl _ | apply Drawn0.step)⟩
      · rw [if_neg c2] at H
        have c2b0 : decide (x4_1 < (l0.length : Int)) = false := decide_eq_false c2
        clear c2
        obtain rfl := Option.some.inj H
        go_wp2
        go_ret
        exact ⟨by first | rfl | (simp; done) | (simp [*]; done), by repeat (first | exact Drawn0.refl _ | apply Drawn0.step)⟩
end Go.Proofs.Ytjlgbgkpiganbaa.P
namespace Go.Proofs.Ytjlgbgkpiganbaa.P
open Go.RowKit Go.Proofs.YtjlgbgkpiganbaaW.PrintWords Go.Proofs.YtjlgbgkpiganbaaW.PrintLast Go.Proofs.YtjlgbgkpiganbaaW.PrintMore
attribute [local go_sem] max2_int min2_int max_two min_two max_three min_three max_four min_four
set_option linter.unusedVariables false
set_option linter.unusedSimpArgs false
def bellwetherref05_Great.f (k : Nat) (a0_0 : Int) (a0_1 : Int) (l0_2 : List (S152)) : Option (Bool) := (bellwetherref04_Great.f k l0_2).bind fun t102 => (some t102)
theorem bellwetherref05_Great.mono : ∀ a0 a1 a2 k, LeO (bellwetherref05_Great.f k a0 a1 a2) (bellwetherref05_Great.f (k + 1) a0 a1 a2) := by
  intro a0 a1 a2 k
  unfold bellwetherref05_Great.f
  repeat' first
      | (with_reducible exact bellwetherref04_Great.mono _ _)
      | (with_reducible exact LeO.refl _)
      | (with_reducible exact LeO.none _)
      | (with_reducible refine LeO.ite ?_ ?_)
      | (with_reducible refine LeO.bind ?_ (fun _ => ?_))
      | exact bellwetherref04_Great.mono _ _
      | exact LeO.none _
      | refine LeO.ite ?_ ?_
      | refine LeO.bind ?_ (fun _ => ?_)
set_option maxHeartbeats 8000000 in
set_option maxRecDepth 100000 in
theorem bellwetherref05_Great.calls (k : Nat) (a0_0 : Int) (a0_1 : Int) (A0_2 : Option Addr) (c0_2 : Nat) (l0_2 : List (S152)) (r : Bool) (w : World) (hr0_2 : Kd.C k152 w A0_2 l0_2.length l0_2) (hc0_2 : l0_2.length ≤ c0_2) (h : bellwetherref05_Great.f k a0_0 a0_1 l0_2 = some r) :
    Calls Try.prog 119 #[.agg #[.int .i64 a0_0, .int .i64 a0_1, .slice A0_2 l0_2.length c0_2]] w fun e w' => e = .returned (.bool r) ∧ Below w.heap.size w w' := by
  have hu68 := Try.underlying68
  have HR0_2 := Aside0.mk hr0_2
  have HC0_2 := Aside0.mk hc0_2
  clear hr0_2 hc0_2
  have HB := Aside0.mk (Below.refl w.heap.size w)
  have H : ((bellwetherref04_Great.f k l0_2).bind fun t102 => (some t102)) = some r := h
  clear h
  replace H := Option.bind_eq_some_iff.mp H
  obtain ⟨t102, A20, H⟩ := H
  replace H : (some t102) = some r := H
  have A2 := Aside0.mk A20
  clear A20
  obtain rfl := Option.some.inj H
  go_enter Try.func119, Try.ntmps119
  go_wp2_with (first | ((with_reducible refine gate_dst (N := 1) rfl ?_); refine box_event ?hg (N := 1) ?hd (cs := #[.int .i64 a0_0, .int .i64 a0_1, .slice A0_2 l0_2.length c0_2]) (t := 68) ?hr ?_; (case hd => rfl); (case hg => rfl); (case hr => first | (go_simp; done) | (go_simp; rfl)); intro gb101 hg w3 hbox hb; have n0_ := Aside0.mk (below_step (by repeat (first | (with_reducible first | exact HB.out | apply below_alloc | apply pw_below_drewN | apply below_drew1) | exact HB.out)) hb); have n1_ := Aside0.mk (hbox); have n2_ := Aside0.mk ((by rw [hg]; exact (below_size (by repeat (first | (with_reducible first | exact HB.out | apply below_alloc | apply pw_below_drewN | apply below_drew1) | exact HB.out))) : w.heap.size ≤ gb101)); have n3_ := Aside0.mk ((by rw [hg]; exact (below_size (by repeat (first | (with_reducible first | exact HB.out | apply below_alloc | apply pw_below_drewN | apply below_drew1) | exact HB.out))) : w.heap.size ≤ gb101)); clear HB; have HB := n0_; have BK101 := n1_; have GW101 := n2_; have GE101 := n3_; clear n0_ n1_ n2_ n3_; clear hb hbox hg; have hcz4_0 : w3.cell? ⟨gb101, 0, none⟩ = some (.int .i64 a0_0) := (blk_cell BK101.out 0).trans rfl; have hcz4_1 : w3.cell? ⟨gb101, 1, none⟩ = some (.int .i64 a0_1) := (blk_cell BK101.out 1).trans rfl; have hcz4_2 : w3.cell? ⟨gb101, 2, none⟩ = some (.slice A0_2 l0_2.length c0_2) := (blk_cell BK101.out 2).trans rfl; have hfz4_0 := blk_frozen BK101.out 0; have hfz4_1 := blk_frozen BK101.out 1; have hfz4_2 := blk_frozen BK101.out 2) | ((with_reducible refine gate_callee (f := 178) rfl ?_); refine goesL_ (some 5) rfl rfl Try.func178 (by kernel_rfl) rfl #[.slice A0_2 l0_2.length c0_2] rfl (by (try simp only [List.map_toArray, List.map_cons, List.map_nil]); first | done | rfl | (simp only [List.length_drop, List.length_take]; rfl)) ?_; (with_reducible refine (bellwetherref04_Great.calls k _ _ l0_2 t102 _ ?side1 ?side2 A2.out).mono ?_); (case side1 => repeat (first | exact (Kd.C_below HR0_2.out HB.out) | (with_reducible refine Kd.C_alloc ?_ _) | (with_reducible refine Kd.C_drewN ?_ _) | (with_reducible refine Kd.C_drew ?_))); (case side2 => exact HC0_2.out); rintro e w' ⟨rfl, ⟨nd, rfl⟩⟩; refine ⟨_, rfl, ?_⟩))
  go_ret
  exact ⟨by first | rfl | (simp [errW_none, errW_some] <;> rfl) | (simp [*, errW_none, errW_some] <;> rfl), by repeat (first | (with_reducible first | exact HB.out | apply below_alloc | apply pw_below_drewN | apply below_drew1 | refine below_set ?_ GE101.out) | exact HB.out)⟩
end Go.Proofs.Ytjlgbgkpiganbaa.P
namespace Go.Proofs.Ytjlgbgkpiganbaa.P
open Go.RowKit Go.Proofs.YtjlgbgkpiganbaaW.PrintWords Go.Proofs.YtjlgbgkpiganbaaW.PrintLast Go.Proofs.YtjlgbgkpiganbaaW.PrintMore
attribute [local go_sem] max2_int min2_int max_two min_two max_three min_three max_four min_four
set_option linter.unusedVariables false
set_option linter.unusedSimpArgs false
def bellwetherlaw05_great.l0 : Nat → List (S68) → Int → Option (Bool)
  | 0, _, _ => none
  | k + 1, x0, x3 => if x3 < (x0.length : Int) then (if 0 ≤ x3 then ((bellwetherref05_Great.f k ((rd_T68 x0 x3).f0) ((rd_T68 x0 x3).f1) ((rd_T68 x0 x3).f2)).bind fun t102 => (if t102 = true then (some true) else (bellwetherlaw05_great.l0 k x0 (wrap64 (x3 + 1))))) else (none)) else (some false)
def bellwetherlaw05_great.f (k : Nat) (l0 : List (S68)) : Option (Bool) := bellwetherlaw05_great.l0 k l0 0
theorem bellwetherlaw05_great.mono_l : ∀ k, (∀ y0 y1, LeO (bellwetherlaw05_great.l0 k y0 y1) (bellwetherlaw05_great.l0 (k + 1) y0 y1))
  | 0 => fun _ _ r h => by simp [bellwetherlaw05_great.l0] at h
  | k + 1 => by
    have ih0 := bellwetherlaw05_great.mono_l k
    · intro y0 y1
      unfold bellwetherlaw05_great.l0
      repeat' first
      | (with_reducible exact ih0 _ _)
      | (with_reducible exact bellwetherref05_Great.mono _ _ _ _)
      | (with_reducible exact LeO.refl _)
      | (with_reducible exact LeO.none _)
      | (with_reducible refine LeO.ite ?_ ?_)
      | (with_reducible refine LeO.bind ?_ (fun _ => ?_))
      | exact ih0 _ _
      | exact bellwetherref05_Great.mono _ _ _ _
      | exact LeO.none _
      | refine LeO.ite ?_ ?_
      | refine LeO.bind ?_ (fun _ => ?_)
theorem bellwetherlaw05_great.mono : ∀ a0 k, LeO (bellwetherlaw05_great.f k a0) (bellwetherlaw05_great.f (k + 1) a0) := by
  intro a0 k
  have ih0 := bellwetherlaw05_great.mono_l k
  unfold bellwetherlaw05_great.f
  repeat' first
      | (with_reducible exact ih0 _ _)
      | (with_reducible exact bellwetherref05_Great.mono _ _ _ _)
      | (with_reducible exact LeO.refl _)
      | (with_reducible exact LeO.none _)
      | (with_reducible refine LeO.ite ?_ ?_)
      | (with_reducible refine LeO.bind ?_ (fun _ => ?_))
      | exact ih0 _ _
      | exact bellwetherref05_Great.mono _ _ _ _
      | exact LeO.none _
      | refine LeO.ite ?_ ?_
      | refine LeO.bind ?_ (fun _ => ?_)
set_option maxHeartbeats 8000000 in
set_option maxRecDepth 100000 in
theorem bellwetherlaw05_great.calls (k : Nat) (A0 : Option Addr) (c0 : Nat) (l0 : List (S68)) (r : Bool) (w : World) (hr0 : Kd.C k68 w A0 l0.length l0) (hc0 : l0.length ≤ c0) (h : bellwetherlaw05_great.f k l0 = some r) :
    Calls Try.prog 68 #[.slice A0 l0.length c0] w fun e w' => e = .returned (.bool r) ∧ Below w.heap.size w w' := by
  have hu68 := Try.underlying68
  have HR0 := Aside0.mk hr0
  have HC0 := Aside0.mk hc0
  clear hr0 hc0
  have HB := Aside0.mk (Below.refl w.heap.size w)
  have H : (bellwetherlaw05_great.l0 k l0 0) = some r := h
  clear h
  have H' := Aside0.mk H
  clear H
  go_enter Try.func68, Try.ntmps68
  go_wp2
  go_loopg [3] k (fun kq v3 w' => ∃ (x3_1 : Int), v3 = .int .i64 x3_1 ∧ Aside0 (bellwetherlaw05_great.l0 kq l0 x3_1 = some r) ∧ Aside0 (kq ≤ k) ∧ Aside0 (Below w.heap.size w w'))
  case atStart => exact ⟨(0), (by first | rfl | (simp; done) | (simp [*]; done)), H', ⟨Nat.le_refl _⟩, ⟨by repeat (first | (with_reducible first | exact HB.out | apply below_alloc | apply pw_below_drewN | apply below_drew1) | exact HB.out)⟩⟩
  case round =>
    clear H'
    obtain ⟨x3_1, rfl, HA, HK1, HB⟩ := hrel
    cases gk with
    | zero => exact absurd HA.out (by simp [bellwetherlaw05_great.l0])
    | succ k1 =>
      have H := HA.out
      clear HA
      simp only [bellwetherlaw05_great.l0] at H
      by_cases c2 : x3_1 < (l0.length : Int)
      · rw [if_pos c2] at H
        have c2b0 : decide (x3_1 < (l0.length : Int)) = true := decide_eq_true c2
        clear c2
        by_cases c3 : 0 ≤ x3_1
        · rw [if_pos c3] at H
          have c3b0 : decide (0 ≤ x3_1) = true := decide_eq_true c3
          clear c3
          replace H := Option.bind_eq_some_iff.mp H
          obtain ⟨t102, A40, H⟩ := H
          replace H : (if t102 = true then (some true) else (bellwetherlaw05_great.l0 k1 l0 (wrap64 (x3_1 + 1)))) = some r := H
          have A4 := Aside0.mk A40
          clear A40
          by_cases c5 : t102 = true
          · subst c5
            have H1 : (some true) = some r := by rw [if_pos rfl] at H; exact H
            clear H
            have H := H1
            clear H1
            obtain rfl := Option.some.inj H
            have p101 : 0 ≤ (x3_1 : Int) := of_decide_eq_true (by first | (with_reducible assumption) | assumption)
            have q101 : x3_1 < (l0.length : Int) := of_decide_eq_true (by first | (with_reducible assumption) | assumption)
            obtain ⟨ad101, A101_2, c101_2, e101, hx101_0, hx101_1, hx101_2, hl101_2, hi101_2⟩ := at_T68 HR0.out x3_1 p101 q101
            cases e101
            replace hx101_0 := (HB.out.cell (World.block_lt_of_cell? w _ hx101_0)).trans hx101_0
            replace hx101_1 := (HB.out.cell (World.block_lt_of_cell? w _ hx101_1)).trans hx101_1
            replace hx101_2 := (HB.out.cell (World.block_lt_of_cell? w _ hx101_2)).trans hx101_2
            have HR101_2 := Aside0.mk hi101_2
            have HC101_2 := Aside0.mk hl101_2
            clear hi101_2 hl101_2
            replace p101 := eq_true p101
            replace q101 := eq_true q101
            go_wp2_with (first | ((with_reducible refine gate_callee (f := 119) rfl ?_); refine goesL_ (some 14) rfl rfl Try.func119 (by kernel_rfl) rfl #[.agg #[.int .i64 ((rd_T68 l0 x3_1).f0), .int .i64 ((rd_T68 l0 x3_1).f1), .slice A101_2 ((rd_T68 l0 x3_1).f2).length c101_2]] rfl (by (try simp only [List.map_toArray, List.map_cons, List.map_nil]); first | done | rfl | (simp only [List.length_drop, List.length_take]; rfl)) ?_; (with_reducible refine (bellwetherref05_Great.calls k1 ((rd_T68 l0 x3_1).f0) ((rd_T68 l0 x3_1).f1) _ _ ((rd_T68 l0 x3_1).f2) true _ ?side1 ?side2 A4.out).mono ?_); (case side1 => repeat (first | exact (Kd.C_below HR101_2.out HB.out) | (with_reducible refine Kd.C_alloc ?_ _) | (with_reducible refine Kd.C_drewN ?_ _) | (with_reducible refine Kd.C_drew ?_))); (case side2 => exact HC101_2.out); rintro e w6 ⟨rfl, hb⟩; refine ⟨_, rfl, ?_⟩; have n0_ := Aside0.mk (below_step (by repeat (first | (with_reducible first | exact HB.out | apply below_alloc | apply pw_below_drewN | apply below_drew1) | exact HB.out)) hb); clear HB; have HB := n0_; clear n0_; (try clear hb); (try clear hb2); (try clear hk); (try clear hi)))
            go_ret
            exact ⟨by first | rfl | (simp [errW_none, errW_some] <;> rfl) | (simp [*, errW_none, errW_some] <;> rfl), by repeat (first | (with_reducible first | exact HB.out | apply below_alloc | apply pw_below_drewN | apply below_drew1) | exact HB.out)⟩
          · replace c5 := Bool.eq_false_iff.mpr c5
            subst c5
            have H1 : (bellwetherlaw05_great.l0 k1 l0 (wrap64 (x3_1 + 1))) = some r := by rw [if_neg (show ¬ (false = true) by decide)] at H; exact H
            clear H
            have H := H1
            clear H1
            have H' := Aside0.mk H
            clear H
            have p101 : 0 ≤ (x3_1 : Int) := of_decide_eq_true (by first | (with_reducible assumption) | assumption)
            have q101 : x3_1 < (l0.length : Int) := of_decide_eq_true (by first | (with_reducible assumption) | assumption)
            obtain ⟨ad101, A101_2, c101_2, e101, hx101_0, hx101_1, hx101_2, hl101_2, hi101_2⟩ := at_T68 HR0.out x3_1 p101 q101
            cases e101
            replace hx101_0 := (HB.out.cell (World.block_lt_of_cell? w _ hx101_0)).trans hx101_0
            replace hx101_1 := (HB.out.cell (World.block_lt_of_cell? w _ hx101_1)).trans hx101_1
            replace hx101_2 := (HB.out.cell (World.block_lt_of_cell? w _ hx101_2)).trans hx101_2
            have HR101_2 := Aside0.mk hi101_2
            have HC101_2 := Aside0.mk hl101_2
            clear hi101_2 hl101_2
            replace p101 := eq_true p101
            replace q101 := eq_true q101
            go_wp2_with (first | ((with_reducible refine gate_callee (f := 119) rfl ?_); refine goesL_ (some 14) rfl rfl Try.func119 (by kernel_rfl) rfl #[.agg #[.int .i64 ((rd_T68 l0 x3_1).f0), .int .i64 ((rd_T68 l0 x3_1).f1), .slice A101_2 ((rd_T68 l0 x3_1).f2).length c101_2]] rfl (by (try simp only [List.map_toArray, List.map_cons, List.map_nil]); first | done | rfl | (simp only [List.length_drop, List.length_take]; rfl)) ?_; (with_reducible refine (bellwetherref05_Great.calls k1 ((rd_T68 l0 x3_1).f0) ((rd_T68 l0 x3_1).f1) _ _ ((rd_T68 l0 x3_1).f2) false _ ?side1 ?side2 A4.out).mono ?_); (case side1 => repeat (first | exact (Kd.C_below HR101_2.out HB.out) | (with_reducible refine Kd.C_alloc ?_ _) | (with_reducible refine Kd.C_drewN ?_ _) | (with_reducible refine Kd.C_drew ?_))); (case side2 => exact HC101_2.out); rintro e w7 ⟨rfl, hb⟩; refine ⟨_, rfl, ?_⟩; have n0_ := Aside0.mk (below_step (by repeat (first | (with_reducible first | exact HB.out | apply below_alloc | apply pw_below_drewN | apply below_drew1) | exact HB.out)) hb); clear HB; have HB := n0_; clear n0_; (try clear hb); (try clear hb2); (try clear hk); (try clear hi)))
            go_roundg k1
            case measure => have := HK1.out; omega
            case rel => exact ⟨(wrap64 (x3_1 + 1)), (by first | rfl | (simp; done) | (simp [*]; done)), H', ⟨by have := HK1.out; omega⟩, ⟨by repeat (first | (with_reducible first | exact HB.out | apply below_alloc | apply pw_below_drewN | apply below_drew1) | exact HB.out)⟩⟩
        · rw [if_neg c3] at H
          exact absurd H (by simp)
      · rw [if_neg c2] at H
        have c2b0 : decide (x3_1 < (l0.length : Int)) = false := decide_eq_false c2
        clear c2
        obtain rfl := Option.some.inj H
        go_wp2
        go_ret
        exact ⟨by first | rfl | (simp [errW_none, errW_some] <;> rfl) | (simp [*, errW_none, errW_some] <;> rfl), by repeat (first | (with_reducible first | exact HB.out | apply below_alloc | apply pw_below_drewN | apply below_drew1) | exact HB.out)⟩
end Go.Proofs.Ytjlgbgkpiganbaa.P
namespace Go.Proofs.Ytjlgbgkpiganbaa.P
open Go.RowKit Go.Proofs.YtjlgbgkpiganbaaW.PrintWords Go.Proofs.YtjlgbgkpiganbaaW.PrintLast Go.Proofs.YtjlgbgkpiganbaaW.PrintMore
attribute [local go_sem] max2_int min2_int max_two min_two max_three min_three max_four min_four
set_option linter.unusedVariables false
set_option linter.unusedSimpArgs false
def state_Copy.f (a0_0 : Int) (a0_1 : Int) (l0_2 : List (S152)) : Option (Int × Int × (List (S152))) := (x185.f l0_2).bind fun t103 => (some (a0_0, a0_1, t103))
set_option maxHeartbeats 8000000 in
set_option maxRecDepth 100000 in
theorem state_Copy.calls (a0_0 : Int) (a0_1 : Int) (A0_2 : Option Addr) (c0_2 : Nat) (l0_2 : List (S152)) (r1 : Int) (r2 : Int) (r3 : List (S152)) (w : World) (hr0_2 : Kd.C k152 w A0_2 l0_2.length l0_2) (hc0_2 : l0_2.length ≤ c0_2) (h : state_Copy.f a0_0 a0_1 l0_2 = some (r1, r2, r3)) :
    Calls Try.prog 129 #[.agg #[.int .i64 a0_0, .int .i64 a0_1, .slice A0_2 l0_2.length c0_2]] w fun e w' => ∃ v2_ : Value, e = .returned (.agg #[.int .i64 r1, .int .i64 r2, v2_]) ∧ Kd.R k152 152 w' w.heap.size (fun _ => True) v2_ r3 ∧ Below w.heap.size w w' := by
  have hu68 := Try.underlying68
  have HR0_2 := Aside0.mk hr0_2
  have HC0_2 := Aside0.mk hc0_2
  clear hr0_2 hc0_2
  have HB := Aside0.mk (Below.refl w.heap.size w)
  have H : ((x185.f l0_2).bind fun t103 => (some (a0_0, a0_1, t103))) = some (r1, r2, r3) := h
  clear h
  replace H := Option.bind_eq_some_iff.mp H
  obtain ⟨t103, A20, H⟩ := H
  replace H : (some (a0_0, a0_1, t103)) = some (r1, r2, r3) := H
  have A2 := Aside0.mk A20
  clear A20
  simp only [Option.some.injEq, Prod.mk.injEq] at H
  obtain ⟨rfl, rfl, rfl⟩ := H
  go_enter Try.func129, Try.ntmps129
  go_wp2_with (first | ((with_reducible refine gate_dst (N := 1) rfl ?_); refine box_event ?hg (N := 1) ?hd (cs := #[.int .i64 a0_0, .int .i64 a0_1, .slice A0_2 l0_2.length c0_2]) (t := 68) ?hr ?_; (case hd => rfl); (case hg => rfl); (case hr => first | (go_simp; done) | (go_simp; rfl)); intro gb101 hg w3 hbox hb; have n0_ := Aside0.mk (below_step (by repeat (first | (with_reducible first | exact HB.out | apply below_alloc | apply pw_below_drewN | apply below_drew1) | exact HB.out)) hb); have n1_ := Aside0.mk (hbox); have n2_ := Aside0.mk ((by rw [hg]; exact (below_size (by repeat (first | (with_reducible first | exact HB.out | apply below_alloc | apply pw_below_drewN | apply below_drew1) | exact HB.out))) : w.heap.size ≤ gb101)); have n3_ := Aside0.mk ((by rw [hg]; exact (below_size (by repeat (first | (with_reducible first | exact HB.out | apply below_alloc | apply pw_below_drewN | apply below_drew1) | exact HB.out))) : w.heap.size ≤ gb101)); clear HB; have HB := n0_; have BK101 := n1_; have GW101 := n2_; have GE101 := n3_; clear n0_ n1_ n2_ n3_; clear hb hbox hg) | ((with_reducible refine gate_dst (N := 2) rfl ?_); refine box_event ?hg (N := 2) ?hd (cs := #[.int .i64 0, .int .i64 0, .slice none 0 0]) (t := 68) ?hr ?_; (case hd => rfl); (case hg => rfl); (case hr => first | (go_simp; done) | (go_simp; rfl)); intro gb102 hg w4 hbox hb; have n0_ := Aside0.mk (blk_below (g := gb101) (o := .cells #[.int .i64 a0_0, .int .i64 a0_1, .slice A0_2 l0_2.length c0_2] 68 (0, 0)) (by (with_reducible repeat (first | refine blk_drewN ?_ _ | refine blk_drew ?_ | refine blk_alloc ?_ _)); exact BK101.out) hb); have n1_ := Aside0.mk (below_step (by repeat (first | (with_reducible first | exact HB.out | apply below_alloc | apply pw_below_drewN | apply below_drew1 | refine below_set ?_ GE101.out) | exact HB.out)) hb); have n2_ := Aside0.mk (hbox); have n3_ := Aside0.mk ((by rw [hg]; exact (below_size (by repeat (first | (with_reducible first | exact HB.out | apply below_alloc | apply pw_below_drewN | apply below_drew1 | refine below_set ?_ GE101.out) | exact HB.out))) : w.heap.size ≤ gb102)); have n4_ := Aside0.mk ((by rw [hg]; exact (below_size (by repeat (first | (with_reducible first | exact HB.out | apply below_alloc | apply pw_below_drewN | apply below_drew1 | refine below_set ?_ GE101.out) | exact HB.out))) : w.heap.size ≤ gb102)); have n5_ := Aside0.mk ((by rw [hg]; exact Nat.ne_of_lt (blk_lt (g := gb101) (o := .cells #[.int .i64 a0_0, .int .i64 a0_1, .slice A0_2 l0_2.length c0_2] 68 (0, 0)) (by (with_reducible repeat (first | refine blk_drewN ?_ _ | refine blk_drew ?_ | refine blk_alloc ?_ _)); exact BK101.out)) : gb101 ≠ gb102)); have n6_ := Aside0.mk ((by rw [hg]; exact Nat.ne_of_gt (blk_lt (g := gb101) (o := .cells #[.int .i64 a0_0, .int .i64 a0_1, .slice A0_2 l0_2.length c0_2] 68 (0, 0)) (by (with_reducible repeat (first | refine blk_drewN ?_ _ | refine blk_drew ?_ | refine blk_alloc ?_ _)); exact BK101.out)) : gb102 ≠ gb101)); clear BK101; clear HB; have BK101 := n0_; have HB := n1_; have BK102 := n2_; have GW102 := n3_; have GE102 := n4_; have NB101_102 := n5_; have NB102_101 := n6_; clear n0_ n1_ n2_ n3_ n4_ n5_ n6_; clear hb hbox hg; have hnb5 := NB101_102.out; have hnc5 := NB102_101.out; have hcz6_0 : w4.cell? ⟨gb101, 0, none⟩ = some (.int .i64 a0_0) := (blk_cell BK101.out 0).trans rfl; have hcz6_1 : w4.cell? ⟨gb101, 1, none⟩ = some (.int .i64 a0_1) := (blk_cell BK101.out 1).trans rfl; have hcz6_2 : w4.cell? ⟨gb101, 2, none⟩ = some (.slice A0_2 l0_2.length c0_2) := (blk_cell BK101.out 2).trans rfl; have hfz6_0 := blk_frozen BK101.out 0; have hfz6_1 := blk_frozen BK101.out 1; have hfz6_2 := blk_frozen BK101.out 2) | ((with_reducible refine gate_callee (f := 185) rfl ?_); refine goesL_ (some 5) rfl rfl Try.func185 (by kernel_rfl) rfl #[.slice A0_2 l0_2.length c0_2] rfl (by (try simp only [List.map_toArray, List.map_cons, List.map_nil]); first | done | rfl | (simp only [List.length_drop, List.length_take]; rfl)) ?_; (with_reducible refine (x185.calls _ _ l0_2 t103 _ ?side1 ?side2 A2.out).mono ?_); (case side1 => repeat (first | exact (Kd.C_below HR0_2.out HB.out) | (with_reducible refine Kd.C_alloc ?_ _) | (with_reducible refine Kd.C_drewN ?_ _) | (with_reducible refine Kd.C_drew ?_))); (case side2 => exact HC0_2.out); rintro e w7 ⟨v104, rfl, ho0, hb⟩; refine ⟨_, rfl, ?_⟩; have n0_ := Aside0.mk (Kd.R_lower ho0 (below_size (by repeat (first | (with_reducible first | exact HB.out | apply below_alloc | apply pw_below_drewN | apply below_drew1 | refine below_set ?_ GE101.out | refine below_set ?_ GE102.out) | exact HB.out)))); have n1_ := Aside0.mk (blk_below (g := gb101) (o := .cells #[.int .i64 a0_0, .int .i64 a0_1, .slice A0_2 l0_2.length c0_2] 68 (0, 0)) (by (with_reducible repeat (first | refine blk_drewN ?_ _ | refine blk_drew ?_ | refine blk_alloc ?_ _)); exact BK101.out) hb); have n2_ := Aside0.mk (blk_below (g := gb102) (o := .cells #[.int .i64 0, .int .i64 0, .slice none 0 0] 68 (0, 0)) (by (with_reducible repeat (first | refine blk_drewN ?_ _ | refine blk_drew ?_ | refine blk_alloc ?_ _)); exact BK102.out) hb); have n3_ := Aside0.mk (below_step (by repeat (first | (with_reducible first | exact HB.out | apply below_alloc | apply pw_below_drewN | apply below_drew1 | refine below_set ?_ GE101.out | refine below_set ?_ GE102.out) | exact HB.out)) hb); clear BK101; clear BK102; clear HB; have HO105 := n0_; have BK101 := n1_; have BK102 := n2_; have HB := n3_; clear n0_ n1_ n2_ n3_; (try clear hb); (try clear hb2); (try clear hk); (try clear hi); (try clear ho0); obtain ⟨Ao8, co8, eo8⟩ := Kd.R_slice HO105.out; subst eo8; have hcz9_0 : w7.cell? ⟨gb101, 0, none⟩ = some (.int .i64 a0_0) := (blk_cell BK101.out 0).trans rfl; have hcz9_1 : w7.cell? ⟨gb101, 1, none⟩ = some (.int .i64 a0_1) := (blk_cell BK101.out 1).trans rfl; have hcz9_2 : w7.cell? ⟨gb101, 2, none⟩ = some (.slice A0_2 l0_2.length c0_2) := (blk_cell BK101.out 2).trans rfl; have hfz9_0 := blk_frozen BK101.out 0; have hfz9_1 := blk_frozen BK101.out 1; have hfz9_2 := blk_frozen BK101.out 2; have hcz10_0 : w7.cell? ⟨gb102, 0, none⟩ = some (.int .i64 0) := (blk_cell BK102.out 0).trans rfl; have hcz10_1 : w7.cell? ⟨gb102, 1, none⟩ = some (.int .i64 0) := (blk_cell BK102.out 1).trans rfl; have hcz10_2 : w7.cell? ⟨gb102, 2, none⟩ = some (.slice none 0 0) := (blk_cell BK102.out 2).trans rfl; have hfz10_0 := blk_frozen BK102.out 0; have hfz10_1 := blk_frozen BK102.out 1; have hfz10_2 := blk_frozen BK102.out 2))
  refine bodyPost_ret (results_cell_row rfl _ _ gb102 68 #[.int .i64 a0_0, .int .i64 a0_1, .slice Ao8 t103.length co8] (0, 0) _ rfl (by (with_reducible repeat (first | refine blk_drewN ?_ _ | refine blk_drew ?_ | refine blk_alloc ?_ _)); refine blk_put (cs := #[.int .i64 a0_0, .int .i64 a0_1, .slice none 0 0]) ?_ 2 _ rfl; (with_reducible repeat (first | refine blk_drewN ?_ _ | refine blk_drew ?_ | refine blk_alloc ?_ _)); refine blk_put (cs := #[.int .i64 a0_0, .int .i64 0, .slice none 0 0]) ?_ 1 _ rfl; (with_reducible repeat (first | refine blk_drewN ?_ _ | refine blk_drew ?_ | refine blk_alloc ?_ _)); refine blk_put (cs := #[.int .i64 0, .int .i64 0, .slice none 0 0]) ?_ 0 _ rfl; (with_reducible repeat (first | refine blk_drewN ?_ _ | refine blk_drew ?_ | refine blk_alloc ?_ _)); refine blk_far ?_ NB102_101.out _; (with_reducible repeat (first | refine blk_drewN ?_ _ | refine blk_drew ?_ | refine blk_alloc ?_ _)); exact BK102.out) Try.underlying68 rfl (by kernel_rfl)) rfl ?_
  exact ⟨_, by first | rfl | (simp [errW_none, errW_some] <;> rfl) | (simp [*, errW_none, errW_some] <;> rfl), by (with_reducible repeat (first | apply Kd.R_alloc | apply Kd.R_drewN | apply Kd.R_drew)); exact Kd.R_mono (Kd.R_far (p := ⟨gb102, 2, none⟩) (Kd.R_far (p := ⟨gb102, 1, none⟩) (Kd.R_far (p := ⟨gb102, 0, none⟩) (Kd.R_far (p := ⟨gb101, 2, none⟩) (Kd.R_types (Kd.R_types HO105.out BK101.out (by decide)) BK102.out (by decide)) (fun _ hk => hk.1.2) (.slice Ao8 t103.length co8)) (fun _ hk => hk.2) (.int .i64 a0_0)) (fun _ hk => hk.2) (.int .i64 a0_1)) (fun _ hk => hk.2) (.slice Ao8 t103.length co8)) (fun _ hk => trivial), by repeat (first | (with_reducible first | exact HB.out | apply below_alloc | apply pw_below_drewN | apply below_drew1 | refine below_set ?_ GE101.out | refine below_set ?_ GE102.out) | exact HB.out)⟩
end Go.Proofs.Ytjlgbgkpiganbaa.P
