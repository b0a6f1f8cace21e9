/-
  Parts: P69, Z1, Z2, Z3, P189 (brought together by wip/pack.py; W..: words printed by the kit's print.sh; P..: printed by wip/xp.py).
-/
import Derived.Test.YtjlgbgkpiganbaaCSL02
import Derived.Test.YtjlgbgkpiganbaaCSL03
import Derived.Test.YtjlgbgkpiganbaaCSL05
import Derived.Test.YtjlgbgkpiganbaaCSL06
import Derived.Test.YtjlgbgkpiganbaaCSL10
import Derived.Test.YtjlgbgkpiganbaaCSL12
namespace Go.Proofs.Ytjlgbgkpiganbaa.P
open Go.RowKit Go.Proofs.YtjlgbgkpiganbaaW.PrintWords Go.Proofs.YtjlgbgkpiganbaaW.PrintLast Go.Proofs.YtjlgbgkpiganbaaW.PrintMore
attribute [local go_sem] max2_int min2_int max_two min_two max_three min_three max_four min_four
set_option linter.unusedVariables false
set_option linter.unusedSimpArgs false
def bellwetherref05_Right.f (k : Nat) (a0_0 : Int) (a0_1 : Int) (l0_2 : List (S152)) : Option (Bool) := if a0_0 ≥ 1 then (if a0_0 ≤ 1099511627776 then (if a0_1 ≥ 0 then (if a0_1 ≤ 1099511627776 then ((bellwetherref04_Right.f k l0_2).bind fun t102 => (some t102)) else (some false)) else (some false)) else (some false)) else (some false)
theorem bellwetherref05_Right.mono : ∀ a0 a1 a2 k, LeO (bellwetherref05_Right.f k a0 a1 a2) (bellwetherref05_Right.f (k + 1) a0 a1 a2) := by
  intro a0 a1 a2 k
  unfold bellwetherref05_Right.f
  repeat' first
      | (with_reducible exact bellwetherref04_Right.mono _ _)
      | (with_reducible exact LeO.refl _)
      | (with_reducible exact LeO.none _)
      | (with_reducible refine LeO.ite ?_ ?_)
      | (with_reducible refine LeO.bind ?_ (fun _ => ?_))
      | exact bellwetherref04_Right.mono _ _
      | exact LeO.none _
      | refine LeO.ite ?_ ?_
      | refine LeO.bind ?_ (fun _ => ?_)
set_option maxHeartbeats 8000000 in
set_option maxRecDepth 100000 in
theorem bellwetherref05_Right.calls (k : Nat) (a0_0 : Int) (a0_1 : Int) (A0_2 : Option Addr) (c0_2 : Nat) (l0_2 : List (S152)) (r : Bool) (w : World) (hr0_2 : Kd.C k152 w A0_2 l0_2.length l0_2) (hc0_2 : l0_2.length ≤ c0_2) (h : bellwetherref05_Right.f k a0_0 a0_1 l0_2 = some r) :
    Calls Try.prog 69 #[.agg #[.int .i64 a0_0, .int .i64 a0_1, .slice A0_2 l0_2.length c0_2]] w fun e w' => e = .returned (.bool r) ∧ Below w.heap.size w w' := by
  have hu68 := Try.underlying68
  have HR0_2 := Aside0.mk hr0_2
  have HC0_2 := Aside0.mk hc0_2
  clear hr0_2 hc0_2
  have HB := Aside0.mk (Below.refl w.heap.size w)
  have H : (if a0_0 ≥ 1 then (if a0_0 ≤ 1099511627776 then (if a0_1 ≥ 0 then (if a0_1 ≤ 1099511627776 then ((bellwetherref04_Right.f k l0_2).bind fun t102 => (some t102)) else (some false)) else (some false)) else (some false)) else (some false)) = some r := h
  clear h
  by_cases c2 : a0_0 ≥ 1
  · rw [if_pos c2] at H
    have c2b0 : decide (1 ≤ a0_0) = true := decide_eq_true c2
    clear c2
    by_cases c3 : a0_0 ≤ 1099511627776
    · rw [if_pos c3] at H
      have c3b0 : decide (a0_0 ≤ 1099511627776) = true := decide_eq_true c3
      clear c3
      by_cases c4 : a0_1 ≥ 0
      · rw [if_pos c4] at H
        have c4b0 : decide (0 ≤ a0_1) = true := decide_eq_true c4
        clear c4
        by_cases c5 : a0_1 ≤ 1099511627776
        · rw [if_pos c5] at H
          have c5b0 : decide (a0_1 ≤ 1099511627776) = true := decide_eq_true c5
          clear c5
          replace H := Option.bind_eq_some_iff.mp H
          obtain ⟨t102, A60, H⟩ := H
          replace H : (some t102) = some r := H
          have A6 := Aside0.mk A60
          clear A60
          obtain rfl := Option.some.inj H
          go_enter Try.func69, Try.ntmps69
          go_wp2_with (first | ((with_reducible refine gate_dst (N := 1) rfl ?_); refine box_event ?hg (N := 1) ?hd (cs := #[.int .i64 a0_0, .int .i64 a0_1, .slice A0_2 l0_2.length c0_2]) (t := 68) ?hr ?_; (case hd => rfl); (case hg => rfl); (case hr => first | (go_simp; done) | (go_simp; rfl)); intro gb101 hg w7 hbox hb; have n0_ := Aside0.mk (below_step (by repeat (first | (with_reducible first | exact HB.out | apply below_alloc | apply pw_below_drewN | apply below_drew1) | exact HB.out)) hb); have n1_ := Aside0.mk (hbox); have n2_ := Aside0.mk ((by rw [hg]; exact (below_size (by repeat (first | (with_reducible first | exact HB.out | apply below_alloc | apply pw_below_drewN | apply below_drew1) | exact HB.out))) : w.heap.size ≤ gb101)); have n3_ := Aside0.mk ((by rw [hg]; exact (below_size (by repeat (first | (with_reducible first | exact HB.out | apply below_alloc | apply pw_below_drewN | apply below_drew1) | exact HB.out))) : w.heap.size ≤ gb101)); clear HB; have HB := n0_; have BK101 := n1_; have GW101 := n2_; have GE101 := n3_; clear n0_ n1_ n2_ n3_; clear hb hbox hg; have hcz8_0 : w7.cell? ⟨gb101, 0, none⟩ = some (.int .i64 a0_0) := (blk_cell BK101.out 0).trans rfl; have hcz8_1 : w7.cell? ⟨gb101, 1, none⟩ = some (.int .i64 a0_1) := (blk_cell BK101.out 1).trans rfl; have hcz8_2 : w7.cell? ⟨gb101, 2, none⟩ = some (.slice A0_2 l0_2.length c0_2) := (blk_cell BK101.out 2).trans rfl; have hfz8_0 := blk_frozen BK101.out 0; have hfz8_1 := blk_frozen BK101.out 1; have hfz8_2 := blk_frozen BK101.out 2) | (go_at_call 137; (with_reducible refine (bellwetherref04_Right.calls k _ _ l0_2 t102 _ ?side1 ?side2 A6.out).mono ?_); (case side1 => repeat (first | exact (Kd.C_below HR0_2.out HB.out) | (with_reducible refine Kd.C_alloc ?_ _) | (with_reducible refine Kd.C_drewN ?_ _) | (with_reducible refine Kd.C_drew ?_))); (case side2 => exact HC0_2.out); rintro e w9 ⟨rfl, hb⟩; have n0_ := Aside0.mk (blk_below (g := gb101) (o := .cells #[.int .i64 a0_0, .int .i64 a0_1, .slice A0_2 l0_2.length c0_2] 68 (0, 0)) (by (with_reducible repeat (first | refine blk_drewN ?_ _ | refine blk_drew ?_ | refine blk_alloc ?_ _)); exact BK101.out) hb); have n1_ := Aside0.mk (below_step (by repeat (first | (with_reducible first | exact HB.out | apply below_alloc | apply pw_below_drewN | apply below_drew1 | refine below_set ?_ GE101.out) | exact HB.out)) hb); clear BK101; clear HB; have BK101 := n0_; have HB := n1_; clear n0_ n1_; (try clear hb); (try clear hb2); (try clear hk); (try clear hi)))
          go_ret
          exact ⟨by first | rfl | (simp [errW_none, errW_some] <;> rfl) | (simp [*, errW_none, errW_some] <;> rfl), by repeat (first | (with_reducible first | exact HB.out | apply below_alloc | apply pw_below_drewN | apply below_drew1 | refine below_set ?_ GE101.out) | exact HB.out)⟩
        · rw [if_neg c5] at H
          have c5b0 : decide (a0_1 ≤ 1099511627776) = false := decide_eq_false c5
          clear c5
          obtain rfl := Option.some.inj H
          go_enter Try.func69, Try.ntmps69
          go_wp2_with (first | ((with_reducible refine gate_dst (N := 1) rfl ?_); refine box_event ?hg (N := 1) ?hd (cs := #[.int .i64 a0_0, .int .i64 a0_1, .slice A0_2 l0_2.length c0_2]) (t := 68) ?hr ?_; (case hd => rfl); (case hg => rfl); (case hr => first | (go_simp; done) | (go_simp; rfl)); intro gb101 hg w10 hbox hb; have n0_ := Aside0.mk (below_step (by repeat (first | (with_reducible first | exact HB.out | apply below_alloc | apply pw_below_drewN | apply below_drew1) | exact HB.out)) hb); have n1_ := Aside0.mk (hbox); have n2_ := Aside0.mk ((by rw [hg]; exact (below_size (by repeat (first | (with_reducible first | exact HB.out | apply below_alloc | apply pw_below_drewN | apply below_drew1) | exact HB.out))) : w.heap.size ≤ gb101)); have n3_ := Aside0.mk ((by rw [hg]; exact (below_size (by repeat (first | (with_reducible first | exact HB.out | apply below_alloc | apply pw_below_drewN | apply below_drew1) | exact HB.out))) : w.heap.size ≤ gb101)); clear HB; have HB := n0_; have BK101 := n1_; have GW101 := n2_; have GE101 := n3_; clear n0_ n1_ n2_ n3_; clear hb hbox hg; have hcz11_0 : w10.cell? ⟨gb101, 0, none⟩ = some (.int .i64 a0_0) := (blk_cell BK101.out 0).trans rfl; have hcz11_1 : w10.cell? ⟨gb101, 1, none⟩ = some (.int .i64 a0_1) := (blk_cell BK101.out 1).trans rfl; have hcz11_2 : w10.cell? ⟨gb101, 2, none⟩ = some (.slice A0_2 l0_2.length c0_2) := (blk_cell BK101.out 2).trans rfl; have hfz11_0 := blk_frozen BK101.out 0; have hfz11_1 := blk_frozen BK101.out 1; have hfz11_2 := blk_frozen BK101.out 2))
          go_ret
          exact ⟨by first | rfl | (simp [errW_none, errW_some] <;> rfl) | (simp [*, errW_none, errW_some] <;> rfl), by repeat (first | (with_reducible first | exact HB.out | apply below_alloc | apply pw_below_drewN | apply below_drew1 | refine below_set ?_ GE101.out) | exact HB.out)⟩
      · rw [if_neg c4] at H
        have c4b0 : decide (0 ≤ a0_1) = false := decide_eq_false c4
        clear c4
        obtain rfl := Option.some.inj H
        go_enter Try.func69, Try.ntmps69
        go_wp2_with (first | ((with_reducible refine gate_dst (N := 1) rfl ?_); refine box_event ?hg (N := 1) ?hd (cs := #[.int .i64 a0_0, .int .i64 a0_1, .slice A0_2 l0_2.length c0_2]) (t := 68) ?hr ?_; (case hd => rfl); (case hg => rfl); (case hr => first | (go_simp; done) | (go_simp; rfl)); intro gb101 hg w12 hbox hb; have n0_ := Aside0.mk (below_step (by repeat (first | (with_reducible first | exact HB.out | apply below_alloc | apply pw_below_drewN | apply below_drew1) | exact HB.out)) hb); have n1_ := Aside0.mk (hbox); have n2_ := Aside0.mk ((by rw [hg]; exact (below_size (by repeat (first | (with_reducible first | exact HB.out | apply below_alloc | apply pw_below_drewN | apply below_drew1) | exact HB.out))) : w.heap.size ≤ gb101)); have n3_ := Aside0.mk ((by rw [hg]; exact (below_size (by repeat (first | (with_reducible first | exact HB.out | apply below_alloc | apply pw_below_drewN | apply below_drew1) | exact HB.out))) : w.heap.size ≤ gb101)); clear HB; have HB := n0_; have BK101 := n1_; have GW101 := n2_; have GE101 := n3_; clear n0_ n1_ n2_ n3_; clear hb hbox hg; have hcz13_0 : w12.cell? ⟨gb101, 0, none⟩ = some (.int .i64 a0_0) := (blk_cell BK101.out 0).trans rfl; have hcz13_1 : w12.cell? ⟨gb101, 1, none⟩ = some (.int .i64 a0_1) := (blk_cell BK101.out 1).trans rfl; have hcz13_2 : w12.cell? ⟨gb101, 2, none⟩ = some (.slice A0_2 l0_2.length c0_2) := (blk_cell BK101.out 2).trans rfl; have hfz13_0 := blk_frozen BK101.out 0; have hfz13_1 := blk_frozen BK101.out 1; have hfz13_2 := blk_frozen BK101.out 2))
        go_ret
        exact ⟨by first | rfl | (simp [errW_none, errW_some] <;> rfl) | (simp [*, errW_none, errW_some] <;> rfl), by repeat (first | (with_reducible first | exact HB.out | apply below_alloc | apply pw_below_drewN | apply below_drew1 | refine below_set ?_ GE101.out) | exact HB.out)⟩
    · rw [if_neg c3] at H
      have c3b0 : decide (a0_0 ≤ 1099511627776) = false := decide_eq_false c3
      clear c3
      obtain rfl := Option.some.inj H
      go_enter Try.func69, Try.ntmps69
      go_wp2_with (first | ((with_reducible refine gate_dst (N := 1) rfl ?_); refine box_event ?hg (N := 1) ?hd (cs := #[.int .i64 a0_0, .int .i64 a0_1, .slice A0_2 l0_2.length c0_2]) (t := 68) ?hr ?_; (case hd => rfl); (case hg => rfl); (case hr => first | (go_simp; done) | (go_simp; rfl)); intro gb101 hg w14 hbox hb; have n0_ := Aside0.mk (below_step (by repeat (first | (with_reducible first | exact HB.out | apply below_alloc | apply pw_below_drewN | apply below_drew1) | exact HB.out)) hb); have n1_ := Aside0.mk (hbox); have n2_ := Aside0.mk ((by rw [hg]; exact (below_size (by repeat (first | (with_reducible first | exact HB.out | apply below_alloc | apply pw_below_drewN | apply below_drew1) | exact HB.out))) : w.heap.size ≤ gb101)); have n3_ := Aside0.mk ((by rw [hg]; exact (below_size (by repeat (first | (with_reducible first | exact HB.out | apply below_alloc | apply pw_below_drewN | apply below_drew1) | exact HB.out))) : w.heap.size ≤ gb101)); clear HB; have HB := n0_; have BK101 := n1_; have GW101 := n2_; have GE101 := n3_; clear n0_ n1_ n2_ n3_; clear hb hbox hg; have hcz15_0 : w14.cell? ⟨gb101, 0, none⟩ = some (.int .i64 a0_0) := (blk_cell BK101.out 0).trans rfl; have hcz15_1 : w14.cell? ⟨gb101, 1, none⟩ = some (.int .i64 a0_1) := (blk_cell BK101.out 1).trans rfl; have hcz15_2 : w14.cell? ⟨gb101, 2, none⟩ = some (.slice A0_2 l0_2.length c0_2) := (blk_cell BK101.out 2).trans rfl; have hfz15_0 := blk_frozen BK101.out 0; have hfz15_1 := blk_frozen BK101.out 1; have hfz15_2 := blk_frozen BK101.out 2))
      go_ret
      exact ⟨by first | rfl | (simp [errW_none, errW_some] <;> rfl) | (simp [*, errW_none, errW_some] <;> rfl), by repeat (first | (with_reducible first | exact HB.out | apply below_alloc | apply pw_below_drewN | apply below_drew1 | refine below_set ?_ GE101.out) | exact HB.out)⟩
  · rw [if_neg c2] at H
    have c2b0 : decide (1 ≤ a0_0) = false := decide_eq_false c2
    clear c2
    obtain rfl := Option.some.inj H
    go_enter Try.func69, Try.ntmps69
    go_wp2_with (first | ((with_reducible refine gate_dst (N := 1) rfl ?_); refine box_event ?hg (N := 1) ?hd (cs := #[.int .i64 a0_0, .int .i64 a0_1, .slice A0_2 l0_2.length c0_2]) (t := 68) ?hr ?_; (case hd => rfl); (case hg => rfl); (case hr => first | (go_simp; done) | (go_simp; rfl)); intro gb101 hg w16 hbox hb; have n0_ := Aside0.mk (below_step (by repeat (first | (with_reducible first | exact HB.out | apply below_alloc | apply pw_below_drewN | apply below_drew1) | exact HB.out)) hb); have n1_ := Aside0.mk (hbox); have n2_ := Aside0.mk ((by rw [hg]; exact (below_size (by repeat (first | (with_reducible first | exact HB.out | apply below_alloc | apply pw_below_drewN | apply below_drew1) | exact HB.out))) : w.heap.size ≤ gb101)); have n3_ := Aside0.mk ((by rw [hg]; exact (below_size (by repeat (first | (with_reducible first | exact HB.out | apply below_alloc | apply pw_below_drewN | apply below_drew1) | exact HB.out))) : w.heap.size ≤ gb101)); clear HB; have HB := n0_; have BK101 := n1_; have GW101 := n2_; have GE101 := n3_; clear n0_ n1_ n2_ n3_; clear hb hbox hg; have hcz17_0 : w16.cell? ⟨gb101, 0, none⟩ = some (.int .i64 a0_0) := (blk_cell BK101.out 0).trans rfl; have hcz17_1 : w16.cell? ⟨gb101, 1, none⟩ = some (.int .i64 a0_1) := (blk_cell BK101.out 1).trans rfl; have hcz17_2 : w16.cell? ⟨gb101, 2, none⟩ = some (.slice A0_2 l0_2.length c0_2) := (blk_cell BK101.out 2).trans rfl; have hfz17_0 := blk_frozen BK101.out 0; have hfz17_1 := blk_frozen BK101.out 1; have hfz17_2 := blk_frozen BK101.out 2))
    go_ret
    exact ⟨by first | rfl | (simp [errW_none, errW_some] <;> rfl) | (simp [*, errW_none, errW_some] <;> rfl), by repeat (first | (with_reducible first | exact HB.out | apply below_alloc | apply pw_below_drewN | apply below_drew1 | refine below_set ?_ GE101.out) | exact HB.out)⟩
end Go.Proofs.Ytjlgbgkpiganbaa.P
set_option linter.unusedVariables false
set_option linter.unusedSimpArgs false
namespace Go.Proofs.Ytjlgbgkpiganbaa.P
open Go.RowKit Go.Proofs.YtjlgbgkpiganbaaW.PrintWords Go.Proofs.YtjlgbgkpiganbaaW.PrintMore
theorem rd152 {l : List S152} {i : Nat} {x : S152} (h : l[i]? = some x) : rd_T152 l (i : Int) = x := by
  unfold rd_T152; rw [Int.toNat_natCast, List.getD_eq_getElem?_getD, h]; rfl
theorem wrap_succ {i n : Nat} (h : i < n) (hn : n ≤ 9223372036854775807) : wrap64 ((i : Int) + 1) = ((i + 1 : Nat) : Int) := by
  unfold wrap64; omega
theorem wrap_pred {i n : Nat} (h : i + 1 < n) (hn : n ≤ 9223372036854775807) : wrap64 (((i + 1 : Nat) : Int) - 1) = (i : Int) := by
  unfold wrap64; omega
theorem drop_at {α : Type} {l : List α} {i : Nat} {x : α} (h : l[i]? = some x) : l.drop i = x :: l.drop (i + 1) := by
  obtain ⟨hlt, rfl⟩ := List.getElem?_eq_some_iff.1 h
  exact List.drop_eq_getElem_cons hlt
theorem at_lt {α : Type} {l : List α} {i : Nat} (h : i < l.length) : ∃ x, l[i]? = some x := ⟨_, List.getElem?_eq_getElem h⟩
def okE (x : S152) : Bool := decide (0 ≤ x.f0) && (decide (x.f0 < 12) && (decide (1 ≤ x.f1) && (decide (x.f1 ≤ 1099511627776) && decide ((x.f2.size : Int) ≤ 200))))
theorem may_eq (x : S152) : entry_May.f x.f0 x.f1 x.f2 = some (okE x) := by
  unfold entry_May.f okE
  by_cases h1 : 0 ≤ x.f0 <;> by_cases h2 : x.f0 < 12 <;> by_cases h3 : 1 ≤ x.f1 <;> by_cases h4 : x.f1 ≤ 1099511627776 <;> simp [h1, h2, h3, h4]
theorem may04_eq (x : S152) : bellwetherref04_May.f x.f0 x.f1 x.f2 = some (okE x) := may_eq x
def rightFrom : Int → List S152 → Bool
  | _, [] => true
  | last, x :: l => if x.f0 ≤ last then false else if okE x then rightFrom x.f0 l else false
theorem ev_right (l : List S152) (hn : l.length ≤ 9223372036854775807) : ∀ (d i : Nat) (last : Int), l.length - i = d → i ≤ l.length → Ev (fun k => entry_Right.l0 k last l (l.length : Int) (i : Int)) (rightFrom last (l.drop i)) := by
  intro d
  induction d with
  | zero =>
    intro i last hd hi
    have e : i = l.length := by omega
    subst e
    rw [List.drop_length]
    refine Ev.step (f := fun _ => some true) (fun k => ?_) (Ev.now _)
    simp only [entry_Right.l0]; rw [if_neg (by omega)]
  | succ d ih =>
    intro i last hd hi
    have hlt : i < l.length := by omega
    obtain ⟨x, hx⟩ := at_lt hlt
    rw [drop_at hx]
    have hlt' : (i : Int) < (l.length : Int) := by omega
    have h0 : (0 : Int) ≤ (i : Int) := by omega
    by_cases h1 : x.f0 ≤ last
    · refine Ev.step (f := fun _ => some false) (fun k => ?_) (by rw [rightFrom, if_pos h1]; exact Ev.now _)
      simp only [entry_Right.l0]; rw [rd152 hx, if_pos hlt', if_pos h0, if_pos hlt', if_pos h1]
    · cases h2 : okE x
      · refine Ev.step (f := fun _ => some false) (fun k => ?_) (by rw [rightFrom, if_neg h1, h2]; exact Ev.now _)
        simp only [entry_Right.l0]; rw [rd152 hx, if_pos hlt', if_pos h0, if_pos hlt', if_neg h1, may_eq, h2]; simp
      · refine Ev.step (f := fun k => entry_Right.l0 k x.f0 l (l.length : Int) ((i + 1 : Nat) : Int)) (fun k => ?_) (by rw [rightFrom, if_neg h1, h2]; exact ih (i + 1) x.f0 (by omega) (by omega))
        simp only [entry_Right.l0]; rw [rd152 hx, if_pos hlt', if_pos h0, if_pos hlt', if_neg h1, may_eq, h2, wrap_succ hlt hn]; simp
def okB (l : List S152) : Bool := rightFrom (-1) l
theorem ev_Right (l : List S152) (hn : l.length ≤ 9223372036854775807) : Ev (fun k => entry_Right.f k l) (okB l) := by
  have := ev_right l hn l.length 0 (-1) (by omega) (by omega)
  simpa [entry_Right.f, okB] using this
def lastOf (l : List S152) : Nat → Int
  | 0 => -1
  | i + 1 => (l.getD i z152).f0
theorem ev_right04 (l : List S152) (hn : l.length ≤ 9223372036854775807) : ∀ (d i : Nat), l.length - i = d → i ≤ l.length → Ev (fun k => bellwetherref04_Right.l0 k l (i : Int)) (rightFrom (lastOf l i) (l.drop i)) := by
  intro d
  induction d with
  | zero =>
    intro i hd hi
    have e : i = l.length := by omega
    subst e
    rw [List.drop_length]
    refine Ev.step (f := fun _ => some true) (fun k => ?_) (by unfold rightFrom; exact Ev.now _)
    simp only [bellwetherref04_Right.l0]; rw [if_neg (by omega)]
  | succ d ih =>
    intro i hd hi
    have hlt : i < l.length := by omega
    obtain ⟨x, hx⟩ := at_lt hlt
    have hxD : l.getD i z152 = x := by rw [List.getD_eq_getElem?_getD, hx]; rfl
    rw [drop_at hx]
    have hlt' : (i : Int) < (l.length : Int) := by omega
    have h0 : (0 : Int) ≤ (i : Int) := by omega
    cases h2 : okE x
    · refine Ev.step (f := fun _ => some false) (fun k => ?_) (by
        rw [rightFrom, h2]
        split <;> exact Ev.now _)
      simp only [bellwetherref04_Right.l0]; rw [rd152 hx, if_pos hlt', if_pos h0, may04_eq, h2]; simp
    · cases i with
      | zero =>
        have hk : ¬ x.f0 ≤ -1 := by
          unfold okE at h2
          simp only [Bool.and_eq_true, decide_eq_true_eq] at h2
          omega
        refine Ev.step (f := fun k => bellwetherref04_Right.l0 k l ((0 + 1 : Nat) : Int)) (fun k => ?_) (by rw [rightFrom, lastOf, if_neg hk, h2]; have := ih (0 + 1) (by omega) (by omega); rw [lastOf, hxD] at this; exact this)
        simp only [bellwetherref04_Right.l0]
        rw [rd152 hx, if_pos hlt', if_pos h0, may04_eq, h2, wrap_succ hlt hn]; simp
      | succ i =>
        have hlt2 : i < l.length := by omega
        obtain ⟨p, hp⟩ := at_lt hlt2
        have hpD : l.getD i z152 = p := by rw [List.getD_eq_getElem?_getD, hp]; rfl
        have g1 : ((i + 1 : Nat) : Int) > 0 := by omega
        have g2 : (0 : Int) ≤ (i : Int) := by omega
        have g3 : (i : Int) < (l.length : Int) := by omega
        by_cases h1 : x.f0 ≤ p.f0
        · refine Ev.step (f := fun _ => some false) (fun k => ?_) (by rw [rightFrom, lastOf, hpD, if_pos h1]; exact Ev.now _)
          simp only [bellwetherref04_Right.l0]
          rw [rd152 hx, if_pos hlt', if_pos h0, may04_eq, h2, wrap_pred hlt hn, rd152 hp]
          simp only [Option.bind_some, if_true]
          rw [if_pos g1, if_pos g2, if_pos g3, if_pos h1]
        · refine Ev.step (f := fun k => bellwetherref04_Right.l0 k l ((i + 1 + 1 : Nat) : Int)) (fun k => ?_) (by rw [rightFrom, lastOf, hpD, if_neg h1, h2]; have := ih (i + 1 + 1) (by omega) (by omega); rw [lastOf, hxD] at this; exact this)
          simp only [bellwetherref04_Right.l0]
          rw [rd152 hx, if_pos hlt', if_pos h0, may04_eq, h2, wrap_pred hlt hn, rd152 hp, wrap_succ hlt hn]
          simp only [Option.bind_some, if_true]
          rw [if_pos g1, if_pos g2, if_pos g3, if_neg h1]
theorem ev_Right04 (l : List S152) (hn : l.length ≤ 9223372036854775807) : Ev (fun k => bellwetherref04_Right.f k l) (okB l) := by
  have := ev_right04 l hn l.length 0 (by omega) (by omega)
  simpa [bellwetherref04_Right.f, okB, lastOf] using this
theorem rightFrom_iff : ∀ (l : List S152) (last : Int), rightFrom last l = true ↔ (∀ x ∈ l, last < x.f0 ∧ okE x = true) ∧ Sorted l
  | [], last => by simp [rightFrom, Sorted]
  | x :: l, last => by
    rw [rightFrom, sorted_cons]
    by_cases h1 : x.f0 ≤ last
    · rw [if_pos h1]
      constructor
      · intro h; cases h
      · intro h; have := (h.1 x List.mem_cons_self).1; omega
    · rw [if_neg h1]
      cases h2 : okE x
      · constructor
        · intro h; cases h
        · intro h; have := (h.1 x List.mem_cons_self).2; rw [h2] at this; cases this
      · simp only [if_true]
        rw [rightFrom_iff l x.f0]
        constructor
        · rintro ⟨h3, h4⟩
          refine ⟨fun y hy => ?_, fun y hy => (h3 y hy).1, h4⟩
          rcases List.mem_cons.1 hy with rfl | hy
          · exact ⟨by omega, h2⟩
          · have := h3 y hy; exact ⟨by omega, this.2⟩
        · rintro ⟨h3, h4, h5⟩
          exact ⟨fun y hy => ⟨h4 y hy, (h3 y (List.mem_cons_of_mem _ hy)).2⟩, h5⟩
theorem okB_iff {l : List S152} : okB l = true ↔ (∀ x ∈ l, okE x = true) ∧ Sorted l := by
  unfold okB
  rw [rightFrom_iff]
  constructor
  · rintro ⟨h1, h2⟩; exact ⟨fun x hx => (h1 x hx).2, h2⟩
  · rintro ⟨h1, h2⟩
    refine ⟨fun x hx => ⟨?_, h1 x hx⟩, h2⟩
    have := h1 x hx
    unfold okE at this
    simp only [Bool.and_eq_true, decide_eq_true_eq] at this
    omega
theorem okB_len {l : List S152} (h : okB l = true) : l.length ≤ 12 := by
  obtain ⟨h1, h2⟩ := okB_iff.1 h
  have key : ∀ (l : List S152) (m : Int), 0 ≤ m → (∀ x ∈ l, m ≤ x.f0 ∧ x.f0 < 12) → Sorted l → (l.length : Int) ≤ max 0 (12 - m) := by
    intro l
    induction l with
    | nil => intro m hm _ _; simp; omega
    | cons x l ih =>
      intro m hm hx hs
      obtain ⟨s1, s2⟩ := sorted_cons.1 hs
      have a := hx x List.mem_cons_self
      have := ih (x.f0 + 1) (by omega) (fun y hy => ⟨by have := s1 y hy; omega, (hx y (List.mem_cons_of_mem _ hy)).2⟩) s2
      rw [List.length_cons]
      omega
  have := key l 0 (by omega) (fun x hx => by
    have := h1 x hx
    unfold okE at this
    simp only [Bool.and_eq_true, decide_eq_true_eq] at this
    omega) h2
  omega
theorem mergeE_len (a b : List S152) : (mergeE a b).length ≤ a.length + b.length := by
  fun_induction mergeE a b with
  | case1 b => simp
  | case2 x a => simp
  | case3 x a y b h1 ih => simp only [List.length_cons] at *; omega
  | case4 x a y b h1 h2 ih => simp only [List.length_cons] at *; omega
  | case5 x a y b h1 h2 ih => simp only [List.length_cons] at *; omega
theorem higher_eq (x y : S152) : entry_higher.f x.f0 x.f1 x.f2 y.f0 y.f1 y.f2 = some ((hiE x y).f0, (hiE x y).f1, (hiE x y).f2) := by
  rw [higher_some]; unfold hiE; split <;> rfl
theorem rd_head (x : S152) (l : List S152) : rd_T152 (x :: l) 0 = x := rfl
theorem ev_join00 (acc : List S152) : Ev (fun k => entry_Join.l0 k [] [] acc) (acc ++ mergeE [] []) := by
  refine Ev.step (f := fun k => entry_Join.j1 k [] [] acc false) (fun k => by simp [entry_Join.l0]) ?_
  refine Ev.step (f := fun _ => some acc) (fun k => by simp [entry_Join.j1]) ?_
  simp only [mergeE, List.append_nil]
  exact Ev.now _
theorem ev_join : ∀ (n : Nat) (a b acc : List S152), a.length + b.length ≤ n → acc.length + n < 4398046511104 → Ev (fun k => entry_Join.l0 k a b acc) (acc ++ mergeE a b) := by
  intro n
  induction n with
  | zero =>
    intro a b acc hn hb
    obtain rfl : a = [] := List.eq_nil_of_length_eq_zero (by omega)
    obtain rfl : b = [] := List.eq_nil_of_length_eq_zero (by omega)
    exact ev_join00 acc
  | succ n ih =>
    intro a b acc hn hb
    cases a with
    | nil =>
      cases b with
      | nil => exact ev_join00 acc
      | cons y b =>
        simp only [List.length_cons, List.length_nil] at hn
        have e : acc ++ mergeE [] (y :: b) = (acc ++ [y]) ++ mergeE [] b := by simp [mergeE]
        rw [e]
        refine Ev.step (f := fun k => entry_Join.j1 k [] (y :: b) acc true) (fun k => by simp only [entry_Join.l0, List.length_nil, List.length_cons]; rw [if_neg (by omega)]; congr 1; simp) ?_
        refine Ev.step (f := fun k => entry_Join.j2 k [] (y :: b) acc false) (fun k => by simp only [entry_Join.j1, List.length_nil, List.length_cons, if_true]; rw [if_neg (by omega), if_neg (by omega)]) ?_
        refine Ev.step (f := fun k => entry_Join.l0 k [] b (acc ++ [y])) (fun k => by simp only [entry_Join.j2, List.length_nil, List.length_cons, Bool.false_eq_true, if_false]; rw [if_pos (by omega), if_pos (by omega), if_pos (by omega), if_pos (by omega)]; rfl) ?_
        exact ih [] b (acc ++ [y]) (by first | omega | (simp; omega)) (by first | omega | (simp; omega))
    | cons x a =>
      cases b with
      | nil =>
        simp only [List.length_cons, List.length_nil] at hn
        have e : acc ++ mergeE (x :: a) [] = (acc ++ [x]) ++ mergeE a [] := by simp [mergeE_nil_right]
        rw [e]
        refine Ev.step (f := fun k => entry_Join.j1 k (x :: a) [] acc true) (fun k => by simp only [entry_Join.l0, List.length_cons]; rw [if_pos (by omega)]) ?_
        refine Ev.step (f := fun k => entry_Join.j2 k (x :: a) [] acc true) (fun k => by simp only [entry_Join.j1, List.length_nil, if_true]; rw [if_pos (by omega)]) ?_
        refine Ev.step (f := fun k => entry_Join.l0 k a [] (acc ++ [x])) (fun k => by simp only [entry_Join.j2, List.length_cons, if_true]; rw [if_pos (by omega), if_pos (by omega), if_pos (by omega)]; rfl) ?_
        exact ih a [] (acc ++ [x]) (by first | omega | (simp; omega)) (by first | omega | (simp; omega))
      | cons y b =>
        simp only [List.length_cons] at hn
        refine Ev.step (f := fun k => entry_Join.j1 k (x :: a) (y :: b) acc true) (fun k => by simp only [entry_Join.l0, List.length_cons]; rw [if_pos (by omega)]) ?_
        refine Ev.step (f := fun k => entry_Join.j2 k (x :: a) (y :: b) acc (decide (x.f0 < y.f0))) (fun k => by simp only [entry_Join.j1, List.length_cons, if_true]; rw [if_neg (by omega), if_pos (by omega), if_pos (by omega), if_pos (by omega)]; rfl) ?_
        by_cases h1 : x.f0 < y.f0
        · have e : acc ++ mergeE (x :: a) (y :: b) = (acc ++ [x]) ++ mergeE a (y :: b) := by rw [mergeE, if_pos h1]; simp
          rw [e, decide_eq_true h1]
          refine Ev.step (f := fun k => entry_Join.l0 k a (y :: b) (acc ++ [x])) (fun k => by simp only [entry_Join.j2, List.length_cons, if_true]; rw [if_pos (by omega), if_pos (by omega), if_pos (by omega)]; rfl) ?_
          exact ih a (y :: b) (acc ++ [x]) (by first | omega | (simp; omega)) (by first | omega | (simp; omega))
        · rw [decide_eq_false h1]
          by_cases h2 : y.f0 < x.f0
          · have e : acc ++ mergeE (x :: a) (y :: b) = (acc ++ [y]) ++ mergeE (x :: a) b := by rw [mergeE, if_neg h1, if_pos h2]; simp
            rw [e]
            refine Ev.step (f := fun k => entry_Join.l0 k (x :: a) b (acc ++ [y])) (fun k => by simp only [entry_Join.j2, List.length_cons, Bool.false_eq_true, if_false, rd_head]; rw [if_neg (by omega), if_pos (by omega), if_pos (by omega), if_pos h2, if_pos (by omega), if_pos (by omega)]; rfl) ?_
            exact ih (x :: a) b (acc ++ [y]) (by first | omega | (simp; omega)) (by first | omega | (simp; omega))
          · have e : acc ++ mergeE (x :: a) (y :: b) = (acc ++ [hiE x y]) ++ mergeE a b := by rw [mergeE, if_neg h1, if_neg h2]; simp
            rw [e]
            refine Ev.step (f := fun k => entry_Join.l0 k a b (acc ++ [hiE x y])) (fun k => by simp only [entry_Join.j2, List.length_cons, Bool.false_eq_true, if_false, rd_head, higher_eq, Option.bind_some]; rw [if_neg (by omega), if_pos (by omega), if_pos (by omega), if_neg h2, if_pos (by omega), if_pos (by omega), if_pos (by omega)]; rfl) ?_
            exact ih a b (acc ++ [hiE x y]) (by first | omega | (simp; omega)) (by first | omega | (simp; omega))
theorem ev_Join (a b : List S152) (h : a.length + b.length < 4398046511104) : Ev (fun k => entry_Join.f k a b) (mergeE a b) := by
  have w1 : wrap64 ((a.length : Int) + (b.length : Int)) = ((a.length + b.length : Nat) : Int) := by unfold wrap64; omega
  refine Ev.congr (f := fun k => entry_Join.l0 k a b []) (fun k => ?_) (by simpa using ev_join _ a b [] (Nat.le_refl _) (by simpa using h))
  unfold entry_Join.f
  rw [w1, if_pos (by omega), if_pos (by rw [Int.toNat_natCast]; omega)]
end Go.Proofs.Ytjlgbgkpiganbaa.P
set_option linter.unusedVariables false
set_option linter.unusedSimpArgs false
namespace Go.Proofs.Ytjlgbgkpiganbaa.P
open Go.RowKit Go.Proofs.YtjlgbgkpiganbaaW.PrintWords Go.Proofs.YtjlgbgkpiganbaaW.PrintMore
def gotE : Option S152 → Int × Int × ByteArray × Bool
  | none => (0, 0, ⟨#[]⟩, false)
  | some x => (x.f0, x.f1, x.f2, true)
theorem ev_get04 (l : List S152) (key : Int) (hn : l.length ≤ 9223372036854775807) : ∀ (d i : Nat), l.length - i = d → i ≤ l.length → Ev (fun k => bellwetherref04_Get.l0 k l key (i : Int)) (gotE (getE (l.drop i) key)) := by
  intro d
  induction d with
  | zero =>
    intro i hd hi
    have e : i = l.length := by omega
    subst e
    rw [List.drop_length]
    refine Ev.step (f := fun _ => some (0, 0, ⟨#[]⟩, false)) (fun k => ?_) (Ev.now _)
    simp only [bellwetherref04_Get.l0]; rw [if_neg (by omega)]
  | succ d ih =>
    intro i hd hi
    have hlt : i < l.length := by omega
    obtain ⟨x, hx⟩ := at_lt hlt
    rw [drop_at hx, getE_cons]
    have hlt' : (i : Int) < (l.length : Int) := by omega
    have h0 : (0 : Int) ≤ (i : Int) := by omega
    by_cases h1 : x.f0 = key
    · rw [if_pos h1]
      refine Ev.step (f := fun _ => some (gotE (some x))) (fun k => ?_) (Ev.now _)
      simp only [bellwetherref04_Get.l0]; rw [rd152 hx, if_pos hlt', if_pos h0, if_pos h1]; rfl
    · rw [if_neg h1]
      refine Ev.step (f := fun k => bellwetherref04_Get.l0 k l key ((i + 1 : Nat) : Int)) (fun k => ?_) (ih (i + 1) (by omega) (by omega))
      simp only [bellwetherref04_Get.l0]; rw [rd152 hx, if_pos hlt', if_pos h0, if_neg h1, wrap_succ hlt hn]
theorem ev_Get04 (l : List S152) (key : Int) (hn : l.length ≤ 9223372036854775807) : Ev (fun k => bellwetherref04_Get.f k l key) (gotE (getE l key)) := by
  have := ev_get04 l key hn l.length 0 (by omega) (by omega)
  simpa [bellwetherref04_Get.f] using this
theorem above_eq (y x : S152) : bellwetherref04_above.f y.f0 y.f1 y.f2 x.f0 x.f1 x.f2 = some (lowB x y) := by
  unfold bellwetherref04_above.f lowB
  by_cases h1 : x.f1 < y.f1
  · simp [h1]
  · by_cases h2 : y.f1 = x.f1
    · simp [h1, h2]
    · have h2' : ¬ x.f1 = y.f1 := fun h => h2 h.symm
      simp [h1, h2, h2']
def tailE (l : List S152) (e : S152) : List S152 := l.filter (fun x => decide (¬ x.f0 = e.f0))
def putE (e : S152) : List S152 → List S152
  | [] => [e]
  | x :: t => if e.f0 ≤ x.f0 then e :: tailE (x :: t) e else x :: putE e t
theorem ev_put_tail (l : List S152) (e : S152) (hn : l.length ≤ 9223372036854775807) : ∀ (d i : Nat) (acc : List S152), l.length - i = d → i ≤ l.length → acc.length + d < 4398046511104 → Ev (fun k => bellwetherref04_Put.l0 k l acc true (i : Int) e.f0 e.f1 e.f2) (acc ++ tailE (l.drop i) e) := by
  intro d
  induction d with
  | zero =>
    intro i acc hd hi hb
    have e' : i = l.length := by omega
    subst e'
    rw [List.drop_length]
    refine Ev.step (f := fun _ => some acc) (fun k => ?_) (by simp only [tailE, List.filter_nil, List.append_nil]; exact Ev.now _)
    simp only [bellwetherref04_Put.l0]; rw [if_neg (by omega)]; simp
  | succ d ih =>
    intro i acc hd hi hb
    have hlt : i < l.length := by omega
    obtain ⟨x, hx⟩ := at_lt hlt
    have hlt' : (i : Int) < (l.length : Int) := by omega
    have h0 : (0 : Int) ≤ (i : Int) := by omega
    rw [drop_at hx]
    refine Ev.step (f := fun k => bellwetherref04_Put.j1 k l acc true (i : Int) false e.f0 e.f1 e.f2) (fun k => by simp only [bellwetherref04_Put.l0]; rw [if_pos hlt']; simp) ?_
    by_cases h1 : x.f0 = e.f0
    · refine Ev.step (f := fun k => bellwetherref04_Put.l0 k l acc true ((i + 1 : Nat) : Int) e.f0 e.f1 e.f2) (fun k => ?_) ?_
      · simp only [bellwetherref04_Put.j1, Bool.false_eq_true, if_false]
        rw [if_pos h0, if_pos hlt', rd152 hx, if_pos h1, wrap_succ hlt hn]
      · have : tailE (x :: l.drop (i + 1)) e = tailE (l.drop (i + 1)) e := by simp [tailE, h1]
        rw [this]; exact ih (i + 1) acc (by omega) (by omega) (by omega)
    · refine Ev.step (f := fun k => bellwetherref04_Put.l0 k l (acc ++ [x]) true ((i + 1 : Nat) : Int) e.f0 e.f1 e.f2) (fun k => ?_) ?_
      · simp only [bellwetherref04_Put.j1, Bool.false_eq_true, if_false]
        rw [if_pos h0, if_pos hlt', rd152 hx, if_neg h1, if_pos (by omega), wrap_succ hlt hn]
      · have : acc ++ tailE (x :: l.drop (i + 1)) e = (acc ++ [x]) ++ tailE (l.drop (i + 1)) e := by simp [tailE, h1]
        rw [this]; exact ih (i + 1) (acc ++ [x]) (by omega) (by omega) (by first | omega | (simp; omega))
theorem ev_put (l : List S152) (e : S152) (hn : l.length ≤ 9223372036854775807) : ∀ (d i : Nat) (acc : List S152), l.length - i = d → i ≤ l.length → acc.length + d + 1 < 4398046511104 → Ev (fun k => bellwetherref04_Put.l0 k l acc false (i : Int) e.f0 e.f1 e.f2) (acc ++ putE e (l.drop i)) := by
  intro d
  induction d with
  | zero =>
    intro i acc hd hi hb
    have e' : i = l.length := by omega
    subst e'
    rw [List.drop_length]
    refine Ev.step (f := fun _ => some (acc ++ [e])) (fun k => ?_) (Ev.now _)
    simp only [bellwetherref04_Put.l0]; rw [if_neg (by omega)]; simp only [Bool.false_eq_true, if_false]; rw [if_pos (by omega)]
  | succ d ih =>
    intro i acc hd hi hb
    have hlt : i < l.length := by omega
    obtain ⟨x, hx⟩ := at_lt hlt
    have hlt' : (i : Int) < (l.length : Int) := by omega
    have h0 : (0 : Int) ≤ (i : Int) := by omega
    rw [drop_at hx]
    refine Ev.step (f := fun k => bellwetherref04_Put.j1 k l acc false (i : Int) (decide (x.f0 ≥ e.f0)) e.f0 e.f1 e.f2) (fun k => by simp only [bellwetherref04_Put.l0, Bool.false_eq_true, if_false]; rw [if_pos hlt', if_pos h0, rd152 hx]) ?_
    by_cases h1 : e.f0 ≤ x.f0
    · rw [putE, if_pos h1, decide_eq_true (show x.f0 ≥ e.f0 from h1)]
      have hl : ∀ _ : Nat, (acc ++ [e]).length = acc.length + 1 := fun _ => by simp
      by_cases h2 : x.f0 = e.f0
      · refine Ev.step (f := fun k => bellwetherref04_Put.l0 k l (acc ++ [e]) true ((i + 1 : Nat) : Int) e.f0 e.f1 e.f2) (fun k => ?_) ?_
        · simp only [bellwetherref04_Put.j1, if_true, Option.bind_some]
          rw [if_pos (by omega), if_pos h0, if_pos hlt', rd152 hx, if_pos h2, wrap_succ hlt hn]
        · have : acc ++ e :: tailE (x :: l.drop (i + 1)) e = (acc ++ [e]) ++ tailE (l.drop (i + 1)) e := by simp [tailE, h2]
          rw [this]; exact ev_put_tail l e hn d (i + 1) (acc ++ [e]) (by omega) (by omega) (by rw [hl 0]; omega)
      · refine Ev.step (f := fun k => bellwetherref04_Put.l0 k l (acc ++ [e] ++ [x]) true ((i + 1 : Nat) : Int) e.f0 e.f1 e.f2) (fun k => ?_) ?_
        · simp only [bellwetherref04_Put.j1, if_true, Option.bind_some]
          rw [if_pos (by omega), if_pos h0, if_pos hlt', rd152 hx, if_neg h2, if_pos (by rw [hl 0]; omega), wrap_succ hlt hn]
        · have : acc ++ e :: tailE (x :: l.drop (i + 1)) e = (acc ++ [e] ++ [x]) ++ tailE (l.drop (i + 1)) e := by simp [tailE, h2]
          rw [this]; exact ev_put_tail l e hn d (i + 1) (acc ++ [e] ++ [x]) (by omega) (by omega) (by simp; omega)
    · rw [putE, if_neg h1, decide_eq_false (show ¬ x.f0 ≥ e.f0 from h1)]
      have h2 : ¬ x.f0 = e.f0 := by omega
      refine Ev.step (f := fun k => bellwetherref04_Put.l0 k l (acc ++ [x]) false ((i + 1 : Nat) : Int) e.f0 e.f1 e.f2) (fun k => ?_) ?_
      · simp only [bellwetherref04_Put.j1, Bool.false_eq_true, if_false]
        rw [if_pos h0, if_pos hlt', rd152 hx, if_neg h2, if_pos (by omega), wrap_succ hlt hn]
      · have : acc ++ x :: putE e (l.drop (i + 1)) = (acc ++ [x]) ++ putE e (l.drop (i + 1)) := by simp
        rw [this]; exact ih (i + 1) (acc ++ [x]) (by omega) (by omega) (by first | omega | (simp; omega))
theorem ev_Put04 (l : List S152) (e : S152) (hb : l.length + 1 < 4398046511104) : Ev (fun k => bellwetherref04_Put.f k l e.f0 e.f1 e.f2) (putE e l) := by
  have := ev_put l e (by omega) l.length 0 [] (by omega) (by omega) (by simpa using hb)
  simpa [bellwetherref04_Put.f] using this
theorem tail_all {l : List S152} {e : S152} (h : ∀ x ∈ l, ¬ x.f0 = e.f0) : tailE l e = l := by
  unfold tailE
  rw [List.filter_eq_self]
  intro x hx
  simpa using h x hx
theorem put_merge {l : List S152} {e : S152} (hs : Sorted l) (h : ∀ x ∈ l, x.f0 = e.f0 → lowB x e = true) : putE e l = mergeE l [e] := by
  induction l with
  | nil => simp [putE, mergeE]
  | cons x l ih =>
    obtain ⟨s1, s2⟩ := sorted_cons.1 hs
    rw [putE, mergeE]
    by_cases h1 : e.f0 ≤ x.f0
    · rw [if_pos h1, if_neg (by omega)]
      by_cases h2 : e.f0 < x.f0
      · rw [if_pos h2, mergeE_nil_right, tail_all]
        intro y hy
        rcases List.mem_cons.1 hy with rfl | hy
        · omega
        · have := s1 y hy; omega
      · rw [if_neg h2, mergeE_nil_right]
        have e1 : x.f0 = e.f0 := by omega
        have e2 := h x List.mem_cons_self e1
        have e3 : tailE (x :: l) e = l := by
          have : tailE (x :: l) e = tailE l e := by simp [tailE, e1]
          rw [this]
          exact tail_all fun y hy => by have := s1 y hy; omega
        rw [e3]; simp [hiE, e2]
    · rw [if_neg h1, if_pos (by omega), ih s2 fun y hy => h y (List.mem_cons_of_mem _ hy)]
theorem sorted_one (e : S152) : Sorted [e] := sorted_cons.2 ⟨fun _ h => (by cases h), Sorted.nil⟩
theorem keep_merge {l : List S152} {e x : S152} (hs : Sorted l) (hx : getE l e.f0 = some x) (h : lowB x e = false) : mergeE l [e] = l := by
  refine sorted_ext (mergeE_sorted hs (sorted_one e)) hs fun k => ?_
  rw [getE_merge hs (sorted_one e), getE_cons, getE_nil]
  by_cases q : e.f0 = k
  · subst q; rw [if_pos rfl, hx]; simp [hiO, hiE, h]
  · rw [if_neg q, hiO_none]
theorem one_merge {y : S152} {l : List S152} (h : Sorted (y :: l)) : mergeE [y] l = y :: l := by
  obtain ⟨s1, s2⟩ := sorted_cons.1 h
  cases l with
  | nil => exact mergeE_nil_right _
  | cons z l =>
    rw [mergeE, if_pos (s1 z List.mem_cons_self)]
    simp [mergeE]
theorem sorted_drop {l : List S152} (h : Sorted l) (i : Nat) : Sorted (l.drop i) := List.Pairwise.drop h
theorem ev_join04 (b : List S152) (hs : Sorted b) (hn : b.length ≤ 9223372036854775807) : ∀ (d i : Nat) (acc : List S152), b.length - i = d → i ≤ b.length → Sorted acc → acc.length + d + 1 < 4398046511104 → Ev (fun k => bellwetherref04_Join.l0 k b acc (i : Int)) (mergeE acc (b.drop i)) := by
  intro d
  induction d with
  | zero =>
    intro i acc hd hi ha hb
    have e' : i = b.length := by omega
    subst e'
    rw [List.drop_length, mergeE_nil_right]
    refine Ev.step (f := fun _ => some acc) (fun k => ?_) (Ev.now _)
    simp only [bellwetherref04_Join.l0]; rw [if_neg (by omega)]
  | succ d ih =>
    intro i acc hd hi ha hb
    have hlt : i < b.length := by omega
    obtain ⟨y, hy⟩ := at_lt hlt
    have hlt' : (i : Int) < (b.length : Int) := by omega
    have h0 : (0 : Int) ≤ (i : Int) := by omega
    have hsd := sorted_drop hs i
    rw [drop_at hy] at hsd ⊢
    obtain ⟨s1, s2⟩ := sorted_cons.1 hsd
    have hm : mergeE acc (y :: b.drop (i + 1)) = mergeE (mergeE acc [y]) (b.drop (i + 1)) := by
      rw [mergeE_assoc ha (sorted_one y) s2, one_merge hsd]
    rw [hm]
    have hl := mergeE_len acc [y]
    simp only [List.length_singleton] at hl
    have hG := ev_Get04 acc y.f0 (by omega)
    have hstep : ∀ k, bellwetherref04_Join.l0 (k + 1) b acc (i : Int) = (bellwetherref04_Get.f k acc y.f0).bind fun bt108 => (if bt108.2.2.2 = true then ((bellwetherref04_above.f y.f0 y.f1 y.f2 bt108.1 bt108.2.1 bt108.2.2.1).bind fun t114 => (if t114 = true then ((bellwetherref04_Put.f k acc y.f0 y.f1 y.f2).bind fun t116 => (bellwetherref04_Join.l0 k b t116 ((i + 1 : Nat) : Int))) else (bellwetherref04_Join.l0 k b acc ((i + 1 : Nat) : Int)))) else ((bellwetherref04_Put.f k acc y.f0 y.f1 y.f2).bind fun t120 => (bellwetherref04_Join.l0 k b t120 ((i + 1 : Nat) : Int)))) := fun k => by
      simp only [bellwetherref04_Join.l0]
      rw [if_pos hlt', if_pos h0, rd152 hy, wrap_succ hlt hn]
    refine Ev.step hstep (Ev.bind hG ?_)
    cases hg : getE acc y.f0 with
    | none =>
      have e1 : putE y acc = mergeE acc [y] := put_merge ha fun x hx hk => by
        have := getE_mem ha hx
        rw [hk, hg] at this; cases this
      refine Ev.congr (f := fun k => (bellwetherref04_Put.f k acc y.f0 y.f1 y.f2).bind fun t120 => (bellwetherref04_Join.l0 k b t120 ((i + 1 : Nat) : Int))) (fun k => by simp [gotE]) (Ev.bind (ev_Put04 acc y (by omega)) ?_)
      rw [e1]
      exact ih (i + 1) _ (by omega) (by omega) (mergeE_sorted ha (sorted_one y)) (by omega)
    | some x =>
      cases hlo : lowB x y
      · have e1 := keep_merge ha hg hlo
        refine Ev.congr (f := fun k => bellwetherref04_Join.l0 k b acc ((i + 1 : Nat) : Int)) (fun k => by simp only [gotE, if_true, above_eq, Option.bind_some, hlo, Bool.false_eq_true, if_false]) ?_
        rw [e1]
        exact ih (i + 1) _ (by omega) (by omega) ha (by omega)
      · have e1 : putE y acc = mergeE acc [y] := put_merge ha fun z hz hk => by
          have := getE_mem ha hz
          rw [hk, hg] at this
          obtain rfl := Option.some.inj this
          exact hlo
        refine Ev.congr (f := fun k => (bellwetherref04_Put.f k acc y.f0 y.f1 y.f2).bind fun t120 => (bellwetherref04_Join.l0 k b t120 ((i + 1 : Nat) : Int))) (fun k => by simp only [gotE, if_true, above_eq, Option.bind_some, hlo]) (Ev.bind (ev_Put04 acc y (by omega)) ?_)
        rw [e1]
        exact ih (i + 1) _ (by omega) (by omega) (mergeE_sorted ha (sorted_one y)) (by omega)
theorem ev_Join04 {a b : List S152} (ha : Sorted a) (hb : Sorted b) (h : a.length + b.length + 1 < 4398046511104) : Ev (fun k => bellwetherref04_Join.f k a b) (mergeE a b) := by
  refine Ev.congr (f := fun k => bellwetherref04_Join.l0 k b a 0) (fun k => ?_) (by have := ev_join04 b hb (by omega) b.length 0 a (by omega) (by omega) ha (by omega); simpa using this)
  simp only [bellwetherref04_Join.f, Option.bind_some, List.length_nil, List.nil_append]
  rw [if_pos (by omega)]
theorem ev_same04 (a b : List S152) (hl : a.length = b.length) (hn : a.length ≤ 9223372036854775807) : ∀ (d i : Nat), a.length - i = d → i ≤ a.length → ∃ r, Ev (fun k => bellwetherref04_Same.l0 k a b (i : Int)) r ∧ (r = true ↔ a.drop i = b.drop i) := by
  intro d
  induction d with
  | zero =>
    intro i hd hi
    have e' : i = a.length := by omega
    subst e'
    refine ⟨true, Ev.step (f := fun _ => some true) (fun k => ?_) (Ev.now _), ?_⟩
    · simp only [bellwetherref04_Same.l0]; rw [if_neg (by omega)]
    · rw [List.drop_length, hl, List.drop_length]; simp
  | succ d ih =>
    intro i hd hi
    have hlt : i < a.length := by omega
    obtain ⟨x, hx⟩ := at_lt hlt
    obtain ⟨y, hy⟩ := at_lt (l := b) (i := i) (by omega)
    have hlt' : (i : Int) < (a.length : Int) := by omega
    have hlt2 : (i : Int) < (b.length : Int) := by omega
    have h0 : (0 : Int) ≤ (i : Int) := by omega
    rw [drop_at hx, drop_at hy]
    by_cases e : x = y
    · obtain ⟨r, h1, h2⟩ := ih (i + 1) (by omega) (by omega)
      refine ⟨r, Ev.step (f := fun k => bellwetherref04_Same.l0 k a b ((i + 1 : Nat) : Int)) (fun k => ?_) h1, by rw [h2, e]; simp⟩
      simp only [bellwetherref04_Same.l0]; rw [if_pos hlt', if_pos h0, if_pos hlt2, rd152 hx, rd152 hy, e, wrap_succ hlt hn]; simp
    · refine ⟨false, Ev.step (f := fun _ => some false) (fun k => ?_) (Ev.now _), by simp [e]⟩
      simp only [bellwetherref04_Same.l0]; rw [if_pos hlt', if_pos h0, if_pos hlt2, rd152 hx, rd152 hy, if_pos]
      by_cases e0 : x.f0 = y.f0
      · by_cases e1 : x.f1 = y.f1
        · have e2 : ¬ x.f2.toList = y.f2.toList := fun h => e (S152.eq' e0 e1 (bytes_eq h))
          simp [e0, e1, e2]
        · simp [e1]
      · simp [e0]
theorem ev_Same04 (a b : List S152) (hn : a.length ≤ 9223372036854775807) : ∃ r, Ev (fun k => bellwetherref04_Same.f k a b) r ∧ (r = true ↔ a = b) := by
  by_cases hl : a.length = b.length
  · obtain ⟨r, h1, h2⟩ := ev_same04 a b hl hn a.length 0 (by omega) (by omega)
    refine ⟨r, Ev.congr (fun k => ?_) h1, by simpa using h2⟩
    simp only [bellwetherref04_Same.f]; rw [if_pos (by omega)]; rfl
  · refine ⟨false, Ev.congr (f := fun _ => some false) (fun k => ?_) (Ev.now _), ?_⟩
    · simp only [bellwetherref04_Same.f]; rw [if_neg (by omega)]
    · constructor
      · intro h; cases h
      · intro h; rw [h] at hl; exact absurd rfl hl
theorem ev_great04 (l : List S152) (hn : l.length ≤ 9223372036854775807) : ∀ (d i : Nat) (x3 : Int), l.length - i = d → i ≤ l.length → ∃ r, Ev (fun k => bellwetherref04_Great.l0 k l x3 (i : Int)) r := by
  intro d
  induction d with
  | zero =>
    intro i x3 hd hi
    have e' : i = l.length := by omega
    subst e'
    refine ⟨_, Ev.step (f := fun _ => some (decide (x3 > 4000))) (fun k => ?_) (Ev.now _)⟩
    simp only [bellwetherref04_Great.l0]; rw [if_neg (by omega)]
  | succ d ih =>
    intro i x3 hd hi
    have hlt : i < l.length := by omega
    obtain ⟨x, hx⟩ := at_lt hlt
    have hlt' : (i : Int) < (l.length : Int) := by omega
    have h0 : (0 : Int) ≤ (i : Int) := by omega
    by_cases h3 : x3 ≤ 4000
    · obtain ⟨r, hr⟩ := ih (i + 1) (wrap64 (x3 + (x.f2.size : Int))) (by omega) (by omega)
      refine ⟨r, Ev.step (f := fun k => bellwetherref04_Great.l0 k l (wrap64 (x3 + (x.f2.size : Int))) ((i + 1 : Nat) : Int)) (fun k => ?_) hr⟩
      simp only [bellwetherref04_Great.l0]; rw [if_pos hlt', if_pos h3, if_pos h0, rd152 hx, wrap_succ hlt (by omega)]
    · refine ⟨_, Ev.step (f := fun _ => some (decide (x3 > 4000))) (fun k => ?_) (Ev.now _)⟩
      simp only [bellwetherref04_Great.l0]; rw [if_pos hlt', if_neg h3]
theorem ev_Great05 (s : S68) (hn : s.f2.length ≤ 9223372036854775807) : ∃ r, Ev (fun k => bellwetherref05_Great.f k s.f0 s.f1 s.f2) r := by
  obtain ⟨r, hr⟩ := ev_great04 s.f2 hn s.f2.length 0 (s.f2.length : Int) (by omega) (by omega)
  exact ⟨r, by
    unfold bellwetherref05_Great.f
    exact Ev.bind (f := fun _ t => some t) (by simpa [bellwetherref04_Great.f] using hr) (Ev.now _)⟩
end Go.Proofs.Ytjlgbgkpiganbaa.P
set_option linter.unusedVariables false
set_option linter.unusedSimpArgs false
namespace Go.Proofs.Ytjlgbgkpiganbaa.P
open Go.RowKit Go.Proofs.YtjlgbgkpiganbaaW.PrintWords Go.Proofs.YtjlgbgkpiganbaaW.PrintMore
theorem S68.eq' {a b : S68} (h0 : a.f0 = b.f0) (h1 : a.f1 = b.f1) (h2 : a.f2 = b.f2) : a = b := by
  cases a; cases b; simp_all
def tupS (s : S68) : Int × Int × List S152 := (s.f0, s.f1, s.f2)
def okS (s : S68) : Bool := decide (1 ≤ s.f0) && (decide (s.f0 ≤ 1099511627776) && (decide (0 ≤ s.f1) && (decide (s.f1 ≤ 1099511627776) && okB s.f2)))
theorem okS_iff {s : S68} : okS s = true ↔ (1 ≤ s.f0 ∧ s.f0 ≤ 1099511627776 ∧ 0 ≤ s.f1 ∧ s.f1 ≤ 1099511627776) ∧ okB s.f2 = true := by
  simp only [okS, Bool.and_eq_true, decide_eq_true_eq]
  constructor
  · rintro ⟨a, b, c, d, e⟩; exact ⟨⟨a, b, c, d⟩, e⟩
  · rintro ⟨⟨a, b, c, d⟩, e⟩; exact ⟨a, b, c, d, e⟩
theorem okS_sorted {s : S68} (h : okS s = true) : Sorted s.f2 := (okB_iff.1 (okS_iff.1 h).2).2
theorem okS_len {s : S68} (h : okS s = true) : s.f2.length ≤ 12 := okB_len (okS_iff.1 h).2
theorem ev_RightS (s : S68) (hn : s.f2.length ≤ 9223372036854775807) : Ev (fun k => state_Right.f k s.f0 s.f1 s.f2) (okS s) := by
  unfold state_Right.f okS
  by_cases h1 : 1 ≤ s.f0 <;> by_cases h2 : s.f0 ≤ 1099511627776 <;> by_cases h3 : 0 ≤ s.f1 <;> by_cases h4 : s.f1 ≤ 1099511627776 <;> simp only [ge_iff_le, h1, h2, h3, h4, if_true, if_false, decide_true, decide_false, Bool.true_and, Bool.false_and] <;> first | exact Ev.now _ | exact Ev.bind (f := fun _ t => some t) (ev_Right s.f2 hn) (Ev.now _)
theorem ev_RightS05 (s : S68) (hn : s.f2.length ≤ 9223372036854775807) : Ev (fun k => bellwetherref05_Right.f k s.f0 s.f1 s.f2) (okS s) := by
  unfold bellwetherref05_Right.f okS
  by_cases h1 : 1 ≤ s.f0 <;> by_cases h2 : s.f0 ≤ 1099511627776 <;> by_cases h3 : 0 ≤ s.f1 <;> by_cases h4 : s.f1 ≤ 1099511627776 <;> simp only [ge_iff_le, h1, h2, h3, h4, if_true, if_false, decide_true, decide_false, Bool.true_and, Bool.false_and] <;> first | exact Ev.now _ | exact Ev.bind (f := fun _ t => some t) (ev_Right04 s.f2 hn) (Ev.now _)
def joinS (a b : S68) : S68 := if a.f0 > b.f0 then a else if a.f0 < b.f0 then b else ⟨a.f0, mx a.f1 b.f1, mergeE a.f2 b.f2⟩
theorem ev_JoinS (a b : S68) (h : a.f2.length + b.f2.length < 4398046511104) : Ev (fun k => state_Join.f k a.f0 a.f1 a.f2 b.f0 b.f1 b.f2) (tupS (joinS a b)) := by
  unfold state_Join.f joinS
  by_cases h1 : a.f0 > b.f0
  · simp only [h1, if_true]
    refine Ev.congr (f := fun _ => some (tupS a)) (fun k => ?_) (Ev.now _)
    simp only [state_Copy.f, x185.f]; rw [if_pos (by omega)]; rfl
  · by_cases h2 : a.f0 < b.f0
    · simp only [h1, h2, if_true, if_false]
      refine Ev.congr (f := fun _ => some (tupS b)) (fun k => ?_) (Ev.now _)
      simp only [state_Copy.f, x185.f]; rw [if_pos (by omega)]; rfl
    · simp only [h1, h2, if_false]
      exact Ev.bind (f := fun _ t => some (a.f0, mx a.f1 b.f1, t)) (ev_Join a.f2 b.f2 h) (Ev.now _)
theorem ev_JoinS05 {a b : S68} (ha : Sorted a.f2) (hb : Sorted b.f2) (h : a.f2.length + b.f2.length + 1 < 4398046511104) : Ev (fun k => bellwetherref05_Join.f k a.f0 a.f1 a.f2 b.f0 b.f1 b.f2) (tupS (joinS a b)) := by
  unfold bellwetherref05_Join.f joinS
  by_cases h1 : a.f0 > b.f0
  · simp only [h1, if_true]
    refine Ev.congr (f := fun _ => some (tupS a)) (fun k => ?_) (Ev.now _)
    simp only [bellwetherref05_Copy.f, Option.bind_some, List.length_nil, List.nil_append]; rw [if_pos (by omega)]; rfl
  · by_cases h2 : a.f0 < b.f0
    · have h2' : b.f0 > a.f0 := h2
      simp only [h1, h2, h2', if_true, if_false]
      refine Ev.congr (f := fun _ => some (tupS b)) (fun k => ?_) (Ev.now _)
      simp only [bellwetherref05_Copy.f, Option.bind_some, List.length_nil, List.nil_append]; rw [if_pos (by omega)]; rfl
    · have h2' : ¬ b.f0 > a.f0 := h2
      simp only [h1, h2, h2', if_false]
      exact Ev.bind (f := fun _ t => some (a.f0, mx a.f1 b.f1, t)) (ev_Join04 ha hb h) (Ev.now _)
theorem ev_SameS (a b : S68) (hn : a.f2.length ≤ 9223372036854775807) : ∃ r, Ev (fun k => bellwetherref05_Same.f k a.f0 a.f1 a.f2 b.f0 b.f1 b.f2) r ∧ (r = true ↔ a = b) := by
  by_cases h1 : a.f0 = b.f0
  · by_cases h2 : a.f1 = b.f1
    · obtain ⟨r, h3, h4⟩ := ev_Same04 a.f2 b.f2 hn
      refine ⟨r, Ev.congr (f := fun k => (bellwetherref04_Same.f k a.f2 b.f2).bind fun t => some t) (fun k => by simp only [bellwetherref05_Same.f]; rw [if_pos h1, if_pos h2]) (Ev.bind (f := fun _ t => some t) h3 (Ev.now _)), ?_⟩
      rw [h4]
      exact ⟨fun h => S68.eq' h1 h2 h, fun h => by rw [h]⟩
    · exact ⟨false, Ev.congr (f := fun _ => some false) (fun k => by simp only [bellwetherref05_Same.f]; rw [if_pos h1, if_neg h2]) (Ev.now _), fun h => (by cases h), fun h => absurd (by rw [h]) h2⟩
  · exact ⟨false, Ev.congr (f := fun _ => some false) (fun k => by simp only [bellwetherref05_Same.f]; rw [if_neg h1]) (Ev.now _), fun h => (by cases h), fun h => absurd (by rw [h]) h1⟩
theorem ev_same_true {a b : S68} (hn : a.f2.length ≤ 9223372036854775807) (h : a = b) : Ev (fun k => bellwetherref05_Same.f k a.f0 a.f1 a.f2 b.f0 b.f1 b.f2) true := by
  obtain ⟨r, h1, h2⟩ := ev_SameS a b hn
  rw [h2.2 h] at h1; exact h1
def overS (a b : S68) : Bool := if a.f0 = b.f0 then decide (a.f1 ≥ b.f1) && overE a.f2 b.f2 else decide (a.f0 > b.f0)
theorem over_eq (a b : S68) : state_Over.f a.f0 a.f1 a.f2 b.f0 b.f1 b.f2 = some (overS a b) := by
  unfold state_Over.f overS
  by_cases h1 : a.f0 = b.f0
  · by_cases h2 : a.f1 ≥ b.f1
    · simp [h1, h2, x141.f, overE]
    · simp [h1, h2]
  · simp [h1]
theorem mx_comm (a b : Int) : mx a b = mx b a := by unfold mx; split <;> split <;> omega
theorem mx_assoc (a b c : Int) : mx (mx a b) c = mx a (mx b c) := by unfold mx; repeat' split
                                                                     all_goals omega
theorem mx_self (a : Int) : mx a a = a := by unfold mx; split <;> rfl
theorem joinS_gen (a b : S68) : (joinS a b).f0 = mx a.f0 b.f0 := by
  unfold joinS mx
  by_cases h1 : a.f0 > b.f0
  · rw [if_pos h1, if_neg (by omega)]
  · by_cases h2 : a.f0 < b.f0
    · rw [if_neg h1, if_pos h2, if_pos h2]
    · rw [if_neg h1, if_neg h2, if_neg h2]
theorem joinS_gt {a b : S68} (h : a.f0 > b.f0) : joinS a b = a := if_pos h
theorem joinS_lt {a b : S68} (h : a.f0 < b.f0) : joinS a b = b := by unfold joinS; rw [if_neg (by omega), if_pos h]
theorem joinS_eq {a b : S68} (h : a.f0 = b.f0) : joinS a b = ⟨a.f0, mx a.f1 b.f1, mergeE a.f2 b.f2⟩ := by unfold joinS; rw [if_neg (by omega), if_neg (by omega)]
theorem joinS_comm {a b : S68} (ha : Sorted a.f2) (hb : Sorted b.f2) : joinS a b = joinS b a := by
  rcases Int.lt_trichotomy a.f0 b.f0 with h | h | h
  · rw [joinS_lt h, joinS_gt h]
  · rw [joinS_eq h, joinS_eq h.symm, mx_comm, mergeE_comm ha hb, h]
  · rw [joinS_gt h, joinS_lt h]
theorem joinS_self {a : S68} (ha : Sorted a.f2) : joinS a a = a := by
  rw [joinS_eq rfl, mx_self, mergeE_self ha]
theorem joinS_sorted {a b : S68} (ha : Sorted a.f2) (hb : Sorted b.f2) : Sorted (joinS a b).f2 := by
  rcases Int.lt_trichotomy a.f0 b.f0 with h | h | h
  · rw [joinS_lt h]; exact hb
  · rw [joinS_eq h]; exact mergeE_sorted ha hb
  · rw [joinS_gt h]; exact ha
theorem joinS_assoc {a b c : S68} (ha : Sorted a.f2) (hb : Sorted b.f2) (hc : Sorted c.f2) : joinS (joinS a b) c = joinS a (joinS b c) := by
  rcases Int.lt_trichotomy a.f0 b.f0 with h | h | h <;> rcases Int.lt_trichotomy b.f0 c.f0 with g | g | g
  · rw [joinS_lt h, joinS_lt g, joinS_lt (by omega)]
  · rw [joinS_lt h, joinS_lt (a := a) (by rw [joinS_gen]; unfold mx; split <;> omega)]
  · rw [joinS_lt h, joinS_gt g, joinS_lt h]
  · rw [joinS_lt (a := joinS a b) (by rw [joinS_gen]; unfold mx; split <;> omega), joinS_lt g, joinS_lt (by omega)]
  · rw [joinS_eq h, joinS_eq g, joinS_eq (by exact h.trans g), joinS_eq (by exact h)]
    simp only [mx_assoc, mergeE_assoc ha hb hc]
  · rw [joinS_gt (a := joinS a b) (by rw [joinS_gen]; unfold mx; split <;> omega), joinS_gt g]
  · rw [joinS_gt h, joinS_lt g]
  · rw [joinS_gt h, joinS_gt (a := a) (b := joinS b c) (by rw [joinS_gen]; unfold mx; split <;> omega), joinS_gt (by omega)]
  · rw [joinS_gt h, joinS_gt g, joinS_gt h, joinS_gt (by omega)]
theorem mergeE_ok {a b : List S152} (ha : okB a = true) (hb : okB b = true) : okB (mergeE a b) = true := by
  obtain ⟨a1, a2⟩ := okB_iff.1 ha
  obtain ⟨b1, b2⟩ := okB_iff.1 hb
  refine okB_iff.2 ⟨fun x hx => ?_, mergeE_sorted a2 b2⟩
  rcases mergeE_mem hx with h | h
  · exact a1 x h
  · exact b1 x h
theorem joinS_ok {a b : S68} (ha : okS a = true) (hb : okS b = true) : okS (joinS a b) = true := by
  rcases Int.lt_trichotomy a.f0 b.f0 with h | h | h
  · rw [joinS_lt h]; exact hb
  · obtain ⟨a1, a2⟩ := okS_iff.1 ha
    obtain ⟨b1, b2⟩ := okS_iff.1 hb
    rw [joinS_eq h]
    refine okS_iff.2 ⟨⟨a1.1, a1.2.1, ?_, ?_⟩, mergeE_ok a2 b2⟩ <;> (simp only [mx]; split <;> omega)
  · rw [joinS_gt h]; exact ha
theorem overS_iff {a b : S68} (ha : Sorted a.f2) (hb : Sorted b.f2) : overS a b = true ↔ joinS a b = a := by
  unfold overS
  rcases Int.lt_trichotomy a.f0 b.f0 with h | h | h
  · rw [if_neg (by omega), joinS_lt h]
    constructor
    · intro q; simp only [decide_eq_true_eq] at q; omega
    · intro q; rw [q] at h; omega
  · rw [if_pos h, joinS_eq h, Bool.and_eq_true, decide_eq_true_eq, overE_iff ha hb]
    constructor
    · rintro ⟨q, r⟩
      refine S68.eq' rfl ?_ r
      simp only [mx]; rw [if_neg (by omega)]
    · intro q
      refine ⟨?_, congrArg S68.f2 q⟩
      have := congrArg S68.f1 q
      simp only [mx] at this
      split at this <;> omega
  · rw [if_neg (by omega), joinS_gt h]
    exact ⟨fun _ => rfl, fun _ => decide_eq_true h⟩
theorem ev_OverS05 {a b : S68} (ha : okS a = true) (hb : okS b = true) : Ev (fun k => bellwetherref05_Over.f k a.f0 a.f1 a.f2 b.f0 b.f1 b.f2) (overS a b) := by
  have la := okS_len ha
  have lb := okS_len hb
  have sa := okS_sorted ha
  have sb := okS_sorted hb
  have lj := okS_len (joinS_ok ha hb)
  obtain ⟨r, h1, h2⟩ := ev_SameS (joinS a b) a (by omega)
  have e : r = overS a b := by
    rw [Bool.eq_iff_iff, h2, overS_iff sa sb]
  rw [← e]
  unfold bellwetherref05_Over.f
  exact Ev.bind (ev_JoinS05 sa sb (by omega)) (Ev.bind (f := fun _ t => some t) h1 (Ev.now _))
end Go.Proofs.Ytjlgbgkpiganbaa.P
namespace Go.Proofs.Ytjlgbgkpiganbaa.P
open Go.RowKit Go.Proofs.YtjlgbgkpiganbaaW.PrintWords Go.Proofs.YtjlgbgkpiganbaaW.PrintLast Go.Proofs.YtjlgbgkpiganbaaW.PrintMore
attribute [local go_sem] max2_int min2_int max_two min_two max_three min_three max_four min_four
set_option linter.unusedVariables false
set_option linter.unusedSimpArgs false
def entry_Top.l0 : Nat → Int → List (S152) → Int → Int → Option (Int)
  | 0, _, _, _, _ => none
  | k + 1, x3, x6, x7, x8 => if x8 < x7 then (if 0 ≤ x8 then (if x8 < (x6.length : Int) then (entry_Top.l0 k (mx x3 ((rd_T152 x6 x8).f1)) x6 x7 (wrap64 (x8 + 1))) else (none)) else (none)) else (some x3)
def entry_Top.f (k : Nat) (l0 : List (S152)) : Option (Int) := entry_Top.l0 k 0 l0 (l0.length : Int) 0
theorem entry_Top.mono_l : ∀ k, (∀ y0 y1 y2 y3, LeO (entry_Top.l0 k y0 y1 y2 y3) (entry_Top.l0 (k + 1) y0 y1 y2 y3))
  | 0 => fun _ _ _ _ r h => by simp [entry_Top.l0] at h
  | k + 1 => by
    have ih0 := entry_Top.mono_l k
    · intro y0 y1 y2 y3
      unfold entry_Top.l0
      repeat' first
      | (with_reducible exact ih0 _ _ _ _)
      | (with_reducible exact LeO.refl _)
      | (with_reducible exact LeO.none _)
      | (with_reducible refine LeO.ite ?_ ?_)
      | (with_reducible refine LeO.bind ?_ (fun _ => ?_))
      | exact ih0 _ _ _ _
      | exact LeO.none _
      | refine LeO.ite ?_ ?_
      | refine LeO.bind ?_ (fun _ => ?_)
theorem entry_Top.mono : ∀ a0 k, LeO (entry_Top.f k a0) (entry_Top.f (k + 1) a0) := by
  intro a0 k
  have ih0 := entry_Top.mono_l k
  unfold entry_Top.f
  repeat' first
      | (with_reducible exact ih0 _ _ _ _)
      | (with_reducible exact LeO.refl _)
      | (with_reducible exact LeO.none _)
      | (with_reducible refine LeO.ite ?_ ?_)
      | (with_reducible refine LeO.bind ?_ (fun _ => ?_))
      | exact ih0 _ _ _ _
      | exact LeO.none _
      | refine LeO.ite ?_ ?_
      | refine LeO.bind ?_ (fun _ => ?_)
set_option maxHeartbeats 8000000 in
set_option maxRecDepth 100000 in
theorem entry_Top.calls (k : Nat) (A0 : Option Addr) (c0 : Nat) (l0 : List (S152)) (r : Int) (w : World) (hr0 : Kd.C k152 w A0 l0.length l0) (hc0 : l0.length ≤ c0) (h : entry_Top.f k l0 = some r) :
    Calls Try.prog 189 #[.slice A0 l0.length c0] w fun e w' => e = .returned (.int .i64 r) ∧ Below w.heap.size w w' := by
  have hu152 := Try.underlying152
  have HR0 := Aside0.mk hr0
  have HC0 := Aside0.mk hc0
  clear hr0 hc0
  have HB := Aside0.mk (Below.refl w.heap.size w)
  have H : (entry_Top.l0 k 0 l0 (l0.length : Int) 0) = some r := h
  clear h
  have H' := Aside0.mk H
  clear H
  go_enter Try.func189, Try.ntmps189
  go_wp2
  go_loopg [3, 8] k (fun kq v3 v8 w' => ∃ (x3_1 : Int) (x8_1 : Int), v3 = .int .i64 x3_1 ∧ v8 = .int .i64 x8_1 ∧ Aside0 (entry_Top.l0 kq x3_1 l0 (l0.length : Int) x8_1 = some r) ∧ Aside0 (kq ≤ k) ∧ Aside0 (Below w.heap.size w w'))
  case atStart => exact ⟨(0), (0), (by first | rfl | (simp; done) | (simp [*]; done)), (by first | rfl | (simp; done) | (simp [*]; done)), H', ⟨Nat.le_refl _⟩, ⟨by repeat (first | (with_reducible first | exact HB.out | apply below_alloc | apply pw_below_drewN | apply below_drew1) | exact HB.out)⟩⟩
  case round =>
    clear H'
    try clear c1
    obtain ⟨x3_1, x8_1, rfl, rfl, HA, HK1, HB⟩ := hrel
    cases gk with
    | zero => exact absurd HA.out (by simp [entry_Top.l0])
    | succ k1 =>
      have H := HA.out
      clear HA
      simp only [entry_Top.l0] at H
      by_cases c2 : x8_1 < (l0.length : Int)
      · rw [if_pos c2] at H
        have c2b0 : decide (x8_1 < (l0.length : Int)) = true := decide_eq_true c2
        clear c2
        by_cases c3 : 0 ≤ x8_1
        · rw [if_pos c3] at H
          have c3b0 : decide (0 ≤ x8_1) = true := decide_eq_true c3
          clear c3
          by_cases c4 : x8_1 < (l0.length : Int)
          · rw [if_pos c4] at H
            have c4b0 : decide (x8_1 < (l0.length : Int)) = true := decide_eq_true c4
            clear c4
            obtain ⟨ji5, hji5⟩ : ∃ j_ : Int, (mx x3_1 ((rd_T152 l0 x8_1).f1)) = j_ := ⟨_, rfl⟩
            replace H : (entry_Top.l0 k1 ji5 l0 (l0.length : Int) (wrap64 (x8_1 + 1))) = some r := by first | (rw [hji5] at H; exact H) | (simp only [hji5] at H ⊢; exact H)
            have hji5_ : (if x3_1 < ((rd_T152 l0 x8_1).f1) then ((rd_T152 l0 x8_1).f1) else x3_1) = ji5 := hji5
            have H' := Aside0.mk H
            clear H
            have p101 : 0 ≤ (x8_1 : Int) := of_decide_eq_true (by first | (with_reducible assumption) | assumption)
            have q101 : x8_1 < (l0.length : Int) := of_decide_eq_true (by first | (with_reducible assumption) | assumption)
            obtain ⟨ad101, e101, hx101_0, hx101_1, hx101_2⟩ := at_T152 HR0.out x8_1 p101 q101
            cases e101
            replace hx101_0 := (HB.out.cell (World.block_lt_of_cell? w _ hx101_0)).trans hx101_0
            replace hx101_1 := (HB.out.cell (World.block_lt_of_cell? w _ hx101_1)).trans hx101_1
            replace hx101_2 := (HB.out.cell (World.block_lt_of_cell? w _ hx101_2)).trans hx101_2
            replace p101 := eq_true p101
            replace q101 := eq_true q101
            go_wp2_with (first | ((with_reducible refine gate_dst (N := 5) rfl ?_); refine box_event ?hg (N := 5) ?hd (cs := #[.int .i64 0, .int .i64 0, .string (⟨#[]⟩ : ByteArray)]) (t := 152) ?hr ?_; (case hd => rfl); (case hg => rfl); (case hr => first | (go_simp; done) | (go_simp; rfl)); intro gb102 hg w6 hbox hb; have n0_ := Aside0.mk (below_step (by repeat (first | (with_reducible first | exact HB.out | apply below_alloc | apply pw_below_drewN | apply below_drew1) | exact HB.out)) hb); have n1_ := Aside0.mk (hbox); have n2_ := Aside0.mk ((by rw [hg]; exact (below_size (by repeat (first | (with_reducible first | exact HB.out | apply below_alloc | apply pw_below_drewN | apply below_drew1) | exact HB.out))) : w.heap.size ≤ gb102)); have n3_ := Aside0.mk ((by rw [hg]; exact (below_size (by repeat (first | (with_reducible first | exact HB.out | apply below_alloc | apply pw_below_drewN | apply below_drew1) | exact HB.out))) : w.heap.size ≤ gb102)); clear HB; have HB := n0_; have BK102 := n1_; have GW102 := n2_; have GE102 := n3_; clear n0_ n1_ n2_ n3_; clear hb hbox hg; have hcz7_0 : w6.cell? ⟨gb102, 0, none⟩ = some (.int .i64 0) := (blk_cell BK102.out 0).trans rfl; have hcz7_1 : w6.cell? ⟨gb102, 1, none⟩ = some (.int .i64 0) := (blk_cell BK102.out 1).trans rfl; have hcz7_2 : w6.cell? ⟨gb102, 2, none⟩ = some (.string (⟨#[]⟩ : ByteArray)) := (blk_cell BK102.out 2).trans rfl; have hfz7_0 := blk_frozen BK102.out 0; have hfz7_1 := blk_frozen BK102.out 1; have hfz7_2 := blk_frozen BK102.out 2))
            go_roundg k1
            case measure => have := HK1.out; omega
            case rel => exact ⟨(ji5), (wrap64 (x8_1 + 1)), (by first | rfl | (simp; done) | (simp only [← hji5] <;> (first | rfl | simp)) | (simp [*]; done)), (by first | rfl | (simp; done) | (simp [*]; done)), H', ⟨by have := HK1.out; omega⟩, ⟨by repeat (first | (with_reducible first | exact HB.out | apply below_alloc | apply pw_below_drewN | apply below_drew1 | refine below_set ?_ GE102.out) | exact HB.out)⟩⟩
          · rw [if_neg c4] at H
            exact absurd H (by simp)
        · rw [if_neg c3] at H
          exact absurd H (by simp)
      · rw [if_neg c2] at H
        have c2b0 : decide (x8_1 < (l0.length : Int)) = false := decide_eq_false c2
        clear c2
        obtain rfl := Option.some.inj H
        go_wp2
        go_ret
        exact ⟨by first | rfl | (simp [errW_none, errW_some] <;> rfl) | (simp [*, errW_none, errW_some] <;> rfl), by repeat (first | (with_reducible first | exact HB.out | apply below_alloc | apply pw_below_drewN | apply below_drew1) | exact HB.out)⟩
end Go.Proofs.Ytjlgbgkpiganbaa.P
