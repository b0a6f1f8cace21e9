/-
  Parts: L2a (brought together by wip/pack.py; W..: words printed by the kit's print.sh; P..: printed by wip/xp.py).
-/
import Derived.Deep.DeepCutAuto
import Derived.Deep.RegionHeld3
import Derived.Outline
import Derived.Test.YtjlgbgkpiganbaaCSL18
set_option linter.unusedVariables false
set_option linter.unusedSimpArgs false
namespace Go.Proofs.Ytjlgbgkpiganbaa.P
open Go.RowKit Go.Proofs.YtjlgbgkpiganbaaW.PrintWords Go.Proofs.YtjlgbgkpiganbaaW.PrintLast Go.Proofs.YtjlgbgkpiganbaaW.PrintMore
set_option maxRecDepth 100000 in
set_option maxHeartbeats 40000000 in
theorem law12_main_a (a b c : S68) (A B C : Option Addr) (ca cb cc : Nat) (w : World) (ha : St w A ca a) (hb : St w B cb b) (hc : St w C cc c) (x y d : S68) (hg : Ev (fun k => bellwetherlaw05_great.f k [a, b, c]) false) (oa : okS a = true) (ob : okS b = true) (oc : okS c = true) (ox : okS x = true) (la : a.f2.length ≤ 12) (lb : b.f2.length ≤ 12) (lc : c.f2.length ≤ 12) (lx : x.f2.length ≤ 12) (ld : d.f2.length ≤ 12) (e1 : joinS a b = x) (e2 : joinS x c = y) (e3 : joinS c b = d) (e4 : joinS a d = y) (e5 : joinS b a = x) (e6 : joinS x x = x) (sa : Sorted a.f2) (sb : Sorted b.f2) (o1 : overS x a = true) (o2 : overS x b = true) (r3 : Bool) (o3 : overS a b = r3) (ht : overS c a = false) :
    Calls Try.prog 12 #[ag A ca a, ag B cb b, ag C cc c] w fun e w' => e = .returned (.bool true) ∧ Below w.heap.size w w' := by
  have hu := Try.underlying68
  have HA := Aside0.mk ha
  have HBB := Aside0.mk hb
  have HCC := Aside0.mk hc
  have B0 := Aside0.mk (show Below w.heap.size w (((w.alloc (.cells #[.int .i64 a.f0, .int .i64 a.f1, .slice A a.f2.length ca] 68)).alloc (.cells #[.int .i64 b.f0, .int .i64 b.f1, .slice B b.f2.length cb] 68)).alloc (.cells #[.int .i64 c.f0, .int .i64 c.f1, .slice C c.f2.length cc] 68)) from by repeat (first | exact Below.refl _ _ | apply below_alloc))
  have HG := Aside0.mk hg
  have OA := Aside0.mk oa
  have OB := Aside0.mk ob
  have OC := Aside0.mk oc
  have OX := Aside0.mk ox
  have NA := Aside0.mk la
  have NB := Aside0.mk lb
  have NC := Aside0.mk lc
  have NX := Aside0.mk lx
  have ND := Aside0.mk ld
  have E1 := Aside0.mk e1
  have E2 := Aside0.mk e2
  have E3 := Aside0.mk e3
  have E4 := Aside0.mk e4
  have E5 := Aside0.mk e5
  have E6 := Aside0.mk e6
  have SOA := Aside0.mk sa
  have SOB := Aside0.mk sb
  have O1 := Aside0.mk o1
  have O2 := Aside0.mk o2
  have O3 := Aside0.mk o3
  have HT := Aside0.mk ht
  clear ha hb hc hg oa ob oc ox la lb lc lx ld e1 e2 e3 e4 e5 e6 sa sb o1 o2 o3 ht
  go_enter Try.func12, Try.ntmps12
  go_wp2_with (go_at_call 67; refine (cAlive67 _).mono ?_)
  rintro e w1 ⟨rfl, hb⟩
  have k1 := hb.size
  simp at k1
  have ba := (hb.block w.heap.size (by simp <;> omega)).trans ((Below.heap_alloc _ _ _ (by simp <;> omega)).trans ((Below.heap_alloc _ _ _ (by simp)).trans (heap_alloc_new w (.cells #[.int .i64 a.f0, .int .i64 a.f1, .slice A a.f2.length ca] 68))))
  have bb := (hb.block (w.heap.size + 1) (by simp)).trans ((Below.heap_alloc _ _ _ (by simp)).trans (al1 _ _ _ (by simp)))
  have bc := (hb.block (w.heap.size + 1 + 1) (by simp)).trans (al1 _ _ _ (by simp))
  have qa0 : w1.cell? ⟨w.heap.size, 0, none⟩ = some (.int .i64 a.f0) := (blk_cell ba 0).trans rfl
  have qa1 : w1.cell? ⟨w.heap.size, 1, none⟩ = some (.int .i64 a.f1) := (blk_cell ba 1).trans rfl
  have qa2 : w1.cell? ⟨w.heap.size, 2, none⟩ = some (.slice A a.f2.length ca) := (blk_cell ba 2).trans rfl
  have qb0 : w1.cell? ⟨w.heap.size + 1, 0, none⟩ = some (.int .i64 b.f0) := (blk_cell bb 0).trans rfl
  have qb1 : w1.cell? ⟨w.heap.size + 1, 1, none⟩ = some (.int .i64 b.f1) := (blk_cell bb 1).trans rfl
  have qb2 : w1.cell? ⟨w.heap.size + 1, 2, none⟩ = some (.slice B b.f2.length cb) := (blk_cell bb 2).trans rfl
  have qc0 : w1.cell? ⟨w.heap.size + 1 + 1, 0, none⟩ = some (.int .i64 c.f0) := (blk_cell bc 0).trans rfl
  have qc1 : w1.cell? ⟨w.heap.size + 1 + 1, 1, none⟩ = some (.int .i64 c.f1) := (blk_cell bc 1).trans rfl
  have qc2 : w1.cell? ⟨w.heap.size + 1 + 1, 2, none⟩ = some (.slice C c.f2.length cc) := (blk_cell bc 2).trans rfl
  have B1 := Aside0.mk (below_step B0.out hb)
  have LA := Aside0.mk (HA.out.below B1.out)
  have LB := Aside0.mk (HBB.out.below B1.out)
  have LC := Aside0.mk (HCC.out.below B1.out)
  have l1a : w.heap.size < w1.heap.size := by omega
  have l1b : w.heap.size + 1 < w1.heap.size := by omega
  have l1c : w.heap.size + 1 + 1 < w1.heap.size := by omega
  clear hb ba bb bc k1
  go_wp2_with (go_at_call 68; refine (bellwetherlaw05_great.calls HG.out.rounds.choose _ 3 [a, b, c] _ _ (C_three (al1 w1 (.cells #[.int .i64 a.f0, .int .i64 a.f1, .slice A a.f2.length ca, .int .i64 b.f0, .int .i64 b.f1, .slice B b.f2.length cb, .int .i64 c.f0, .int .i64 c.f1, .slice C c.f2.length cc] 68) _ rfl) (LA.out.below (below_alloc (Below.refl _ _) _)) (LB.out.below (below_alloc (Below.refl _ _) _)) (LC.out.below (below_alloc (Below.refl _ _) _))) (Nat.le_refl _) HG.out.rounds.choose_spec).mono ?_)
  rintro e w2 ⟨rfl, hb⟩
  have B2 := Aside0.mk (below_step (below_alloc B1.out _) hb)
  have hc2 := bcell' hb
  have z2 := hb.size
  simp at z2
  have m1a : w.heap.size < w1.heap.size + 1 := by omega
  have m1b : w.heap.size + 1 < w1.heap.size + 1 := by omega
  have m1c : w.heap.size + 1 + 1 < w1.heap.size + 1 := by omega
  have l2a : w.heap.size < w2.heap.size := by omega
  have l2b : w.heap.size + 1 < w2.heap.size := by omega
  have l2c : w.heap.size + 1 + 1 < w2.heap.size := by omega
  have M2 := Aside0.mk (below_step (below_alloc (Below.refl _ _) _) hb : Below w1.heap.size w1 w2)
  clear hb z2
  go_wp2_with (go_at_call 69; refine (cRight69 ((LA.out.below M2.out)) OA.out).mono ?_)
  rintro e w3 ⟨rfl, hb⟩
  have B3 := Aside0.mk (below_step B2.out hb)
  have hc3 := bcell' hb
  have z3 := hb.size
  have l3a : w.heap.size < w3.heap.size := by omega
  have l3b : w.heap.size + 1 < w3.heap.size := by omega
  have l3c : w.heap.size + 1 + 1 < w3.heap.size := by omega
  have M3 := Aside0.mk (below_step M2.out hb)
  clear hb z3
  go_wp2_with (go_at_call 69; refine (cRight69 ((LB.out.below M3.out)) OB.out).mono ?_)
  rintro e w4 ⟨rfl, hb⟩
  have B4 := Aside0.mk (below_step B3.out hb)
  have hc4 := bcell' hb
  have z4 := hb.size
  have l4a : w.heap.size < w4.heap.size := by omega
  have l4b : w.heap.size + 1 < w4.heap.size := by omega
  have l4c : w.heap.size + 1 + 1 < w4.heap.size := by omega
  have M4 := Aside0.mk (below_step M3.out hb)
  clear hb z4
  go_wp2_with (go_at_call 69; refine (cRight69 ((LC.out.below M4.out)) OC.out).mono ?_)
  rintro e w5 ⟨rfl, hb⟩
  have B5 := Aside0.mk (below_step B4.out hb)
  have hc5 := bcell' hb
  have z5 := hb.size
  have l5a : w.heap.size < w5.heap.size := by omega
  have l5b : w.heap.size + 1 < w5.heap.size := by omega
  have l5c : w.heap.size + 1 + 1 < w5.heap.size := by omega
  have M5 := Aside0.mk (below_step M4.out hb)
  clear hb z5
  go_wp2_with (go_at_call 70; refine (cJoin70' (LA.out.below M5.out) (LB.out.below M5.out) NA.out NB.out E1.out).mono ?_)
  rintro e w6 ⟨A7, c7, rfl, ho, hb⟩
  have M6 := Aside0.mk (below_step M5.out hb)
  have hc6 := bcell' hb
  have z6 := hb.size
  have l6a : w.heap.size < w6.heap.size := by omega
  have l6b : w.heap.size + 1 < w6.heap.size := by omega
  have l6c : w.heap.size + 1 + 1 < w6.heap.size := by omega
  have n6a : w.heap.size < w6.heap.size + 1 := by omega
  have n6b : w.heap.size + 1 < w6.heap.size + 1 := by omega
  have n6c : w.heap.size + 1 + 1 < w6.heap.size + 1 := by omega
  have LX := Aside0.mk ho
  clear hb z6 ho
  go_wp2_with (go_at_call 70; refine (cJoin70' (LX.out.below (below_alloc (Below.refl _ _) _)) (LC.out.below (below_alloc M6.out _)) NX.out NC.out E2.out).mono ?_)
  rintro e w7 ⟨A8, c8, rfl, ho, hb⟩
  have M7 := Aside0.mk (below_step (below_alloc M6.out _) hb)
  have X7 := Aside0.mk (below_step (below_alloc (Below.refl w6.heap.size w6) _) hb)
  have hc7 := bcell' hb
  have z7 := hb.size
  simp at z7
  have bx := (hb.block w6.heap.size (by simp)).trans (al1 _ _ _ rfl)
  have qx0 : w7.cell? ⟨w6.heap.size, 0, none⟩ = some (.int .i64 x.f0) := (blk_cell bx 0).trans rfl
  have qx1 : w7.cell? ⟨w6.heap.size, 1, none⟩ = some (.int .i64 x.f1) := (blk_cell bx 1).trans rfl
  have qx2 : w7.cell? ⟨w6.heap.size, 2, none⟩ = some (.slice A7 x.f2.length c7) := (blk_cell bx 2).trans rfl
  have l7a : w.heap.size < w7.heap.size := by omega
  have l7b : w.heap.size + 1 < w7.heap.size := by omega
  have l7c : w.heap.size + 1 + 1 < w7.heap.size := by omega
  have l7x : w6.heap.size < w7.heap.size := by omega
  have LY := Aside0.mk ho
  clear hb z7 ho bx
  have l7d : w7.heap.size = w7.heap.size := rfl
  clear l7d
  go_upto_region 6 with (fail)
  go_wp2
  obtain ⟨v0, hv0⟩ : ∃ v0, v0 = w7.alloc (.cells #[.int .i64 y.f0, .int .i64 y.f1, .slice A8 y.f2.length c8] 68) := ⟨_, rfl⟩
  rw [← hv0]
  have P0 := Aside0.mk (show Below w7.heap.size w7 v0 from hv0 ▸ below_alloc (Below.refl _ _) _)
  have by0 := Aside0.mk (show v0.heap[w7.heap.size]? = some (.cells #[.int .i64 y.f0, .int .i64 y.f1, .slice A8 y.f2.length c8] 68) from by rw [hv0]; exact al1 _ _ _ rfl)
  have ra0 := Aside0.mk (show v0.cell? ⟨w.heap.size, 0, none⟩ = some (.int .i64 a.f0) from (P0.out.cell (p := ⟨w.heap.size, 0, none⟩) l7a).trans ((M7.out.cell (p := ⟨w.heap.size, 0, none⟩) l1a).trans qa0))
  have ra1 := Aside0.mk (show v0.cell? ⟨w.heap.size, 1, none⟩ = some (.int .i64 a.f1) from (P0.out.cell (p := ⟨w.heap.size, 1, none⟩) l7a).trans ((M7.out.cell (p := ⟨w.heap.size, 1, none⟩) l1a).trans qa1))
  have ra2 := Aside0.mk (show v0.cell? ⟨w.heap.size, 2, none⟩ = some (.slice A a.f2.length ca) from (P0.out.cell (p := ⟨w.heap.size, 2, none⟩) l7a).trans ((M7.out.cell (p := ⟨w.heap.size, 2, none⟩) l1a).trans qa2))
  have rb0 := Aside0.mk (show v0.cell? ⟨w.heap.size + 1, 0, none⟩ = some (.int .i64 b.f0) from (P0.out.cell (p := ⟨w.heap.size + 1, 0, none⟩) l7b).trans ((M7.out.cell (p := ⟨w.heap.size + 1, 0, none⟩) l1b).trans qb0))
  have rb1 := Aside0.mk (show v0.cell? ⟨w.heap.size + 1, 1, none⟩ = some (.int .i64 b.f1) from (P0.out.cell (p := ⟨w.heap.size + 1, 1, none⟩) l7b).trans ((M7.out.cell (p := ⟨w.heap.size + 1, 1, none⟩) l1b).trans qb1))
  have rb2 := Aside0.mk (show v0.cell? ⟨w.heap.size + 1, 2, none⟩ = some (.slice B b.f2.length cb) from (P0.out.cell (p := ⟨w.heap.size + 1, 2, none⟩) l7b).trans ((M7.out.cell (p := ⟨w.heap.size + 1, 2, none⟩) l1b).trans qb2))
  have rc0 := Aside0.mk (show v0.cell? ⟨w.heap.size + 1 + 1, 0, none⟩ = some (.int .i64 c.f0) from (P0.out.cell (p := ⟨w.heap.size + 1 + 1, 0, none⟩) l7c).trans ((M7.out.cell (p := ⟨w.heap.size + 1 + 1, 0, none⟩) l1c).trans qc0))
  have rc1 := Aside0.mk (show v0.cell? ⟨w.heap.size + 1 + 1, 1, none⟩ = some (.int .i64 c.f1) from (P0.out.cell (p := ⟨w.heap.size + 1 + 1, 1, none⟩) l7c).trans ((M7.out.cell (p := ⟨w.heap.size + 1 + 1, 1, none⟩) l1c).trans qc1))
  have rc2 := Aside0.mk (show v0.cell? ⟨w.heap.size + 1 + 1, 2, none⟩ = some (.slice C c.f2.length cc) from (P0.out.cell (p := ⟨w.heap.size + 1 + 1, 2, none⟩) l7c).trans ((M7.out.cell (p := ⟨w.heap.size + 1 + 1, 2, none⟩) l1c).trans qc2))
  have rx0 := Aside0.mk (show v0.cell? ⟨w6.heap.size, 0, none⟩ = some (.int .i64 x.f0) from (P0.out.cell (p := ⟨w6.heap.size, 0, none⟩) l7x).trans qx0)
  have rx1 := Aside0.mk (show v0.cell? ⟨w6.heap.size, 1, none⟩ = some (.int .i64 x.f1) from (P0.out.cell (p := ⟨w6.heap.size, 1, none⟩) l7x).trans qx1)
  have rx2 := Aside0.mk (show v0.cell? ⟨w6.heap.size, 2, none⟩ = some (.slice A7 x.f2.length c7) from (P0.out.cell (p := ⟨w6.heap.size, 2, none⟩) l7x).trans qx2)
  have SA := Aside0.mk (LA.out.below (below_step M7.out P0.out))
  have SB := Aside0.mk (LB.out.below (below_step M7.out P0.out))
  have SC := Aside0.mk (LC.out.below (below_step M7.out P0.out))
  have SX := Aside0.mk (LX.out.below (below_step X7.out P0.out))
  have SY := Aside0.mk (LY.out.below P0.out)
  have BV := Aside0.mk (below_step (below_step B1.out M7.out) P0.out)
  have y0 := by0.out
  have ga : w.heap.size < v0.heap.size := Nat.lt_of_lt_of_le l7a P0.out.size
  have gb : w.heap.size + 1 < v0.heap.size := Nat.lt_of_lt_of_le l7b P0.out.size
  have gc : w.heap.size + 1 + 1 < v0.heap.size := Nat.lt_of_lt_of_le l7c P0.out.size
  have gx : w6.heap.size < v0.heap.size := Nat.lt_of_lt_of_le l7x P0.out.size
  have gy : w7.heap.size < v0.heap.size := (Array.getElem?_eq_some_iff.1 y0).1
  have ka0 : ∀ V, Below v0.heap.size v0 V → V.cell? ⟨w.heap.size, 0, none⟩ = some (.int .i64 a.f0) := fun V h => (h.cell (p := ⟨w.heap.size, 0, none⟩) ga).trans (ra0.out)
  have ka1 : ∀ V, Below v0.heap.size v0 V → V.cell? ⟨w.heap.size, 1, none⟩ = some (.int .i64 a.f1) := fun V h => (h.cell (p := ⟨w.heap.size, 1, none⟩) ga).trans (ra1.out)
  have ka2 : ∀ V, Below v0.heap.size v0 V → V.cell? ⟨w.heap.size, 2, none⟩ = some (.slice A a.f2.length ca) := fun V h => (h.cell (p := ⟨w.heap.size, 2, none⟩) ga).trans (ra2.out)
  have kb0 : ∀ V, Below v0.heap.size v0 V → V.cell? ⟨w.heap.size + 1, 0, none⟩ = some (.int .i64 b.f0) := fun V h => (h.cell (p := ⟨w.heap.size + 1, 0, none⟩) gb).trans (rb0.out)
  have kb1 : ∀ V, Below v0.heap.size v0 V → V.cell? ⟨w.heap.size + 1, 1, none⟩ = some (.int .i64 b.f1) := fun V h => (h.cell (p := ⟨w.heap.size + 1, 1, none⟩) gb).trans (rb1.out)
  have kb2 : ∀ V, Below v0.heap.size v0 V → V.cell? ⟨w.heap.size + 1, 2, none⟩ = some (.slice B b.f2.length cb) := fun V h => (h.cell (p := ⟨w.heap.size + 1, 2, none⟩) gb).trans (rb2.out)
  have kc0 : ∀ V, Below v0.heap.size v0 V → V.cell? ⟨w.heap.size + 1 + 1, 0, none⟩ = some (.int .i64 c.f0) := fun V h => (h.cell (p := ⟨w.heap.size + 1 + 1, 0, none⟩) gc).trans (rc0.out)
  have kc1 : ∀ V, Below v0.heap.size v0 V → V.cell? ⟨w.heap.size + 1 + 1, 1, none⟩ = some (.int .i64 c.f1) := fun V h => (h.cell (p := ⟨w.heap.size + 1 + 1, 1, none⟩) gc).trans (rc1.out)
  have kc2 : ∀ V, Below v0.heap.size v0 V → V.cell? ⟨w.heap.size + 1 + 1, 2, none⟩ = some (.slice C c.f2.length cc) := fun V h => (h.cell (p := ⟨w.heap.size + 1 + 1, 2, none⟩) gc).trans (rc2.out)
  have kx0 : ∀ V, Below v0.heap.size v0 V → V.cell? ⟨w6.heap.size, 0, none⟩ = some (.int .i64 x.f0) := fun V h => (h.cell (p := ⟨w6.heap.size, 0, none⟩) gx).trans (rx0.out)
  have kx1 : ∀ V, Below v0.heap.size v0 V → V.cell? ⟨w6.heap.size, 1, none⟩ = some (.int .i64 x.f1) := fun V h => (h.cell (p := ⟨w6.heap.size, 1, none⟩) gx).trans (rx1.out)
  have kx2 : ∀ V, Below v0.heap.size v0 V → V.cell? ⟨w6.heap.size, 2, none⟩ = some (.slice A7 x.f2.length c7) := fun V h => (h.cell (p := ⟨w6.heap.size, 2, none⟩) gx).trans (rx2.out)
  have ky0 : ∀ V, Below v0.heap.size v0 V → V.cell? ⟨w7.heap.size, 0, none⟩ = some (.int .i64 y.f0) := fun V h => (h.cell (p := ⟨w7.heap.size, 0, none⟩) gy).trans ((blk_cell y0 0).trans rfl)
  have ky1 : ∀ V, Below v0.heap.size v0 V → V.cell? ⟨w7.heap.size, 1, none⟩ = some (.int .i64 y.f1) := fun V h => (h.cell (p := ⟨w7.heap.size, 1, none⟩) gy).trans ((blk_cell y0 1).trans rfl)
  have ky2 : ∀ V, Below v0.heap.size v0 V → V.cell? ⟨w7.heap.size, 2, none⟩ = some (.slice A8 y.f2.length c8) := fun V h => (h.cell (p := ⟨w7.heap.size, 2, none⟩) gy).trans ((blk_cell y0 2).trans rfl)
  clear ra0 ra1 ra2 rb0 rb1 rb2 rc0 rc1 rc2 rx0 rx1 rx2
  clear hv0 hc2 hc3 hc4 hc5 hc6 hc7 P0 M7 X7 M6 LA LB LC LX LY B0 B1 B2 B3 B4 B5 M2 M3 M4 M5 by0 y0 HA HBB HCC HG OC l1a l1b l1c l2a l2b l2c l3a l3b l3c l4a l4b l4c l5a l5b l5c l6a l6b l6c n6a n6b n6c l7a l7b l7c l7x m1a m1b m1c qa0 qa1 qa2 qb0 qb1 qb2 qc0 qc1 qc2 qx0 qx1 qx2
  generalize hg1 : w.heap.size = g1 at *
  have HG1 := Aside0.mk hg1
  clear hg1
  go_upto_region 7 with (fail)
  go_cut [9] (fun v9 wc => ∃ (gz : Nat) (A10 : Option Addr) (c10 : Nat), v9 = .pointer (some ⟨gz, 0, none⟩) ∧ Aside0 (wc.heap[gz]? = some (.cells #[.int .i64 y.f0, .int .i64 y.f1, .slice A10 y.f2.length c10] 68 (0, 0))) ∧ Aside0 (St wc A10 c10 y) ∧ Aside0 (Below v0.heap.size v0 wc))
  case first =>
    go_region_held3 (fun V => Below v0.heap.size v0 V) (repeat (first | assumption | exact Q9.out | exact Q8.out | exact Below.refl _ _ | refine below_drew1 ?_ | exact below_step (by assumption) (by assumption) | refine below_alloc ?_ _ | refine below_set ?_ (by omega))) ((go_at_call 70; first | ((with_reducible refine (cJoin70' (SC.out.below (by assumption)) (SB.out.below (by assumption)) NC.out NB.out E3.out).mono ?_); rintro e w8 ⟨A9, c9, rfl, ho8, hb8⟩; have S8 := Aside0.mk ho8; have hc8 := bcell' hb8; have hf8 := bfroz' hb8; have z8 := hb8.size; (try simp at z8); have Q8 := Aside0.mk (show Below v0.heap.size v0 w8 from below_step (by assumption) hb8); have s8 : v0.heap.size ≤ w8.heap.size := Q8.out.size; (try have bz := (hb8.block v0.heap.size (by simp)).trans (show ((v0.alloc (.cells #[.int .i64 0, .int .i64 0, .slice none 0 0] 68)).drew).heap[v0.heap.size]? = _ from al1 _ _ _ rfl)); (try have BZ := Aside0.mk bz); (try clear bz)) | ((with_reducible refine (cJoin70R (SA.out.below (by assumption)) (by first | exact S8.out | exact S8.out.below (below_alloc (Below.refl _ _) _)) NA.out ND.out E4.out).mono ?_); rintro e w9 ⟨A10, c10, rfl, -, ho9, hb9⟩; have S9 := Aside0.mk ho9; have hc9 := bcell' hb9; have hf9 := bfroz' hb9; have z9 := hb9.size; (try simp at z9); have Q9 := Aside0.mk (show Below v0.heap.size v0 w9 from below_step (by assumption) hb9); have s9 : v0.heap.size ≤ w9.heap.size := Q9.out.size; (try have bz2 := (hb9.block v0.heap.size z8).trans BZ.out); (try have fz0 := blk_frozen bz2 0); (try have fz1 := blk_frozen bz2 1); (try have fz2 := blk_frozen bz2 2); (try have qz0 : w9.cell? ⟨v0.heap.size, 0, none⟩ = some (.int .i64 0) := (blk_cell bz2 0).trans rfl); (try have qz1 : w9.cell? ⟨v0.heap.size, 1, none⟩ = some (.int .i64 0) := (blk_cell bz2 1).trans rfl); (try have qz2 : w9.cell? ⟨v0.heap.size, 2, none⟩ = some (.slice none 0 0) := (blk_cell bz2 2).trans rfl); (try have BZ2 := Aside0.mk bz2); (try have BZ3 := Aside0.mk ((hb9.block w8.heap.size (by simp)).trans (al1 w8 (.cells #[.int .i64 0, .int .i64 0, .slice none 0 0] 68) _ rfl))); (try clear bz2))))
    all_goals
      go_wp2
      go_meet
      case rel => exact ⟨_, _, _, rfl, ⟨by first | exact al1 _ _ _ rfl | exact blk_put (blk_put (blk_put BZ2.out 0 _ rfl) 1 _ rfl) 2 _ rfl | exact blk_put (blk_put (blk_put BZ3.out 0 _ rfl) 1 _ rfl) 2 _ rfl⟩, ⟨St_of_R (by first | exact Kd.R_alloc S9.out _ | exact Kd.R_set (Kd.R_set (Kd.R_set S9.out BZ2.out (by decide) 0 _) (blk_put BZ2.out 0 _ rfl) (by decide) 1 _) (blk_put (blk_put BZ2.out 0 _ rfl) 1 _ rfl) (by decide) 2 _ | exact Kd.R_set (Kd.R_set (Kd.R_set S9.out BZ3.out (by decide) 0 _) (blk_put BZ3.out 0 _ rfl) (by decide) 1 _) (blk_put (blk_put BZ3.out 0 _ rfl) 1 _ rfl) (by decide) 2 _)⟩, ⟨by repeat (first | assumption | exact Q9.out | exact Below.refl _ _ | refine below_drew1 ?_ | refine below_alloc ?_ _ | refine below_set ?_ (by omega))⟩⟩
  case rest =>
    obtain ⟨gz, A10, c10, rfl, BZ, SZ, PZ⟩ := hcut
    obtain ⟨u0, hu0⟩ : ∃ u0, u0 = wc := ⟨_, rfl⟩
    subst hu0
    have TA := Aside0.mk (SA.out.below PZ.out)
    have TB := Aside0.mk (SB.out.below PZ.out)
    have TC := Aside0.mk (SC.out.below PZ.out)
    have TX := Aside0.mk (SX.out.below PZ.out)
    have TY := Aside0.mk (SY.out.below PZ.out)
    have hz0 := BZ.out
    have BU := Aside0.mk (below_then' BV.out (Nat.le_of_lt ga) PZ.out)
    have gz0 : gz < u0.heap.size := (Array.getElem?_eq_some_iff.1 hz0).1
    have ua : g1 < u0.heap.size := Nat.lt_of_lt_of_le ga PZ.out.size
    have ub : g1 + 1 < u0.heap.size := Nat.lt_of_lt_of_le gb PZ.out.size
    have uc : g1 + 1 + 1 < u0.heap.size := Nat.lt_of_lt_of_le gc PZ.out.size
    have ux : w6.heap.size < u0.heap.size := Nat.lt_of_lt_of_le gx PZ.out.size
    have uy : w7.heap.size < u0.heap.size := Nat.lt_of_lt_of_le gy PZ.out.size
    have ma0 : ∀ V, Below u0.heap.size u0 V → V.cell? ⟨g1, 0, none⟩ = some (.int .i64 a.f0) := fun V h => (h.cell (p := ⟨g1, 0, none⟩) ua).trans (ka0 _ PZ.out)
    have ma1 : ∀ V, Below u0.heap.size u0 V → V.cell? ⟨g1, 1, none⟩ = some (.int .i64 a.f1) := fun V h => (h.cell (p := ⟨g1, 1, none⟩) ua).trans (ka1 _ PZ.out)
    have ma2 : ∀ V, Below u0.heap.size u0 V → V.cell? ⟨g1, 2, none⟩ = some (.slice A a.f2.length ca) := fun V h => (h.cell (p := ⟨g1, 2, none⟩) ua).trans (ka2 _ PZ.out)
    have mb0 : ∀ V, Below u0.heap.size u0 V → V.cell? ⟨g1 + 1, 0, none⟩ = some (.int .i64 b.f0) := fun V h => (h.cell (p := ⟨g1 + 1, 0, none⟩) ub).trans (kb0 _ PZ.out)
    have mb1 : ∀ V, Below u0.heap.size u0 V → V.cell? ⟨g1 + 1, 1, none⟩ = some (.int .i64 b.f1) := fun V h => (h.cell (p := ⟨g1 + 1, 1, none⟩) ub).trans (kb1 _ PZ.out)
    have mb2 : ∀ V, Below u0.heap.size u0 V → V.cell? ⟨g1 + 1, 2, none⟩ = some (.slice B b.f2.length cb) := fun V h => (h.cell (p := ⟨g1 + 1, 2, none⟩) ub).trans (kb2 _ PZ.out)
    have mc0 : ∀ V, Below u0.heap.size u0 V → V.cell? ⟨g1 + 1 + 1, 0, none⟩ = some (.int .i64 c.f0) := fun V h => (h.cell (p := ⟨g1 + 1 + 1, 0, none⟩) uc).trans (kc0 _ PZ.out)
    have mc1 : ∀ V, Below u0.heap.size u0 V → V.cell? ⟨g1 + 1 + 1, 1, none⟩ = some (.int .i64 c.f1) := fun V h => (h.cell (p := ⟨g1 + 1 + 1, 1, none⟩) uc).trans (kc1 _ PZ.out)
    have mc2 : ∀ V, Below u0.heap.size u0 V → V.cell? ⟨g1 + 1 + 1, 2, none⟩ = some (.slice C c.f2.length cc) := fun V h => (h.cell (p := ⟨g1 + 1 + 1, 2, none⟩) uc).trans (kc2 _ PZ.out)
    have mx0 : ∀ V, Below u0.heap.size u0 V → V.cell? ⟨w6.heap.size, 0, none⟩ = some (.int .i64 x.f0) := fun V h => (h.cell (p := ⟨w6.heap.size, 0, none⟩) ux).trans (kx0 _ PZ.out)
    have mx1 : ∀ V, Below u0.heap.size u0 V → V.cell? ⟨w6.heap.size, 1, none⟩ = some (.int .i64 x.f1) := fun V h => (h.cell (p := ⟨w6.heap.size, 1, none⟩) ux).trans (kx1 _ PZ.out)
    have mx2 : ∀ V, Below u0.heap.size u0 V → V.cell? ⟨w6.heap.size, 2, none⟩ = some (.slice A7 x.f2.length c7) := fun V h => (h.cell (p := ⟨w6.heap.size, 2, none⟩) ux).trans (kx2 _ PZ.out)
    have my0 : ∀ V, Below u0.heap.size u0 V → V.cell? ⟨w7.heap.size, 0, none⟩ = some (.int .i64 y.f0) := fun V h => (h.cell (p := ⟨w7.heap.size, 0, none⟩) uy).trans (ky0 _ PZ.out)
    have my1 : ∀ V, Below u0.heap.size u0 V → V.cell? ⟨w7.heap.size, 1, none⟩ = some (.int .i64 y.f1) := fun V h => (h.cell (p := ⟨w7.heap.size, 1, none⟩) uy).trans (ky1 _ PZ.out)
    have my2 : ∀ V, Below u0.heap.size u0 V → V.cell? ⟨w7.heap.size, 2, none⟩ = some (.slice A8 y.f2.length c8) := fun V h => (h.cell (p := ⟨w7.heap.size, 2, none⟩) uy).trans (ky2 _ PZ.out)
    have mz0 : ∀ V, Below u0.heap.size u0 V → V.cell? ⟨gz, 0, none⟩ = some (.int .i64 y.f0) := fun V h => (h.cell (p := ⟨gz, 0, none⟩) gz0).trans ((blk_cell hz0 0).trans rfl)
    have mz1 : ∀ V, Below u0.heap.size u0 V → V.cell? ⟨gz, 1, none⟩ = some (.int .i64 y.f1) := fun V h => (h.cell (p := ⟨gz, 1, none⟩) gz0).trans ((blk_cell hz0 1).trans rfl)
    have mz2 : ∀ V, Below u0.heap.size u0 V → V.cell? ⟨gz, 2, none⟩ = some (.slice A10 y.f2.length c10) := fun V h => (h.cell (p := ⟨gz, 2, none⟩) gz0).trans ((blk_cell hz0 2).trans rfl)
    clear hz0 BZ ka0 ka1 ka2 kb0 kb1 kb2 kc0 kc1 kc2 kx0 kx1 kx2 ky0 ky1 ky2
    have O4 := HT
    go_upto_region 8 with (fail)
    simp only [List.append_eq, List.cons_append, List.nil_append]
    refine start_ (n := 65) (S := Below u0.heap.size u0) (ds := []) (fl65 0) (by kernel_rfl) rfl (by kernel_rfl) (below_drew1 (Below.refl _ _)) (fun hHeld => ?_); refine with_tabW tab12_tab tab12_bits (fun HT_ HW_ => ?_)
    generalize u0.drew = u1 at hHeld ⊢
    refine take_ (i := 0) (N := some 43) (v := ?_) (a' := ?_) (fl65 1) rfl rfl (take_ofW HT_.out HW_.out (by kernel_rfl)) (fun _ _ _ h => h) (Or.inl ⟨by rfl, ?_⟩) hHeld ?_ ?_
    rotate_left
    · intro w' hS
      go_simp
      with_reducible rfl
    rotate_left
    · simp only [Act.put, List.setIfInBounds_toArray, List.set_cons_zero, List.set_cons_succ, i64_w, i32_w]
      rfl
    refine take_ (i := 1) (N := some 44) (v := ?_) (a' := ?_) (fl65 2) rfl rfl (take_ofW HT_.out HW_.out (by kernel_rfl)) (fun _ _ _ h => h) (Or.inl ⟨by rfl, ?_⟩) hHeld ?_ ?_
    rotate_left
    · intro w' hS
      go_simp
      with_reducible rfl
    rotate_left
    · simp only [Act.put, List.setIfInBounds_toArray, List.set_cons_zero, List.set_cons_succ, i64_w, i32_w]
      rfl
    refine take_ (i := 2) (N := some 45) (v := ?_) (a' := ?_) (fl65 3) rfl rfl (take_ofW HT_.out HW_.out (by kernel_rfl)) (fun _ _ _ h => h) (Or.inl ⟨by rfl, ?_⟩) hHeld ?_ ?_
    rotate_left
    · intro w' hS
      go_simp
      with_reducible rfl
    rotate_left
    · simp only [Act.put, List.setIfInBounds_toArray, List.set_cons_zero, List.set_cons_succ, i64_w, i32_w]
      rfl
    refine one_ (i := 3) (N := some 46) (fl65 4) rfl rfl (one_of HT_.out (by kernel_rfl)) (by decide) (fun K hK => ?_)
    refine goes_ Try.func72 (by kernel_rfl) rfl #[.agg #[.int .i64 a.f0, .int .i64 a.f1, .slice A a.f2.length ca], .agg #[.int .i64 b.f0, .int .i64 b.f1, .slice B b.f2.length cb]] (by rfl) rfl rfl (by (try simp only [List.map_toArray, List.map_cons, List.map_nil]); first | done | rfl) ?_
    with_reducible refine (cJoin72' (TA.out.below hHeld) (TB.out.below hHeld) NA.out NB.out SOA.out SOB.out E1.out).mono ?_
    rintro e w11 ⟨A11, c11, rfl, ho, hb⟩
    have S11 := Aside0.mk ho
    clear ho
    refine ⟨_, rfl, ?_⟩
    have U := below_step hHeld hb
    clear hHeld hb
    refine hK.out _ _ U (fun hHeld => ?_)
    clear hK K U
    refine norm_ (a' := ?_) ?_ ?_
    rotate_left
    · show Act.put _ (some 46) _ = _
      simp only [Act.put, List.setIfInBounds_toArray, List.set_cons_zero, List.set_cons_succ, i64_w, i32_w]
      rfl
    refine one_ (i := 4) (N := some 47) (fl65 5) rfl rfl (one_of HT_.out (by kernel_rfl)) (by decide) (fun K hK => ?_)
    refine goes_ Try.func71 (by kernel_rfl) rfl #[.agg #[.int .i64 x.f0, .int .i64 x.f1, .slice A7 x.f2.length c7], .agg #[.int .i64 x.f0, .int .i64 x.f1, .slice A11 x.f2.length c11]] (by rfl) rfl rfl (by (try simp only [List.map_toArray, List.map_cons, List.map_nil]); first | done | rfl) ?_
    with_reducible refine (cSame71' (TX.out.below hHeld) (S11.out)).mono ?_
    rintro e w12 ⟨rfl, hb⟩
    refine ⟨_, rfl, ?_⟩
    have U := below_step hHeld hb
    clear hHeld hb
    refine hK.out _ _ U (fun hHeld => ?_)
    clear hK K U
    refine norm_ (a' := ?_) ?_ ?_
    rotate_left
    · show Act.put _ (some 47) _ = _
      simp only [Act.put, List.setIfInBounds_toArray, List.set_cons_zero, List.set_cons_succ, i64_w, i32_w]
      rfl
    refine pure_ (i := 5) (N := some 48) (v := ?_) (a' := ?_) (fl65 6) rfl rfl (any_of HT_.out (by kernel_rfl)) (fun _ _ _ h => h) (Or.inl ⟨by rfl, ?_⟩) ?_ ?_
    rotate_left
    · intro w'
      go_simp
      with_reducible rfl
    rotate_left
    · simp only [Act.put, List.setIfInBounds_toArray, List.set_cons_zero, List.set_cons_succ, i64_w, i32_w]
      rfl
    refine take_ (i := 6) (N := some 49) (v := ?_) (a' := ?_) (fl65 7) rfl rfl (take_ofW HT_.out HW_.out (by kernel_rfl)) (fun _ _ _ h => h) (Or.inl ⟨by rfl, ?_⟩) hHeld ?_ ?_
    rotate_left
    · intro w' hS
      go_simp
      with_reducible rfl
    rotate_left
    · simp only [Act.put, List.setIfInBounds_toArray, List.set_cons_zero, List.set_cons_succ, i64_w, i32_w]
      rfl
    refine take_ (i := 7) (N := some 50) (v := ?_) (a' := ?_) (fl65 8) rfl rfl (take_ofW HT_.out HW_.out (by kernel_rfl)) (fun _ _ _ h => h) (Or.inl ⟨by rfl, ?_⟩) hHeld ?_ ?_
    rotate_left
    · intro w' hS
      go_simp
      with_reducible rfl
    rotate_left
    · simp only [Act.put, List.setIfInBounds_toArray, List.set_cons_zero, List.set_cons_succ, i64_w, i32_w]
      rfl
    refine take_ (i := 8) (N := some 51) (v := ?_) (a' := ?_) (fl65 9) rfl rfl (take_ofW HT_.out HW_.out (by kernel_rfl)) (fun _ _ _ h => h) (Or.inl ⟨by rfl, ?_⟩) hHeld ?_ ?_
    rotate_left
    · intro w' hS
      go_simp
      with_reducible rfl
    rotate_left
    · simp only [Act.put, List.setIfInBounds_toArray, List.set_cons_zero, List.set_cons_succ, i64_w, i32_w]
      rfl
    refine one_ (i := 9) (N := some 52) (fl65 10) rfl rfl (one_of HT_.out (by kernel_rfl)) (by decide) (fun K hK => ?_)
    refine goes_ Try.func70 (by kernel_rfl) rfl #[.agg #[.int .i64 b.f0, .int .i64 b.f1, .slice B b.f2.length cb], .agg #[.int .i64 a.f0, .int .i64 a.f1, .slice A a.f2.length ca]] (by rfl) rfl rfl (by (try simp only [List.map_toArray, List.map_cons, List.map_nil]); first | done | rfl) ?_
    with_reducible refine (cJoin70' (TB.out.below hHeld) (TA.out.below hHeld) NB.out NA.out E5.out).mono ?_
    rintro e w13 ⟨A13, c13, rfl, ho, hb⟩
    have S13 := Aside0.mk ho
    clear ho
    refine ⟨_, rfl, ?_⟩
    have U := below_step hHeld hb
    clear hHeld hb
    refine hK.out _ _ U (fun hHeld => ?_)
    clear hK K U
    refine norm_ (a' := ?_) ?_ ?_
    rotate_left
    · show Act.put _ (some 52) _ = _
      simp only [Act.put, List.setIfInBounds_toArray, List.set_cons_zero, List.set_cons_succ, i64_w, i32_w]
      rfl
    refine one_ (i := 10) (N := some 53) (fl65 11) rfl rfl (one_of HT_.out (by kernel_rfl)) (by decide) (fun K hK => ?_)
    refine goes_ Try.func71 (by kernel_rfl) rfl #[.agg #[.int .i64 x.f0, .int .i64 x.f1, .slice A7 x.f2.length c7], .agg #[.int .i64 x.f0, .int .i64 x.f1, .slice A13 x.f2.length c13]] (by rfl) rfl rfl (by (try simp only [List.map_toArray, List.map_cons, List.map_nil]); first | done | rfl) ?_
    with_reducible refine (cSame71' (TX.out.below hHeld) (S13.out)).mono ?_
    rintro e w14 ⟨rfl, hb⟩
    refine ⟨_, rfl, ?_⟩
    have U := below_step hHeld hb
    clear hHeld hb
    refine hK.out _ _ U (fun hHeld => ?_)
    clear hK K U
    refine norm_ (a' := ?_) ?_ ?_
    rotate_left
    · show Act.put _ (some 53) _ = _
      simp only [Act.put, List.setIfInBounds_toArray, List.set_cons_zero, List.set_cons_succ, i64_w, i32_w]
      rfl
    refine pure_ (i := 11) (N := some 54) (v := ?_) (a' := ?_) (fl65 12) rfl rfl (any_of HT_.out (by kernel_rfl)) (fun _ _ _ h => h) (Or.inl ⟨by rfl, ?_⟩) ?_ ?_
    rotate_left
    · intro w'
      go_simp
      with_reducible rfl
    rotate_left
    · simp only [Act.put, List.setIfInBounds_toArray, List.set_cons_zero, List.set_cons_succ, i64_w, i32_w]
      rfl
    refine pure_ (i := 12) (N := some 55) (v := ?_) (a' := ?_) (fl65 13) rfl rfl (any_of HT_.out (by kernel_rfl)) (fun _ _ _ h => h) (Or.inl ⟨by rfl, ?_⟩) ?_ ?_
    rotate_left
    · intro w'
      go_simp
      with_reducible rfl
    rotate_left
    · simp only [Act.put, List.setIfInBounds_toArray, List.set_cons_zero, List.set_cons_succ, i64_w, i32_w]
      rfl
    refine take_ (i := 13) (N := some 56) (v := ?_) (a' := ?_) (fl65 14) rfl rfl (take_ofW HT_.out HW_.out (by kernel_rfl)) (fun _ _ _ h => h) (Or.inl ⟨by rfl, ?_⟩) hHeld ?_ ?_
    rotate_left
    · intro w' hS
      go_simp
      with_reducible rfl
    rotate_left
    · simp only [Act.put, List.setIfInBounds_toArray, List.set_cons_zero, List.set_cons_succ, i64_w, i32_w]
      rfl
    refine take_ (i := 14) (N := some 57) (v := ?_) (a' := ?_) (fl65 15) rfl rfl (take_ofW HT_.out HW_.out (by kernel_rfl)) (fun _ _ _ h => h) (Or.inl ⟨by rfl, ?_⟩) hHeld ?_ ?_
    rotate_left
    · intro w' hS
      go_simp
      with_reducible rfl
    rotate_left
    · simp only [Act.put, List.setIfInBounds_toArray, List.set_cons_zero, List.set_cons_succ, i64_w, i32_w]
      rfl
    refine one_ (i := 15) (N := some 58) (fl65 16) rfl rfl (one_of HT_.out (by kernel_rfl)) (by decide) (fun K hK => ?_)
    refine goes_ Try.func71 (by kernel_rfl) rfl #[.agg #[.int .i64 y.f0, .int .i64 y.f1, .slice A8 y.f2.length c8], .agg #[.int .i64 y.f0, .int .i64 y.f1, .slice A10 y.f2.length c10]] (by rfl) rfl rfl (by (try simp only [List.map_toArray, List.map_cons, List.map_nil]); first | done | rfl) ?_
    with_reducible refine (cSame71' (TY.out.below hHeld) (SZ.out.below hHeld)).mono ?_
    rintro e w15 ⟨rfl, hb⟩
    refine ⟨_, rfl, ?_⟩
    have U := below_step hHeld hb
    clear hHeld hb
    refine hK.out _ _ U (fun hHeld => ?_)
    clear hK K U
    refine norm_ (a' := ?_) ?_ ?_
    rotate_left
    · show Act.put _ (some 58) _ = _
      simp only [Act.put, List.setIfInBounds_toArray, List.set_cons_zero, List.set_cons_succ, i64_w, i32_w]
      rfl
    refine pure_ (i := 16) (N := some 59) (v := ?_) (a' := ?_) (fl65 17) rfl rfl (any_of HT_.out (by kernel_rfl)) (fun _ _ _ h => h) (Or.inl ⟨by rfl, ?_⟩) ?_ ?_
    rotate_left
    · intro w'
      go_simp
      with_reducible rfl
    rotate_left
    · simp only [Act.put, List.setIfInBounds_toArray, List.set_cons_zero, List.set_cons_succ, i64_w, i32_w]
      rfl
    refine pure_ (i := 17) (N := some 60) (v := ?_) (a' := ?_) (fl65 18) rfl rfl (any_of HT_.out (by kernel_rfl)) (fun _ _ _ h => h) (Or.inl ⟨by rfl, ?_⟩) ?_ ?_
    rotate_left
    · intro w'
      go_simp
      with_reducible rfl
    rotate_left
    · simp only [Act.put, List.setIfInBounds_toArray, List.set_cons_zero, List.set_cons_succ, i64_w, i32_w]
      rfl
    refine take_ (i := 18) (N := some 61) (v := ?_) (a' := ?_) (fl65 19) rfl rfl (take_ofW HT_.out HW_.out (by kernel_rfl)) (fun _ _ _ h => h) (Or.inl ⟨by rfl, ?_⟩) hHeld ?_ ?_
    rotate_left
    · intro w' hS
      go_simp
      with_reducible rfl
    rotate_left
    · simp only [Act.put, List.setIfInBounds_toArray, List.set_cons_zero, List.set_cons_succ, i64_w, i32_w]
      rfl
    refine take_ (i := 19) (N := some 62) (v := ?_) (a' := ?_) (fl65 20) rfl rfl (take_ofW HT_.out HW_.out (by kernel_rfl)) (fun _ _ _ h => h) (Or.inl ⟨by rfl, ?_⟩) hHeld ?_ ?_
    rotate_left
    · intro w' hS
      go_simp
      with_reducible rfl
    rotate_left
    · simp only [Act.put, List.setIfInBounds_toArray, List.set_cons_zero, List.set_cons_succ, i64_w, i32_w]
      rfl
    refine take_ (i := 21) (N := some 64) (v := ?_) (a' := ?_) (fl65 20 |>.setIfInBounds 21 true) rfl rfl (take_ofW HT_.out HW_.out (by kernel_rfl)) (fun _ _ _ h => h) (Or.inl ⟨by rfl, ?_⟩) hHeld ?_ ?_
    rotate_left
    · intro w' hS
      go_simp
      with_reducible rfl
    rotate_left
    · simp only [Act.put, List.setIfInBounds_toArray, List.set_cons_zero, List.set_cons_succ, i64_w, i32_w]
      rfl
    refine one_ (i := 20) (N := some 63) (fl65 22) rfl rfl (one_of HT_.out (by kernel_rfl)) (by decide) (fun K hK => ?_)
    refine goes_ Try.func70 (by kernel_rfl) rfl #[.agg #[.int .i64 x.f0, .int .i64 x.f1, .slice A7 x.f2.length c7], .agg #[.int .i64 x.f0, .int .i64 x.f1, .slice A7 x.f2.length c7]] (by rfl) rfl rfl (by (try simp only [List.map_toArray, List.map_cons, List.map_nil]); first | done | rfl) ?_
    with_reducible refine (cJoin70' (TX.out.below hHeld) (TX.out.below hHeld) NX.out NX.out E6.out).mono ?_
    rintro e w16 ⟨A16, c16, rfl, ho, hb⟩
    have S16 := Aside0.mk ho
    clear ho
    refine ⟨_, rfl, ?_⟩
    have U := below_step hHeld hb
    clear hHeld hb
    refine hK.out _ _ U (fun hHeld => ?_)
    clear hK K U
    refine norm_ (a' := ?_) ?_ ?_
    rotate_left
    · show Act.put _ (some 63) _ = _
      simp only [Act.put, List.setIfInBounds_toArray, List.set_cons_zero, List.set_cons_succ, i64_w, i32_w]
      rfl
    refine one_ (i := 22) (N := some 65) (fl65 23) rfl rfl (one_of HT_.out (by kernel_rfl)) (by decide) (fun K hK => ?_)
    refine goes_ Try.func71 (by kernel_rfl) rfl #[.agg #[.int .i64 x.f0, .int .i64 x.f1, .slice A16 x.f2.length c16], .agg #[.int .i64 x.f0, .int .i64 x.f1, .slice A7 x.f2.length c7]] (by rfl) rfl rfl (by (try simp only [List.map_toArray, List.map_cons, List.map_nil]); first | done | rfl) ?_
    with_reducible refine (cSame71' (S16.out) (TX.out.below hHeld)).mono ?_
    rintro e w17 ⟨rfl, hb⟩
    refine ⟨_, rfl, ?_⟩
    have U := below_step hHeld hb
    clear hHeld hb
    refine hK.out _ _ U (fun hHeld => ?_)
    clear hK K U
    refine norm_ (a' := ?_) ?_ ?_
    rotate_left
    · show Act.put _ (some 65) _ = _
      simp only [Act.put, List.setIfInBounds_toArray, List.set_cons_zero, List.set_cons_succ, i64_w, i32_w]
      rfl
    refine pure_ (i := 23) (N := some 66) (v := ?_) (a' := ?_) (fl65 24) rfl rfl (any_of HT_.out (by kernel_rfl)) (fun _ _ _ h => h) (Or.inl ⟨by rfl, ?_⟩) ?_ ?_
    rotate_left
    · intro w'
      go_simp
      with_reducible rfl
    rotate_left
    · simp only [Act.put, List.setIfInBounds_toArray, List.set_cons_zero, List.set_cons_succ, i64_w, i32_w]
      rfl
    refine pure_ (i := 24) (N := some 67) (v := ?_) (a' := ?_) (fl65 25) rfl rfl (any_of HT_.out (by kernel_rfl)) (fun _ _ _ h => h) (Or.inl ⟨by rfl, ?_⟩) ?_ ?_
    rotate_left
    · intro w'
      go_simp
      with_reducible rfl
    rotate_left
    · simp only [Act.put, List.setIfInBounds_toArray, List.set_cons_zero, List.set_cons_succ, i64_w, i32_w]
      rfl
    refine take_ (i := 25) (N := some 68) (v := ?_) (a' := ?_) (fl65 26) rfl rfl (take_ofW HT_.out HW_.out (by kernel_rfl)) (fun _ _ _ h => h) (Or.inl ⟨by rfl, ?_⟩) hHeld ?_ ?_
    rotate_left
    · intro w' hS
      go_simp
      with_reducible rfl
    rotate_left
    · simp only [Act.put, List.setIfInBounds_toArray, List.set_cons_zero, List.set_cons_succ, i64_w, i32_w]
      rfl
    refine take_ (i := 26) (N := some 69) (v := ?_) (a' := ?_) (fl65 27) rfl rfl (take_ofW HT_.out HW_.out (by kernel_rfl)) (fun _ _ _ h => h) (Or.inl ⟨by rfl, ?_⟩) hHeld ?_ ?_
    rotate_left
    · intro w' hS
      go_simp
      with_reducible rfl
    rotate_left
    · simp only [Act.put, List.setIfInBounds_toArray, List.set_cons_zero, List.set_cons_succ, i64_w, i32_w]
      rfl
    refine one_ (i := 27) (N := some 70) (fl65 28) rfl rfl (one_of HT_.out (by kernel_rfl)) (by decide) (fun K hK => ?_)
    refine goes_ Try.func73 (by kernel_rfl) rfl #[.agg #[.int .i64 x.f0, .int .i64 x.f1, .slice A7 x.f2.length c7], .agg #[.int .i64 a.f0, .int .i64 a.f1, .slice A a.f2.length ca]] (by rfl) rfl rfl (by (try simp only [List.map_toArray, List.map_cons, List.map_nil]); first | done | rfl) ?_
    with_reducible refine (cOver73 (TX.out.below hHeld) (TA.out.below hHeld) O1.out).mono ?_
    rintro e w18 ⟨rfl, hb⟩
    refine ⟨_, rfl, ?_⟩
    have U := below_step hHeld hb
    clear hHeld hb
    refine hK.out _ _ U (fun hHeld => ?_)
    clear hK K U
    refine norm_ (a' := ?_) ?_ ?_
    rotate_left
    · show Act.put _ (some 70) _ = _
      simp only [Act.put, List.setIfInBounds_toArray, List.set_cons_zero, List.set_cons_succ, i64_w, i32_w]
      rfl
    refine pure_ (i := 28) (N := some 71) (v := ?_) (a' := ?_) (fl65 29) rfl rfl (any_of HT_.out (by kernel_rfl)) (fun _ _ _ h => h) (Or.inl ⟨by rfl, ?_⟩) ?_ ?_
    rotate_left
    · intro w'
      go_simp
      with_reducible rfl
    rotate_left
    · simp only [Act.put, List.setIfInBounds_toArray, List.set_cons_zero, List.set_cons_succ, i64_w, i32_w]
      rfl
    refine pure_ (i := 29) (N := some 72) (v := ?_) (a' := ?_) (fl65 30) rfl rfl (any_of HT_.out (by kernel_rfl)) (fun _ _ _ h => h) (Or.inl ⟨by rfl, ?_⟩) ?_ ?_
    rotate_left
    · intro w'
      go_simp
      with_reducible rfl
    rotate_left
    · simp only [Act.put, List.setIfInBounds_toArray, List.set_cons_zero, List.set_cons_succ, i64_w, i32_w]
      rfl
    refine take_ (i := 30) (N := some 73) (v := ?_) (a' := ?_) (fl65 31) rfl rfl (take_ofW HT_.out HW_.out (by kernel_rfl)) (fun _ _ _ h => h) (Or.inl ⟨by rfl, ?_⟩) hHeld ?_ ?_
    rotate_left
    · intro w' hS
      go_simp
      with_reducible rfl
    rotate_left
    · simp only [Act.put, List.setIfInBounds_toArray, List.set_cons_zero, List.set_cons_succ, i64_w, i32_w]
      rfl
    refine take_ (i := 31) (N := some 74) (v := ?_) (a' := ?_) (fl65 32) rfl rfl (take_ofW HT_.out HW_.out (by kernel_rfl)) (fun _ _ _ h => h) (Or.inl ⟨by rfl, ?_⟩) hHeld ?_ ?_
    rotate_left
    · intro w' hS
      go_simp
      with_reducible rfl
    rotate_left
    · simp only [Act.put, List.setIfInBounds_toArray, List.set_cons_zero, List.set_cons_succ, i64_w, i32_w]
      rfl
    refine one_ (i := 32) (N := some 75) (fl65 33) rfl rfl (one_of HT_.out (by kernel_rfl)) (by decide) (fun K hK => ?_)
    refine goes_ Try.func73 (by kernel_rfl) rfl #[.agg #[.int .i64 x.f0, .int .i64 x.f1, .slice A7 x.f2.length c7], .agg #[.int .i64 b.f0, .int .i64 b.f1, .slice B b.f2.length cb]] (by rfl) rfl rfl (by (try simp only [List.map_toArray, List.map_cons, List.map_nil]); first | done | rfl) ?_
    with_reducible refine (cOver73 (TX.out.below hHeld) (TB.out.below hHeld) O2.out).mono ?_
    rintro e w19 ⟨rfl, hb⟩
    refine ⟨_, rfl, ?_⟩
    have U := below_step hHeld hb
    clear hHeld hb
    refine hK.out _ _ U (fun hHeld => ?_)
    clear hK K U
    refine norm_ (a' := ?_) ?_ ?_
    rotate_left
    · show Act.put _ (some 75) _ = _
      simp only [Act.put, List.setIfInBounds_toArray, List.set_cons_zero, List.set_cons_succ, i64_w, i32_w]
      rfl
    refine pure_ (i := 33) (N := some 76) (v := ?_) (a' := ?_) (fl65 34) rfl rfl (any_of HT_.out (by kernel_rfl)) (fun _ _ _ h => h) (Or.inl ⟨by rfl, ?_⟩) ?_ ?_
    rotate_left
    · intro w'
      go_simp
      with_reducible rfl
    rotate_left
    · simp only [Act.put, List.setIfInBounds_toArray, List.set_cons_zero, List.set_cons_succ, i64_w, i32_w]
      rfl
    refine pure_ (i := 34) (N := some 77) (v := ?_) (a' := ?_) (fl65 35) rfl rfl (any_of HT_.out (by kernel_rfl)) (fun _ _ _ h => h) (Or.inl ⟨by rfl, ?_⟩) ?_ ?_
    rotate_left
    · intro w'
      go_simp
      with_reducible rfl
    rotate_left
    · simp only [Act.put, List.setIfInBounds_toArray, List.set_cons_zero, List.set_cons_succ, i64_w, i32_w]
      rfl
    refine take_ (i := 35) (N := some 78) (v := ?_) (a' := ?_) (fl65 36) rfl rfl (take_ofW HT_.out HW_.out (by kernel_rfl)) (fun _ _ _ h => h) (Or.inl ⟨by rfl, ?_⟩) hHeld ?_ ?_
    rotate_left
    · intro w' hS
      go_simp
      with_reducible rfl
    rotate_left
    · simp only [Act.put, List.setIfInBounds_toArray, List.set_cons_zero, List.set_cons_succ, i64_w, i32_w]
      rfl
    refine one_ (i := 36) (N := some 79) (fl65 37) rfl rfl (one_of HT_.out (by kernel_rfl)) (by decide) (fun K hK => ?_)
    refine goes_ Try.func74 (by kernel_rfl) rfl #[.agg #[.int .i64 x.f0, .int .i64 x.f1, .slice A7 x.f2.length c7]] (by rfl) rfl rfl (by (try simp only [List.map_toArray, List.map_cons, List.map_nil]); first | done | rfl) ?_
    with_reducible refine (cRight74 (TX.out.below hHeld) OX.out).mono ?_
    rintro e w20 ⟨rfl, hb⟩
    refine ⟨_, rfl, ?_⟩
    have U := below_step hHeld hb
    clear hHeld hb
    refine hK.out _ _ U (fun hHeld => ?_)
    clear hK K U
    refine norm_ (a' := ?_) ?_ ?_
    rotate_left
    · show Act.put _ (some 79) _ = _
      simp only [Act.put, List.setIfInBounds_toArray, List.set_cons_zero, List.set_cons_succ, i64_w, i32_w]
      rfl
    refine pure_ (i := 37) (N := some 80) (v := ?_) (a' := ?_) (fl65 38) rfl rfl (any_of HT_.out (by kernel_rfl)) (fun _ _ _ h => h) (Or.inl ⟨by rfl, ?_⟩) ?_ ?_
    rotate_left
    · intro w'
      go_simp
      with_reducible rfl
    rotate_left
    · simp only [Act.put, List.setIfInBounds_toArray, List.set_cons_zero, List.set_cons_succ, i64_w, i32_w]
      rfl
    refine pure_ (i := 38) (N := some 81) (v := ?_) (a' := ?_) (fl65 39) rfl rfl (any_of HT_.out (by kernel_rfl)) (fun _ _ _ h => h) (Or.inl ⟨by rfl, ?_⟩) ?_ ?_
    rotate_left
    · intro w'
      go_simp
      with_reducible rfl
    rotate_left
    · simp only [Act.put, List.setIfInBounds_toArray, List.set_cons_zero, List.set_cons_succ, i64_w, i32_w]
      rfl
    refine take_ (i := 39) (N := some 82) (v := ?_) (a' := ?_) (fl65 40) rfl rfl (take_ofW HT_.out HW_.out (by kernel_rfl)) (fun _ _ _ h => h) (Or.inl ⟨by rfl, ?_⟩) hHeld ?_ ?_
    rotate_left
    · intro w' hS
      go_simp
      with_reducible rfl
    rotate_left
    · simp only [Act.put, List.setIfInBounds_toArray, List.set_cons_zero, List.set_cons_succ, i64_w, i32_w]
      rfl
    refine take_ (i := 40) (N := some 83) (v := ?_) (a' := ?_) (fl65 41) rfl rfl (take_ofW HT_.out HW_.out (by kernel_rfl)) (fun _ _ _ h => h) (Or.inl ⟨by rfl, ?_⟩) hHeld ?_ ?_
    rotate_left
    · intro w' hS
      go_simp
      with_reducible rfl
    rotate_left
    · simp only [Act.put, List.setIfInBounds_toArray, List.set_cons_zero, List.set_cons_succ, i64_w, i32_w]
      rfl
    refine take_ (i := 42) (N := some 85) (v := ?_) (a' := ?_) (fl65 41 |>.setIfInBounds 42 true) rfl rfl (take_ofW HT_.out HW_.out (by kernel_rfl)) (fun _ _ _ h => h) (Or.inl ⟨by rfl, ?_⟩) hHeld ?_ ?_
    rotate_left
    · intro w' hS
      go_simp
      with_reducible rfl
    rotate_left
    · simp only [Act.put, List.setIfInBounds_toArray, List.set_cons_zero, List.set_cons_succ, i64_w, i32_w]
      rfl
    refine take_ (i := 43) (N := some 86) (v := ?_) (a' := ?_) (fl65 41 |>.setIfInBounds 42 true |>.setIfInBounds 43 true) rfl rfl (take_ofW HT_.out HW_.out (by kernel_rfl)) (fun _ _ _ h => h) (Or.inl ⟨by rfl, ?_⟩) hHeld ?_ ?_
    rotate_left
    · intro w' hS
      go_simp
      with_reducible rfl
    rotate_left
    · simp only [Act.put, List.setIfInBounds_toArray, List.set_cons_zero, List.set_cons_succ, i64_w, i32_w]
      rfl
    refine one_ (i := 41) (N := some 84) (fl65 44) rfl rfl (one_of HT_.out (by kernel_rfl)) (by decide) (fun K hK => ?_)
    refine goes_ Try.func73 (by kernel_rfl) rfl #[.agg #[.int .i64 a.f0, .int .i64 a.f1, .slice A a.f2.length ca], .agg #[.int .i64 b.f0, .int .i64 b.f1, .slice B b.f2.length cb]] (by rfl) rfl rfl (by (try simp only [List.map_toArray, List.map_cons, List.map_nil]); first | done | rfl) ?_
    with_reducible refine (cOver73 (TA.out.below hHeld) (TB.out.below hHeld) O3.out).mono ?_
    rintro e w21 ⟨rfl, hb⟩
    refine ⟨_, rfl, ?_⟩
    have U := below_step hHeld hb
    clear hHeld hb
    refine hK.out _ _ U (fun hHeld => ?_)
    clear hK K U
    refine norm_ (a' := ?_) ?_ ?_
    rotate_left
    · show Act.put _ (some 84) _ = _
      simp only [Act.put, List.setIfInBounds_toArray, List.set_cons_zero, List.set_cons_succ, i64_w, i32_w]
      rfl
    refine one_ (i := 44) (N := some 87) (fl65 45) rfl rfl (one_of HT_.out (by kernel_rfl)) (by decide) (fun K hK => ?_)
    refine goes_ Try.func75 (by kernel_rfl) rfl #[.agg #[.int .i64 a.f0, .int .i64 a.f1, .slice A a.f2.length ca], .agg #[.int .i64 b.f0, .int .i64 b.f1, .slice B b.f2.length cb]] (by rfl) rfl rfl (by (try simp only [List.map_toArray, List.map_cons, List.map_nil]); first | done | rfl) ?_
    with_reducible refine (cOver75 (TA.out.below hHeld) (TB.out.below hHeld) OA.out OB.out O3.out).mono ?_
    rintro e w22 ⟨rfl, hb⟩
    refine ⟨_, rfl, ?_⟩
    have U := below_step hHeld hb
    clear hHeld hb
    refine hK.out _ _ U (fun hHeld => ?_)
    clear hK K U
    refine norm_ (a' := ?_) ?_ ?_
    rotate_left
    · show Act.put _ (some 87) _ = _
      simp only [Act.put, List.setIfInBounds_toArray, List.set_cons_zero, List.set_cons_succ, i64_w, i32_w]
      rfl
    refine pure_ (i := 45) (N := some 88) (v := ?_) (a' := ?_) (fl65 46) rfl rfl (any_of HT_.out (by kernel_rfl)) (fun _ _ _ h => h) (Or.inl ⟨by rfl, ?_⟩) ?_ ?_
    rotate_left
    · intro w'
      go_simp
      with_reducible rfl
    rotate_left
    · simp only [Act.put, List.setIfInBounds_toArray, List.set_cons_zero, List.set_cons_succ, i64_w, i32_w]
      rfl
    refine pure_ (i := 46) (N := some 89) (v := ?_) (a' := ?_) (fl65 47) rfl rfl (any_of HT_.out (by kernel_rfl)) (fun _ _ _ h => h) (Or.inl ⟨by rfl, ?_⟩) ?_ ?_
    rotate_left
    · intro w'
      go_simp
      with_reducible rfl
    rotate_left
    · simp only [Act.put, List.setIfInBounds_toArray, List.set_cons_zero, List.set_cons_succ, i64_w, i32_w]
      rfl
    refine pure_ (i := 47) (N := some 90) (v := ?_) (a' := ?_) (fl65 48) rfl rfl (any_of HT_.out (by kernel_rfl)) (fun _ _ _ h => h) (Or.inl ⟨by rfl, ?_⟩) ?_ ?_
    rotate_left
    · intro w'
      go_simp
      with_reducible rfl
    rotate_left
    · simp only [Act.put, List.setIfInBounds_toArray, List.set_cons_zero, List.set_cons_succ, i64_w, i32_w]
      rfl
    refine take_ (i := 48) (N := some 91) (v := ?_) (a' := ?_) (fl65 49) rfl rfl (take_ofW HT_.out HW_.out (by kernel_rfl)) (fun _ _ _ h => h) (Or.inl ⟨by rfl, ?_⟩) hHeld ?_ ?_
    rotate_left
    · intro w' hS
      go_simp
      with_reducible rfl
    rotate_left
    · simp only [Act.put, List.setIfInBounds_toArray, List.set_cons_zero, List.set_cons_succ, i64_w, i32_w]
      rfl
    refine take_ (i := 49) (N := some 92) (v := ?_) (a' := ?_) (fl65 50) rfl rfl (take_ofW HT_.out HW_.out (by kernel_rfl)) (fun _ _ _ h => h) (Or.inl ⟨by rfl, ?_⟩) hHeld ?_ ?_
    rotate_left
    · intro w' hS
      go_simp
      with_reducible rfl
    rotate_left
    · simp only [Act.put, List.setIfInBounds_toArray, List.set_cons_zero, List.set_cons_succ, i64_w, i32_w]
      rfl
    refine one_ (i := 50) (N := some 93) (fl65 51) rfl rfl (one_of HT_.out (by kernel_rfl)) (by decide) (fun K hK => ?_)
    refine goes_ Try.func73 (by kernel_rfl) rfl #[.agg #[.int .i64 c.f0, .int .i64 c.f1, .slice C c.f2.length cc], .agg #[.int .i64 a.f0, .int .i64 a.f1, .slice A a.f2.length ca]] (by rfl) rfl rfl (by (try simp only [List.map_toArray, List.map_cons, List.map_nil]); first | done | rfl) ?_
    with_reducible refine (cOver73 (TC.out.below hHeld) (TA.out.below hHeld) O4.out).mono ?_
    rintro e w23 ⟨rfl, hb⟩
    refine ⟨_, rfl, ?_⟩
    have U := below_step hHeld hb
    clear hHeld hb
    refine hK.out _ _ U (fun hHeld => ?_)
    clear hK K U
    refine norm_ (a' := ?_) ?_ ?_
    rotate_left
    · show Act.put _ (some 93) _ = _
      simp only [Act.put, List.setIfInBounds_toArray, List.set_cons_zero, List.set_cons_succ, i64_w, i32_w]
      rfl
    refine pure_ (i := 51) (N := some 94) (v := ?_) (a' := ?_) (fl65 52) rfl rfl (any_of HT_.out (by kernel_rfl)) (fun _ _ _ h => h) (Or.inl ⟨by rfl, ?_⟩) ?_ ?_
    rotate_left
    · intro w'
      go_simp
      with_reducible rfl
    rotate_left
    · simp only [Act.put, List.setIfInBounds_toArray, List.set_cons_zero, List.set_cons_succ, i64_w, i32_w]
      rfl
    refine pure_ (i := 52) (N := some 95) (v := ?_) (a' := ?_) (fl65 53) rfl rfl (any_of HT_.out (by kernel_rfl)) (fun _ _ _ h => h) (Or.inl ⟨by rfl, ?_⟩) ?_ ?_
    rotate_left
    · intro w'
      go_simp
      with_reducible rfl
    rotate_left
    · simp only [Act.put, List.setIfInBounds_toArray, List.set_cons_zero, List.set_cons_succ, i64_w, i32_w]
      rfl
    refine pure_ (i := 53) (N := some 96) (v := undef) (a' := ?_) (fl65 54) rfl rfl (any_of HT_.out (by kernel_rfl)) (fun _ _ _ h => h) (Or.inr ⟨by rfl, rfl⟩) ?_ ?_
    rotate_left
    · simp only [Act.put, List.setIfInBounds_toArray, List.set_cons_zero, List.set_cons_succ, i64_w, i32_w]
      rfl
    refine pure_ (i := 54) (N := some 97) (v := undef) (a' := ?_) (fl65 55) rfl rfl (any_of HT_.out (by kernel_rfl)) (fun _ _ _ h => h) (Or.inr ⟨by rfl, rfl⟩) ?_ ?_
    rotate_left
    · simp only [Act.put, List.setIfInBounds_toArray, List.set_cons_zero, List.set_cons_succ, i64_w, i32_w]
      rfl
    refine pure_ (i := 55) (N := some 98) (v := undef) (a' := ?_) (fl65 56) rfl rfl (any_of HT_.out (by kernel_rfl)) (fun _ _ _ h => h) (Or.inr ⟨by rfl, rfl⟩) ?_ ?_
    rotate_left
    · simp only [Act.put, List.setIfInBounds_toArray, List.set_cons_zero, List.set_cons_succ, i64_w, i32_w]
      rfl
    refine pure_ (i := 56) (N := some 99) (v := undef) (a' := ?_) (fl65 57) rfl rfl (any_of HT_.out (by kernel_rfl)) (fun _ _ _ h => h) (Or.inr ⟨by rfl, rfl⟩) ?_ ?_
    rotate_left
    · simp only [Act.put, List.setIfInBounds_toArray, List.set_cons_zero, List.set_cons_succ, i64_w, i32_w]
      rfl
    refine pure_ (i := 57) (N := some 100) (v := ?_) (a' := ?_) (fl65 58) rfl rfl (any_of HT_.out (by kernel_rfl)) (fun _ _ _ h => h) (Or.inl ⟨by rfl, ?_⟩) ?_ ?_
    rotate_left
    · intro w'
      go_simp
      with_reducible rfl
    rotate_left
    · simp only [Act.put, List.setIfInBounds_toArray, List.set_cons_zero, List.set_cons_succ, i64_w, i32_w]
      rfl
    refine pure_ (i := 58) (N := some 101) (v := ?_) (a' := ?_) (fl65 59) rfl rfl (any_of HT_.out (by kernel_rfl)) (fun _ _ _ h => h) (Or.inl ⟨by rfl, ?_⟩) ?_ ?_
    rotate_left
    · intro w'
      go_simp
      with_reducible rfl
    rotate_left
    · simp only [Act.put, List.setIfInBounds_toArray, List.set_cons_zero, List.set_cons_succ, i64_w, i32_w]
      rfl
    refine pure_ (i := 59) (N := some 102) (v := undef) (a' := ?_) (fl65 60) rfl rfl (any_of HT_.out (by kernel_rfl)) (fun _ _ _ h => h) (Or.inr ⟨by rfl, rfl⟩) ?_ ?_
    rotate_left
    · simp only [Act.put, List.setIfInBounds_toArray, List.set_cons_zero, List.set_cons_succ, i64_w, i32_w]
      rfl
    refine pure_ (i := 60) (N := some 103) (v := undef) (a' := ?_) (fl65 61) rfl rfl (any_of HT_.out (by kernel_rfl)) (fun _ _ _ h => h) (Or.inr ⟨by rfl, rfl⟩) ?_ ?_
    rotate_left
    · simp only [Act.put, List.setIfInBounds_toArray, List.set_cons_zero, List.set_cons_succ, i64_w, i32_w]
      rfl
    refine pure_ (i := 61) (N := some 104) (v := undef) (a' := ?_) (fl65 62) rfl rfl (any_of HT_.out (by kernel_rfl)) (fun _ _ _ h => h) (Or.inr ⟨by rfl, rfl⟩) ?_ ?_
    rotate_left
    · simp only [Act.put, List.setIfInBounds_toArray, List.set_cons_zero, List.set_cons_succ, i64_w, i32_w]
      rfl
    refine pure_ (i := 62) (N := some 105) (v := ?_) (a' := ?_) (fl65 63) rfl rfl (any_of HT_.out (by kernel_rfl)) (fun _ _ _ h => h) (Or.inl ⟨by rfl, ?_⟩) ?_ ?_
    rotate_left
    · intro w'
      go_simp
      with_reducible rfl
    rotate_left
    · simp only [Act.put, List.setIfInBounds_toArray, List.set_cons_zero, List.set_cons_succ, i64_w, i32_w]
      rfl
    refine pure_ (i := 63) (N := some 106) (v := ?_) (a' := ?_) (fl65 64) rfl rfl (any_of HT_.out (by kernel_rfl)) (fun _ _ _ h => h) (Or.inl ⟨by rfl, ?_⟩) ?_ ?_
    rotate_left
    · intro w'
      go_simp
      with_reducible rfl
    rotate_left
    · simp only [Act.put, List.setIfInBounds_toArray, List.set_cons_zero, List.set_cons_succ, i64_w, i32_w]
      rfl
    refine pure_ (i := 64) (N := some 6) (v := ?_) (a' := ?_) (fl65 65) rfl rfl (any_of HT_.out (by kernel_rfl)) (fun _ _ _ h => h) (Or.inl ⟨by rfl, ?_⟩) ?_ ?_
    rotate_left
    · intro w'
      go_simp
      with_reducible rfl
    rotate_left
    · simp only [Act.put, List.setIfInBounds_toArray, List.set_cons_zero, List.set_cons_succ, i64_w, i32_w]
      rfl
    refine done_ (done_of HT_.out (by kernel_rfl)) ?_
    go_wp2
    go_ret
    exact ⟨rfl, by rw [HG1.out]; exact below_then' BU.out (Nat.le_of_lt ua) hHeld⟩
end Go.Proofs.Ytjlgbgkpiganbaa.P
