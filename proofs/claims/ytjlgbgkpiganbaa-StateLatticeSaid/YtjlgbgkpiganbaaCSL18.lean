/-
  Parts: L0, L1, L2 (brought together by wip/pack.py; W..: words printed by the kit's print.sh; P..: printed by wip/xp.py).
-/
import Derived.Deep.DeepCutAuto
import Derived.Deep.RegionHeld3
import Derived.Outline
import Derived.Test.YtjlgbgkpiganbaaCSL13
import Derived.Test.YtjlgbgkpiganbaaCSL17
set_option linter.unusedVariables false
set_option linter.unusedSimpArgs false
namespace Go.Proofs.Ytjlgbgkpiganbaa.P
open Go.RowKit Go.Proofs.YtjlgbgkpiganbaaW.PrintWords Go.Proofs.YtjlgbgkpiganbaaW.PrintMore
def St (W : World) (A : Option Addr) (c : Nat) (s : S68) : Prop := s.f2.length ≤ c ∧ Kd.C k152 W A s.f2.length s.f2
abbrev ag (A : Option Addr) (c : Nat) (s : S68) : Value := .agg #[.int .i64 s.f0, .int .i64 s.f1, .slice A s.f2.length c]
theorem St.below {W W' : World} {A : Option Addr} {c : Nat} {s : S68} (h : St W A c s) (hb : Below W.heap.size W W') : St W' A c s := ⟨h.1, Kd.C_below h.2 hb⟩
theorem St.len {W : World} {A : Option Addr} {c : Nat} {s : S68} (h : St W A c s) : s.f2.length ≤ 9223372036854775807 := h.2.2.1
section
variable {A B : Option Addr} {c d : Nat} {a b : S68} {w : World}
theorem cJoin70 (ha : St w A c a) (hb : St w B d b) (h : a.f2.length + b.f2.length < 4398046511104) :
    Calls Try.prog 70 #[ag A c a, ag B d b] w fun e w' => ∃ A' c', e = .returned (ag A' c' (joinS a b)) ∧ St w' A' c' (joinS a b) ∧ Below w.heap.size w w' := by
  obtain ⟨k, hk⟩ := (ev_JoinS a b h).rounds
  refine (state_Join.calls k a.f0 a.f1 A c a.f2 b.f0 b.f1 B d b.f2 _ _ _ w ha.2 ha.1 hb.2 hb.1 hk).mono ?_
  rintro e w' ⟨v, rfl, ho, hb'⟩
  obtain ⟨A', c', rfl, h1, h2⟩ := Kd.R_reads ho
  exact ⟨A', c', rfl, ⟨h1, h2⟩, hb'⟩
theorem cJoin72 (ha : St w A c a) (hb : St w B d b) (sa : Sorted a.f2) (sb : Sorted b.f2) (h : a.f2.length + b.f2.length + 1 < 4398046511104) :
    Calls Try.prog 72 #[ag A c a, ag B d b] w fun e w' => ∃ A' c', e = .returned (ag A' c' (joinS a b)) ∧ St w' A' c' (joinS a b) ∧ Below w.heap.size w w' := by
  obtain ⟨k, hk⟩ := (ev_JoinS05 sa sb h).rounds
  refine (bellwetherref05_Join.calls k a.f0 a.f1 A c a.f2 b.f0 b.f1 B d b.f2 _ _ _ w ha.2 ha.1 hb.2 hb.1 hk).mono ?_
  rintro e w' ⟨v, rfl, ho, hb'⟩
  obtain ⟨A', c', rfl, h1, h2⟩ := Kd.R_reads ho
  exact ⟨A', c', rfl, ⟨h1, h2⟩, hb'⟩
theorem cSame71 (ha : St w A c a) (hb : St w B d b) (e : a = b) :
    Calls Try.prog 71 #[ag A c a, ag B d b] w fun e w' => e = .returned (.bool true) ∧ Below w.heap.size w w' := by
  obtain ⟨k, hk⟩ := (ev_same_true ha.len e).rounds
  exact bellwetherref05_Same.calls k a.f0 a.f1 A c a.f2 b.f0 b.f1 B d b.f2 _ w ha.2 ha.1 hb.2 hb.1 hk
theorem cOver73 (ha : St w A c a) (hb : St w B d b) {r : Bool} (e : overS a b = r) :
    Calls Try.prog 73 #[ag A c a, ag B d b] w fun e w' => e = .returned (.bool r) ∧ Below w.heap.size w w' :=
  state_Over.calls a.f0 a.f1 A c a.f2 b.f0 b.f1 B d b.f2 _ w ha.2 ha.1 hb.2 hb.1 (by rw [over_eq, e])
theorem cRight74 (ha : St w A c a) {r : Bool} (e : okS a = r) :
    Calls Try.prog 74 #[ag A c a] w fun e w' => e = .returned (.bool r) ∧ Below w.heap.size w w' := by
  obtain ⟨k, hk⟩ := (ev_RightS a ha.len).rounds
  exact state_Right.calls k a.f0 a.f1 A c a.f2 _ w ha.2 ha.1 (by rw [hk, e])
theorem cRight69 (ha : St w A c a) {r : Bool} (e : okS a = r) :
    Calls Try.prog 69 #[ag A c a] w fun e w' => e = .returned (.bool r) ∧ Below w.heap.size w w' := by
  obtain ⟨k, hk⟩ := (ev_RightS05 a ha.len).rounds
  exact bellwetherref05_Right.calls k a.f0 a.f1 A c a.f2 _ w ha.2 ha.1 (by rw [hk, e])
theorem cOver75 (ha : St w A c a) (hb : St w B d b) (oa : okS a = true) (ob : okS b = true) {r : Bool} (e : overS a b = r) :
    Calls Try.prog 75 #[ag A c a, ag B d b] w fun e w' => e = .returned (.bool r) ∧ Below w.heap.size w w' := by
  obtain ⟨k, hk⟩ := (ev_OverS05 oa ob).rounds
  exact bellwetherref05_Over.calls k a.f0 a.f1 A c a.f2 b.f0 b.f1 B d b.f2 _ w ha.2 ha.1 hb.2 hb.1 (by rw [hk, e])
theorem cAlive67 (w : World) : Calls Try.prog 67 #[] w fun e w' => e = .returned (.bool true) ∧ Below w.heap.size w w' :=
  bellwetherlaw05_alive.calls 40 true w (by kernel_rfl)
end
theorem ev_great3 (a b c : S68) (ha : a.f2.length ≤ 9223372036854775807) (hb : b.f2.length ≤ 9223372036854775807) (hc : c.f2.length ≤ 9223372036854775807) : ∃ g, Ev (fun k => bellwetherlaw05_great.f k [a, b, c]) g := by
  obtain ⟨ga, ea⟩ := ev_Great05 a ha
  obtain ⟨gb, eb⟩ := ev_Great05 b hb
  obtain ⟨gc, ec⟩ := ev_Great05 c hc
  have w1 : wrap64 ((0 : Int) + 1) = 1 := by unfold wrap64; omega
  have w2 : wrap64 ((1 : Int) + 1) = 2 := by unfold wrap64; omega
  have w3 : wrap64 ((2 : Int) + 1) = 3 := by unfold wrap64; omega
  have e3 : Ev (fun k => bellwetherlaw05_great.l0 k [a, b, c] 3) false := Ev.step (f := fun _ => some false) (fun k => by simp [bellwetherlaw05_great.l0]) (Ev.now _)
  have e2 : Ev (fun k => bellwetherlaw05_great.l0 k [a, b, c] 2) (if gc then true else false) := by
    refine Ev.step (f := fun k => (bellwetherref05_Great.f k c.f0 c.f1 c.f2).bind fun t102 => (if t102 = true then (some true) else (bellwetherlaw05_great.l0 k [a, b, c] 3))) (fun k => by simp only [bellwetherlaw05_great.l0, w3]; rfl) (Ev.bind ec ?_)
    cases gc
    · exact Ev.congr (fun k => by simp) e3
    · exact Ev.congr (f := fun _ => some true) (fun k => by simp) (Ev.now _)
  have e1 : Ev (fun k => bellwetherlaw05_great.l0 k [a, b, c] 1) (if gb then true else if gc then true else false) := by
    refine Ev.step (f := fun k => (bellwetherref05_Great.f k b.f0 b.f1 b.f2).bind fun t102 => (if t102 = true then (some true) else (bellwetherlaw05_great.l0 k [a, b, c] 2))) (fun k => by simp only [bellwetherlaw05_great.l0, w2]; rfl) (Ev.bind eb ?_)
    cases gb
    · exact Ev.congr (fun k => by simp) e2
    · exact Ev.congr (f := fun _ => some true) (fun k => by simp) (Ev.now _)
  refine ⟨if ga then true else if gb then true else if gc then true else false, Ev.congr (f := fun k => bellwetherlaw05_great.l0 k [a, b, c] 0) (fun k => rfl) ?_⟩
  refine Ev.step (f := fun k => (bellwetherref05_Great.f k a.f0 a.f1 a.f2).bind fun t102 => (if t102 = true then (some true) else (bellwetherlaw05_great.l0 k [a, b, c] 1))) (fun k => by simp only [bellwetherlaw05_great.l0, w1]; rfl) (Ev.bind ea ?_)
  cases ga
  · exact Ev.congr (fun k => by simp) e1
  · exact Ev.congr (f := fun _ => some true) (fun k => by simp) (Ev.now _)
end Go.Proofs.Ytjlgbgkpiganbaa.P
set_option linter.unusedVariables false
set_option linter.unusedSimpArgs false
namespace Go.Proofs.Ytjlgbgkpiganbaa.P
open Go.RowKit Go.Proofs.YtjlgbgkpiganbaaW.PrintWords Go.Proofs.YtjlgbgkpiganbaaW.PrintLast Go.Proofs.YtjlgbgkpiganbaaW.PrintMore
theorem C_three {W : World} {g : Nat} {a b c : S68} {A B C : Option Addr} {ca cb cc : Nat} (hg : W.heap[g]? = some (.cells #[.int .i64 a.f0, .int .i64 a.f1, .slice A a.f2.length ca, .int .i64 b.f0, .int .i64 b.f1, .slice B b.f2.length cb, .int .i64 c.f0, .int .i64 c.f1, .slice C c.f2.length cc] 68 (0, 0)))
    (ha : St W A ca a) (hb : St W B cb b) (hc : St W C cc c) : Kd.C k68 W (some ⟨g, 0, none⟩) 3 [a, b, c] := by
  refine ⟨rfl, by omega, fun _ => ⟨_, rfl, fun j p hj => ?_⟩⟩
  have hcell : ∀ i, W.cell? ⟨g, i, none⟩ = (#[Value.int .i64 a.f0, .int .i64 a.f1, .slice A a.f2.length ca, .int .i64 b.f0, .int .i64 b.f1, .slice B b.f2.length cb, .int .i64 c.f0, .int .i64 c.f1, .slice C c.f2.length cc] : Array Value)[i]? := fun i => blk_cell hg i
  match j, hj with
  | 0, hj =>
    simp at hj; subst hj
    refine ⟨[.int .i64 a.f0, .int .i64 a.f1, .slice A a.f2.length ca], rfl, k68_mk W a ha.1 ha.2, fun i u hu => ?_⟩
    rw [add_at, hcell, show k68.sz = 3 from rfl]
    match i, hu with
    | 0, hu => simpa using hu
    | 1, hu => simpa using hu
    | 2, hu => simpa using hu
    | i + 3, hu => simp at hu
  | 1, hj =>
    simp at hj; subst hj
    refine ⟨[.int .i64 b.f0, .int .i64 b.f1, .slice B b.f2.length cb], rfl, k68_mk W b hb.1 hb.2, fun i u hu => ?_⟩
    rw [add_at, hcell, show k68.sz = 3 from rfl]
    match i, hu with
    | 0, hu => simpa using hu
    | 1, hu => simpa using hu
    | 2, hu => simpa using hu
    | i + 3, hu => simp at hu
  | 2, hj =>
    simp at hj; subst hj
    refine ⟨[.int .i64 c.f0, .int .i64 c.f1, .slice C c.f2.length cc], rfl, k68_mk W c hc.1 hc.2, fun i u hu => ?_⟩
    rw [add_at, hcell, show k68.sz = 3 from rfl]
    match i, hu with
    | 0, hu => simpa using hu
    | 1, hu => simpa using hu
    | 2, hu => simpa using hu
    | i + 3, hu => simp at hu
  | j + 3, hj => simp at hj
theorem al1 (w : World) (o : Obj) (n : Nat) (h : n = w.heap.size) : (w.alloc o).heap[n]? = some o := by rw [h]; exact heap_alloc_new w o
set_option maxRecDepth 100000 in
set_option maxHeartbeats 2000000 in
theorem law12_great (a b c : S68) (A B C : Option Addr) (ca cb cc : Nat) (w : World) (ha : St w A ca a) (hb : St w B cb b) (hc : St w C cc c) (hg : Ev (fun k => bellwetherlaw05_great.f k [a, b, c]) true) :
    Calls Try.prog 12 #[ag A ca a, ag B cb b, ag C cc c] w fun e w' => e = .returned (.bool true) ∧ Below w.heap.size w w' := by
  have hu := Try.underlying68
  have HA := Aside0.mk ha
  have HBB := Aside0.mk hb
  have HCC := Aside0.mk hc
  have B0 := Aside0.mk (show Below w.heap.size w (((w.alloc (.cells #[.int .i64 a.f0, .int .i64 a.f1, .slice A a.f2.length ca] 68)).alloc (.cells #[.int .i64 b.f0, .int .i64 b.f1, .slice B b.f2.length cb] 68)).alloc (.cells #[.int .i64 c.f0, .int .i64 c.f1, .slice C c.f2.length cc] 68)) from by repeat (first | exact Below.refl _ _ | apply below_alloc))
  have HG := Aside0.mk hg
  clear ha hb hc hg
  go_enter Try.func12, Try.ntmps12
  go_wp2_with (go_at_call 67; refine (cAlive67 _).mono ?_)
  rintro e w1 ⟨rfl, hb⟩
  have k1 := hb.size
  simp at k1
  have ba := (hb.block w.heap.size (by simp <;> omega)).trans ((Below.heap_alloc _ _ _ (by simp <;> omega)).trans ((Below.heap_alloc _ _ _ (by simp)).trans (heap_alloc_new w (.cells #[.int .i64 a.f0, .int .i64 a.f1, .slice A a.f2.length ca] 68))))
  have bb := (hb.block (w.heap.size + 1) (by simp)).trans ((Below.heap_alloc _ _ _ (by simp)).trans (al1 _ _ _ (by simp)))
  have bc := (hb.block (w.heap.size + 1 + 1) (by simp)).trans (al1 _ _ _ (by simp))
  have qa0 : w1.cell? ⟨w.heap.size, 0, none⟩ = some (.int .i64 a.f0) := (blk_cell ba 0).trans rfl
  have qa1 : w1.cell? ⟨w.heap.size, 1, none⟩ = some (.int .i64 a.f1) := (blk_cell ba 1).trans rfl
  have qa2 : w1.cell? ⟨w.heap.size, 2, none⟩ = some (.slice A a.f2.length ca) := (blk_cell ba 2).trans rfl
  have qb0 : w1.cell? ⟨w.heap.size + 1, 0, none⟩ = some (.int .i64 b.f0) := (blk_cell bb 0).trans rfl
  have qb1 : w1.cell? ⟨w.heap.size + 1, 1, none⟩ = some (.int .i64 b.f1) := (blk_cell bb 1).trans rfl
  have qb2 : w1.cell? ⟨w.heap.size + 1, 2, none⟩ = some (.slice B b.f2.length cb) := (blk_cell bb 2).trans rfl
  have qc0 : w1.cell? ⟨w.heap.size + 1 + 1, 0, none⟩ = some (.int .i64 c.f0) := (blk_cell bc 0).trans rfl
  have qc1 : w1.cell? ⟨w.heap.size + 1 + 1, 1, none⟩ = some (.int .i64 c.f1) := (blk_cell bc 1).trans rfl
  have qc2 : w1.cell? ⟨w.heap.size + 1 + 1, 2, none⟩ = some (.slice C c.f2.length cc) := (blk_cell bc 2).trans rfl
  have B1 := Aside0.mk (below_step B0.out hb)
  have LA := Aside0.mk (HA.out.below B1.out)
  have LB := Aside0.mk (HBB.out.below B1.out)
  have LC := Aside0.mk (HCC.out.below B1.out)
  have l1a : w.heap.size < w1.heap.size := by omega
  have l1b : w.heap.size + 1 < w1.heap.size := by omega
  have l1c : w.heap.size + 1 + 1 < w1.heap.size := by omega
  clear hb ba bb bc k1
  go_wp2_with (go_at_call 68; refine (bellwetherlaw05_great.calls HG.out.rounds.choose _ 3 [a, b, c] _ _ (C_three (al1 w1 (.cells #[.int .i64 a.f0, .int .i64 a.f1, .slice A a.f2.length ca, .int .i64 b.f0, .int .i64 b.f1, .slice B b.f2.length cb, .int .i64 c.f0, .int .i64 c.f1, .slice C c.f2.length cc] 68) _ rfl) (LA.out.below (below_alloc (Below.refl _ _) _)) (LB.out.below (below_alloc (Below.refl _ _) _)) (LC.out.below (below_alloc (Below.refl _ _) _))) (Nat.le_refl _) HG.out.rounds.choose_spec).mono ?_)
  rintro e w2 ⟨rfl, hb⟩
  have B2 := Aside0.mk (below_step (below_alloc B1.out _) hb)
  have hc2 := bcell' hb
  have z2 := hb.size
  simp at z2
  have m1a : w.heap.size < w1.heap.size + 1 := by omega
  have m1b : w.heap.size + 1 < w1.heap.size + 1 := by omega
  have m1c : w.heap.size + 1 + 1 < w1.heap.size + 1 := by omega
  have l2a : w.heap.size < w2.heap.size := by omega
  have l2b : w.heap.size + 1 < w2.heap.size := by omega
  have l2c : w.heap.size + 1 + 1 < w2.heap.size := by omega
  have M2 := Aside0.mk (below_step (below_alloc (Below.refl _ _) _) hb : Below w1.heap.size w1 w2)
  clear hb z2
  go_wp2
  go_ret
  exact ⟨rfl, B2.out⟩
set_option maxRecDepth 100000 in
set_option maxHeartbeats 2000000 in
theorem law12_a (a b c : S68) (A B C : Option Addr) (ca cb cc : Nat) (w : World) (ha : St w A ca a) (hb : St w B cb b) (hc : St w C cc c) (hg : Ev (fun k => bellwetherlaw05_great.f k [a, b, c]) false) (oa : okS a = false) :
    Calls Try.prog 12 #[ag A ca a, ag B cb b, ag C cc c] w fun e w' => e = .returned (.bool true) ∧ Below w.heap.size w w' := by
  have hu := Try.underlying68
  have HA := Aside0.mk ha
  have HBB := Aside0.mk hb
  have HCC := Aside0.mk hc
  have B0 := Aside0.mk (show Below w.heap.size w (((w.alloc (.cells #[.int .i64 a.f0, .int .i64 a.f1, .slice A a.f2.length ca] 68)).alloc (.cells #[.int .i64 b.f0, .int .i64 b.f1, .slice B b.f2.length cb] 68)).alloc (.cells #[.int .i64 c.f0, .int .i64 c.f1, .slice C c.f2.length cc] 68)) from by repeat (first | exact Below.refl _ _ | apply below_alloc))
  have HG := Aside0.mk hg
  have OA := Aside0.mk oa
  clear ha hb hc hg oa
  go_enter Try.func12, Try.ntmps12
  go_wp2_with (go_at_call 67; refine (cAlive67 _).mono ?_)
  rintro e w1 ⟨rfl, hb⟩
  have k1 := hb.size
  simp at k1
  have ba := (hb.block w.heap.size (by simp <;> omega)).trans ((Below.heap_alloc _ _ _ (by simp <;> omega)).trans ((Below.heap_alloc _ _ _ (by simp)).trans (heap_alloc_new w (.cells #[.int .i64 a.f0, .int .i64 a.f1, .slice A a.f2.length ca] 68))))
  have bb := (hb.block (w.heap.size + 1) (by simp)).trans ((Below.heap_alloc _ _ _ (by simp)).trans (al1 _ _ _ (by simp)))
  have bc := (hb.block (w.heap.size + 1 + 1) (by simp)).trans (al1 _ _ _ (by simp))
  have qa0 : w1.cell? ⟨w.heap.size, 0, none⟩ = some (.int .i64 a.f0) := (blk_cell ba 0).trans rfl
  have qa1 : w1.cell? ⟨w.heap.size, 1, none⟩ = some (.int .i64 a.f1) := (blk_cell ba 1).trans rfl
  have qa2 : w1.cell? ⟨w.heap.size, 2, none⟩ = some (.slice A a.f2.length ca) := (blk_cell ba 2).trans rfl
  have qb0 : w1.cell? ⟨w.heap.size + 1, 0, none⟩ = some (.int .i64 b.f0) := (blk_cell bb 0).trans rfl
  have qb1 : w1.cell? ⟨w.heap.size + 1, 1, none⟩ = some (.int .i64 b.f1) := (blk_cell bb 1).trans rfl
  have qb2 : w1.cell? ⟨w.heap.size + 1, 2, none⟩ = some (.slice B b.f2.length cb) := (blk_cell bb 2).trans rfl
  have qc0 : w1.cell? ⟨w.heap.size + 1 + 1, 0, none⟩ = some (.int .i64 c.f0) := (blk_cell bc 0).trans rfl
  have qc1 : w1.cell? ⟨w.heap.size + 1 + 1, 1, none⟩ = some (.int .i64 c.f1) := (blk_cell bc 1).trans rfl
  have qc2 : w1.cell? ⟨w.heap.size + 1 + 1, 2, none⟩ = some (.slice C c.f2.length cc) := (blk_cell bc 2).trans rfl
  have B1 := Aside0.mk (below_step B0.out hb)
  have LA := Aside0.mk (HA.out.below B1.out)
  have LB := Aside0.mk (HBB.out.below B1.out)
  have LC := Aside0.mk (HCC.out.below B1.out)
  have l1a : w.heap.size < w1.heap.size := by omega
  have l1b : w.heap.size + 1 < w1.heap.size := by omega
  have l1c : w.heap.size + 1 + 1 < w1.heap.size := by omega
  clear hb ba bb bc k1
  go_wp2_with (go_at_call 68; refine (bellwetherlaw05_great.calls HG.out.rounds.choose _ 3 [a, b, c] _ _ (C_three (al1 w1 (.cells #[.int .i64 a.f0, .int .i64 a.f1, .slice A a.f2.length ca, .int .i64 b.f0, .int .i64 b.f1, .slice B b.f2.length cb, .int .i64 c.f0, .int .i64 c.f1, .slice C c.f2.length cc] 68) _ rfl) (LA.out.below (below_alloc (Below.refl _ _) _)) (LB.out.below (below_alloc (Below.refl _ _) _)) (LC.out.below (below_alloc (Below.refl _ _) _))) (Nat.le_refl _) HG.out.rounds.choose_spec).mono ?_)
  rintro e w2 ⟨rfl, hb⟩
  have B2 := Aside0.mk (below_step (below_alloc B1.out _) hb)
  have hc2 := bcell' hb
  have z2 := hb.size
  simp at z2
  have m1a : w.heap.size < w1.heap.size + 1 := by omega
  have m1b : w.heap.size + 1 < w1.heap.size + 1 := by omega
  have m1c : w.heap.size + 1 + 1 < w1.heap.size + 1 := by omega
  have l2a : w.heap.size < w2.heap.size := by omega
  have l2b : w.heap.size + 1 < w2.heap.size := by omega
  have l2c : w.heap.size + 1 + 1 < w2.heap.size := by omega
  have M2 := Aside0.mk (below_step (below_alloc (Below.refl _ _) _) hb : Below w1.heap.size w1 w2)
  clear hb z2
  go_wp2_with (go_at_call 69; refine (cRight69 ((LA.out.below M2.out)) OA.out).mono ?_)
  rintro e w3 ⟨rfl, hb⟩
  have B3 := Aside0.mk (below_step B2.out hb)
  have hc3 := bcell' hb
  have z3 := hb.size
  have l3a : w.heap.size < w3.heap.size := by omega
  have l3b : w.heap.size + 1 < w3.heap.size := by omega
  have l3c : w.heap.size + 1 + 1 < w3.heap.size := by omega
  have M3 := Aside0.mk (below_step M2.out hb)
  clear hb z3
  go_wp2
  go_ret
  exact ⟨rfl, B3.out⟩
set_option maxRecDepth 100000 in
set_option maxHeartbeats 2000000 in
theorem law12_b (a b c : S68) (A B C : Option Addr) (ca cb cc : Nat) (w : World) (ha : St w A ca a) (hb : St w B cb b) (hc : St w C cc c) (hg : Ev (fun k => bellwetherlaw05_great.f k [a, b, c]) false) (oa : okS a = true) (ob : okS b = false) :
    Calls Try.prog 12 #[ag A ca a, ag B cb b, ag C cc c] w fun e w' => e = .returned (.bool true) ∧ Below w.heap.size w w' := by
  have hu := Try.underlying68
  have HA := Aside0.mk ha
  have HBB := Aside0.mk hb
  have HCC := Aside0.mk hc
  have B0 := Aside0.mk (show Below w.heap.size w (((w.alloc (.cells #[.int .i64 a.f0, .int .i64 a.f1, .slice A a.f2.length ca] 68)).alloc (.cells #[.int .i64 b.f0, .int .i64 b.f1, .slice B b.f2.length cb] 68)).alloc (.cells #[.int .i64 c.f0, .int .i64 c.f1, .slice C c.f2.length cc] 68)) from by repeat (first | exact Below.refl _ _ | apply below_alloc))
  have HG := Aside0.mk hg
  have OA := Aside0.mk oa
  have OB := Aside0.mk ob
  clear ha hb hc hg oa ob
  go_enter Try.func12, Try.ntmps12
  go_wp2_with (go_at_call 67; refine (cAlive67 _).mono ?_)
  rintro e w1 ⟨rfl, hb⟩
  have k1 := hb.size
  simp at k1
  have ba := (hb.block w.heap.size (by simp <;> omega)).trans ((Below.heap_alloc _ _ _ (by simp <;> omega)).trans ((Below.heap_alloc _ _ _ (by simp)).trans (heap_alloc_new w (.cells #[.int .i64 a.f0, .int .i64 a.f1, .slice A a.f2.length ca] 68))))
  have bb := (hb.block (w.heap.size + 1) (by simp)).trans ((Below.heap_alloc _ _ _ (by simp)).trans (al1 _ _ _ (by simp)))
  have bc := (hb.block (w.heap.size + 1 + 1) (by simp)).trans (al1 _ _ _ (by simp))
  have qa0 : w1.cell? ⟨w.heap.size, 0, none⟩ = some (.int .i64 a.f0) := (blk_cell ba 0).trans rfl
  have qa1 : w1.cell? ⟨w.heap.size, 1, none⟩ = some (.int .i64 a.f1) := (blk_cell ba 1).trans rfl
  have qa2 : w1.cell? ⟨w.heap.size, 2, none⟩ = some (.slice A a.f2.length ca) := (blk_cell ba 2).trans rfl
  have qb0 : w1.cell? ⟨w.heap.size + 1, 0, none⟩ = some (.int .i64 b.f0) := (blk_cell bb 0).trans rfl
  have qb1 : w1.cell? ⟨w.heap.size + 1, 1, none⟩ = some (.int .i64 b.f1) := (blk_cell bb 1).trans rfl
  have qb2 : w1.cell? ⟨w.heap.size + 1, 2, none⟩ = some (.slice B b.f2.length cb) := (blk_cell bb 2).trans rfl
  have qc0 : w1.cell? ⟨w.heap.size + 1 + 1, 0, none⟩ = some (.int .i64 c.f0) := (blk_cell bc 0).trans rfl
  have qc1 : w1.cell? ⟨w.heap.size + 1 + 1, 1, none⟩ = some (.int .i64 c.f1) := (blk_cell bc 1).trans rfl
  have qc2 : w1.cell? ⟨w.heap.size + 1 + 1, 2, none⟩ = some (.slice C c.f2.length cc) := (blk_cell bc 2).trans rfl
  have B1 := Aside0.mk (below_step B0.out hb)
  have LA := Aside0.mk (HA.out.below B1.out)
  have LB := Aside0.mk (HBB.out.below B1.out)
  have LC := Aside0.mk (HCC.out.below B1.out)
  have l1a : w.heap.size < w1.heap.size := by omega
  have l1b : w.heap.size + 1 < w1.heap.size := by omega
  have l1c : w.heap.size + 1 + 1 < w1.heap.size := by omega
  clear hb ba bb bc k1
  go_wp2_with (go_at_call 68; refine (bellwetherlaw05_great.calls HG.out.rounds.choose _ 3 [a, b, c] _ _ (C_three (al1 w1 (.cells #[.int .i64 a.f0, .int .i64 a.f1, .slice A a.f2.length ca, .int .i64 b.f0, .int .i64 b.f1, .slice B b.f2.length cb, .int .i64 c.f0, .int .i64 c.f1, .slice C c.f2.length cc] 68) _ rfl) (LA.out.below (below_alloc (Below.refl _ _) _)) (LB.out.below (below_alloc (Below.refl _ _) _)) (LC.out.below (below_alloc (Below.refl _ _) _))) (Nat.le_refl _) HG.out.rounds.choose_spec).mono ?_)
  rintro e w2 ⟨rfl, hb⟩
  have B2 := Aside0.mk (below_step (below_alloc B1.out _) hb)
  have hc2 := bcell' hb
  have z2 := hb.size
  simp at z2
  have m1a : w.heap.size < w1.heap.size + 1 := by omega
  have m1b : w.heap.size + 1 < w1.heap.size + 1 := by omega
  have m1c : w.heap.size + 1 + 1 < w1.heap.size + 1 := by omega
  have l2a : w.heap.size < w2.heap.size := by omega
  have l2b : w.heap.size + 1 < w2.heap.size := by omega
  have l2c : w.heap.size + 1 + 1 < w2.heap.size := by omega
  have M2 := Aside0.mk (below_step (below_alloc (Below.refl _ _) _) hb : Below w1.heap.size w1 w2)
  clear hb z2
  go_wp2_with (go_at_call 69; refine (cRight69 ((LA.out.below M2.out)) OA.out).mono ?_)
  rintro e w3 ⟨rfl, hb⟩
  have B3 := Aside0.mk (below_step B2.out hb)
  have hc3 := bcell' hb
  have z3 := hb.size
  have l3a : w.heap.size < w3.heap.size := by omega
  have l3b : w.heap.size + 1 < w3.heap.size := by omega
  have l3c : w.heap.size + 1 + 1 < w3.heap.size := by omega
  have M3 := Aside0.mk (below_step M2.out hb)
  clear hb z3
  go_wp2_with (go_at_call 69; refine (cRight69 ((LB.out.below M3.out)) OB.out).mono ?_)
  rintro e w4 ⟨rfl, hb⟩
  have B4 := Aside0.mk (below_step B3.out hb)
  have hc4 := bcell' hb
  have z4 := hb.size
  have l4a : w.heap.size < w4.heap.size := by omega
  have l4b : w.heap.size + 1 < w4.heap.size := by omega
  have l4c : w.heap.size + 1 + 1 < w4.heap.size := by omega
  have M4 := Aside0.mk (below_step M3.out hb)
  clear hb z4
  go_wp2
  go_ret
  exact ⟨rfl, B4.out⟩
set_option maxRecDepth 100000 in
set_option maxHeartbeats 2000000 in
theorem law12_c (a b c : S68) (A B C : Option Addr) (ca cb cc : Nat) (w : World) (ha : St w A ca a) (hb : St w B cb b) (hc : St w C cc c) (hg : Ev (fun k => bellwetherlaw05_great.f k [a, b, c]) false) (oa : okS a = true) (ob : okS b = true) (oc : okS c = false) :
    Calls Try.prog 12 #[ag A ca a, ag B cb b, ag C cc c] w fun e w' => e = .returned (.bool true) ∧ Below w.heap.size w w' := by
  have hu := Try.underlying68
  have HA := Aside0.mk ha
  have HBB := Aside0.mk hb
  have HCC := Aside0.mk hc
  have B0 := Aside0.mk (show Below w.heap.size w (((w.alloc (.cells #[.int .i64 a.f0, .int .i64 a.f1, .slice A a.f2.length ca] 68)).alloc (.cells #[.int .i64 b.f0, .int .i64 b.f1, .slice B b.f2.length cb] 68)).alloc (.cells #[.int .i64 c.f0, .int .i64 c.f1, .slice C c.f2.length cc] 68)) from by repeat (first | exact Below.refl _ _ | apply below_alloc))
  have HG := Aside0.mk hg
  have OA := Aside0.mk oa
  have OB := Aside0.mk ob
  have OC := Aside0.mk oc
  clear ha hb hc hg oa ob oc
  go_enter Try.func12, Try.ntmps12
  go_wp2_with (go_at_call 67; refine (cAlive67 _).mono ?_)
  rintro e w1 ⟨rfl, hb⟩
  have k1 := hb.size
  simp at k1
  have ba := (hb.block w.heap.size (by simp <;> omega)).trans ((Below.heap_alloc _ _ _ (by simp <;> omega)).trans ((Below.heap_alloc _ _ _ (by simp)).trans (heap_alloc_new w (.cells #[.int .i64 a.f0, .int .i64 a.f1, .slice A a.f2.length ca] 68))))
  have bb := (hb.block (w.heap.size + 1) (by simp)).trans ((Below.heap_alloc _ _ _ (by simp)).trans (al1 _ _ _ (by simp)))
  have bc := (hb.block (w.heap.size + 1 + 1) (by simp)).trans (al1 _ _ _ (by simp))
  have qa0 : w1.cell? ⟨w.heap.size, 0, none⟩ = some (.int .i64 a.f0) := (blk_cell ba 0).trans rfl
  have qa1 : w1.cell? ⟨w.heap.size, 1, none⟩ = some (.int .i64 a.f1) := (blk_cell ba 1).trans rfl
  have qa2 : w1.cell? ⟨w.heap.size, 2, none⟩ = some (.slice A a.f2.length ca) := (blk_cell ba 2).trans rfl
  have qb0 : w1.cell? ⟨w.heap.size + 1, 0, none⟩ = some (.int .i64 b.f0) := (blk_cell bb 0).trans rfl
  have qb1 : w1.cell? ⟨w.heap.size + 1, 1, none⟩ = some (.int .i64 b.f1) := (blk_cell bb 1).trans rfl
  have qb2 : w1.cell? ⟨w.heap.size + 1, 2, none⟩ = some (.slice B b.f2.length cb) := (blk_cell bb 2).trans rfl
  have qc0 : w1.cell? ⟨w.heap.size + 1 + 1, 0, none⟩ = some (.int .i64 c.f0) := (blk_cell bc 0).trans rfl
  have qc1 : w1.cell? ⟨w.heap.size + 1 + 1, 1, none⟩ = some (.int .i64 c.f1) := (blk_cell bc 1).trans rfl
  have qc2 : w1.cell? ⟨w.heap.size + 1 + 1, 2, none⟩ = some (.slice C c.f2.length cc) := (blk_cell bc 2).trans rfl
  have B1 := Aside0.mk (below_step B0.out hb)
  have LA := Aside0.mk (HA.out.below B1.out)
  have LB := Aside0.mk (HBB.out.below B1.out)
  have LC := Aside0.mk (HCC.out.below B1.out)
  have l1a : w.heap.size < w1.heap.size := by omega
  have l1b : w.heap.size + 1 < w1.heap.size := by omega
  have l1c : w.heap.size + 1 + 1 < w1.heap.size := by omega
  clear hb ba bb bc k1
  go_wp2_with (go_at_call 68; refine (bellwetherlaw05_great.calls HG.out.rounds.choose _ 3 [a, b, c] _ _ (C_three (al1 w1 (.cells #[.int .i64 a.f0, .int .i64 a.f1, .slice A a.f2.length ca, .int .i64 b.f0, .int .i64 b.f1, .slice B b.f2.length cb, .int .i64 c.f0, .int .i64 c.f1, .slice C c.f2.length cc] 68) _ rfl) (LA.out.below (below_alloc (Below.refl _ _) _)) (LB.out.below (below_alloc (Below.refl _ _) _)) (LC.out.below (below_alloc (Below.refl _ _) _))) (Nat.le_refl _) HG.out.rounds.choose_spec).mono ?_)
  rintro e w2 ⟨rfl, hb⟩
  have B2 := Aside0.mk (below_step (below_alloc B1.out _) hb)
  have hc2 := bcell' hb
  have z2 := hb.size
  simp at z2
  have m1a : w.heap.size < w1.heap.size + 1 := by omega
  have m1b : w.heap.size + 1 < w1.heap.size + 1 := by omega
  have m1c : w.heap.size + 1 + 1 < w1.heap.size + 1 := by omega
  have l2a : w.heap.size < w2.heap.size := by omega
  have l2b : w.heap.size + 1 < w2.heap.size := by omega
  have l2c : w.heap.size + 1 + 1 < w2.heap.size := by omega
  have M2 := Aside0.mk (below_step (below_alloc (Below.refl _ _) _) hb : Below w1.heap.size w1 w2)
  clear hb z2
  go_wp2_with (go_at_call 69; refine (cRight69 ((LA.out.below M2.out)) OA.out).mono ?_)
  rintro e w3 ⟨rfl, hb⟩
  have B3 := Aside0.mk (below_step B2.out hb)
  have hc3 := bcell' hb
  have z3 := hb.size
  have l3a : w.heap.size < w3.heap.size := by omega
  have l3b : w.heap.size + 1 < w3.heap.size := by omega
  have l3c : w.heap.size + 1 + 1 < w3.heap.size := by omega
  have M3 := Aside0.mk (below_step M2.out hb)
  clear hb z3
  go_wp2_with (go_at_call 69; refine (cRight69 ((LB.out.below M3.out)) OB.out).mono ?_)
  rintro e w4 ⟨rfl, hb⟩
  have B4 := Aside0.mk (below_step B3.out hb)
  have hc4 := bcell' hb
  have z4 := hb.size
  have l4a : w.heap.size < w4.heap.size := by omega
  have l4b : w.heap.size + 1 < w4.heap.size := by omega
  have l4c : w.heap.size + 1 + 1 < w4.heap.size := by omega
  have M4 := Aside0.mk (below_step M3.out hb)
  clear hb z4
  go_wp2_with (go_at_call 69; refine (cRight69 ((LC.out.below M4.out)) OC.out).mono ?_)
  rintro e w5 ⟨rfl, hb⟩
  have B5 := Aside0.mk (below_step B4.out hb)
  have hc5 := bcell' hb
  have z5 := hb.size
  have l5a : w.heap.size < w5.heap.size := by omega
  have l5b : w.heap.size + 1 < w5.heap.size := by omega
  have l5c : w.heap.size + 1 + 1 < w5.heap.size := by omega
  have M5 := Aside0.mk (below_step M4.out hb)
  clear hb z5
  go_wp2
  go_ret
  exact ⟨rfl, B5.out⟩
theorem cJoin70R {A B : Option Addr} {c d : Nat} {a b x : S68} {w : World} (ha : St w A c a) (hb : St w B d b) (h1 : a.f2.length ≤ 12) (h2 : b.f2.length ≤ 12) (e : joinS a b = x) :
    Calls Try.prog 70 #[ag A c a, ag B d b] w fun e w' => ∃ A' c', e = .returned (ag A' c' x) ∧ St w' A' c' x ∧ Kd.R k152 152 w' w.heap.size (fun _ => True) (.slice A' x.f2.length c') x.f2 ∧ Below w.heap.size w w' := by
  subst e
  obtain ⟨k, hk⟩ := (ev_JoinS a b (by omega)).rounds
  refine (state_Join.calls k a.f0 a.f1 A c a.f2 b.f0 b.f1 B d b.f2 _ _ _ w ha.2 ha.1 hb.2 hb.1 hk).mono ?_
  rintro e w' ⟨v, rfl, ho, hb'⟩
  obtain ⟨A', c', rfl, h1, h2⟩ := Kd.R_reads ho
  exact ⟨A', c', rfl, ⟨h1, h2⟩, ho, hb'⟩
theorem St_of_R {A : Option Addr} {c base : Nat} {x : S68} {w : World} (h : Kd.R k152 152 w base (fun _ => True) (.slice A x.f2.length c) x.f2) : St w A c x := by
  obtain ⟨A', c', e, h1, h2⟩ := Kd.R_reads h
  injection e with e1 _ e2
  subst e1; subst e2
  exact ⟨h1, h2⟩
theorem cSame71' {A B : Option Addr} {c d : Nat} {a : S68} {w : World} (ha : St w A c a) (hb : St w B d a) :
    Calls Try.prog 71 #[ag A c a, ag B d a] w fun e w' => e = .returned (.bool true) ∧ Below w.heap.size w w' := cSame71 ha hb rfl
theorem cJoin70' {A B : Option Addr} {c d : Nat} {a b x : S68} {w : World} (ha : St w A c a) (hb : St w B d b) (h1 : a.f2.length ≤ 12) (h2 : b.f2.length ≤ 12) (e : joinS a b = x) :
    Calls Try.prog 70 #[ag A c a, ag B d b] w fun e w' => ∃ A' c', e = .returned (ag A' c' x) ∧ St w' A' c' x ∧ Below w.heap.size w w' := by subst e; exact cJoin70 ha hb (by omega)
theorem cJoin72' {A B : Option Addr} {c d : Nat} {a b x : S68} {w : World} (ha : St w A c a) (hb : St w B d b) (h1 : a.f2.length ≤ 12) (h2 : b.f2.length ≤ 12) (sa : Sorted a.f2) (sb : Sorted b.f2) (e : joinS a b = x) :
    Calls Try.prog 72 #[ag A c a, ag B d b] w fun e w' => ∃ A' c', e = .returned (ag A' c' x) ∧ St w' A' c' x ∧ Below w.heap.size w w' := by subst e; exact cJoin72 ha hb sa sb (by omega)
end Go.Proofs.Ytjlgbgkpiganbaa.P
set_option linter.unusedVariables false
set_option linter.unusedSimpArgs false
namespace Go.Proofs.Ytjlgbgkpiganbaa.P
open Go.RowKit Go.Proofs.YtjlgbgkpiganbaaW.PrintWords Go.Proofs.YtjlgbgkpiganbaaW.PrintLast Go.Proofs.YtjlgbgkpiganbaaW.PrintMore
theorem below_then' {B : Nat} {w w1 w2 : World} (h : Below B w w1) (hB : B ≤ w1.heap.size) (k : Below w1.heap.size w1 w2) : Below B w w2 :=
  h.trans ⟨k.os, k.tape, k.output, k.size, fun i hi => k.block i (Nat.lt_of_lt_of_le hi hB)⟩
theorem bfroz' {W w1 : World} (hb : Below W.heap.size W w1) : (∀ b o, b < W.heap.size → w1.frozen? ⟨b, o, none⟩ = W.frozen? ⟨b, o, none⟩) := fun b o h => hb.frozen (p := ⟨b, o, none⟩) h
def tab12T : Bool × List (List Nat × List Nat) := (true, [([], []), ([], []), ([], []), ([1, 2], [1, 2]), ([0, 3, 3], [0, 3]), ([4, 4], [4]), ([5], [5]), ([5], [5]), ([5], [5]), ([7, 8, 5, 5], [5, 7, 8]), ([6, 9, 9, 5], [5, 6, 9]), ([5, 10], [5, 10]), ([11, 10], [11]), ([12], [12]), ([12], [12]), ([13, 14, 12, 12], [12, 13, 14]), ([12, 15], [12, 15]), ([16, 15], [16]), ([17], [17]), ([17], [17]), ([18, 19, 17, 17], [17, 18, 19]), ([17], [17]), ([20, 21, 20, 17], [17, 20, 21]), ([17, 22], [17, 22]), ([23, 22], [23]), ([24], [24]), ([24], [24]), ([25, 26, 24, 24], [24, 25, 26]), ([24, 27], [24, 27]), ([28, 27], [28]), ([29], [29]), ([29], [29]), ([30, 31, 29, 29], [29, 30, 31]), ([29, 32], [29, 32]), ([33, 32], [33]), ([34], [34]), ([35, 34, 34], [34, 35]), ([34, 36], [34, 36]), ([37, 36], [37]), ([38], [38]), ([38], [38]), ([39, 40, 38, 38], [38, 39, 40]), ([38], [38]), ([38], [38]), ([42, 43, 41, 38], [38, 42, 43]), ([41, 44, 38], [38, 41, 44]), ([38, 45], [38, 45]), ([46, 44], [46]), ([47], [47]), ([47], [47]), ([48, 49, 47, 47], [47, 48, 49]), ([50, 47], [47, 50]), ([51, 50, 47], [47, 51]), ([52], [52]), ([52], [52]), ([53, 54, 52, 52], [52, 53, 54]), ([55, 52], [52, 55]), ([52, 56, 47], [47, 52, 56]), ([57, 55, 47], [47, 57]), ([58], [58]), ([58], [58]), ([59, 60, 58, 58], [58, 59, 60]), ([58, 61, 47], [47, 58, 61]), ([47, 62], [47, 62]), ([63, 61, 0, 1, 2, 3, 4, 5, 6, 7, 8, 9, 10, 11, 12, 13, 14, 15, 16, 17, 18, 19, 20, 21, 22, 23, 24, 25, 26, 27, 28, 29, 30, 31, 32, 33, 34, 35, 36, 37, 38, 39, 40, 41, 42, 43, 44, 45, 46, 47, 48, 49, 50, 51, 52, 53, 54, 55, 56, 57, 58, 59, 60, 61, 62, 63], [63])])
def tab12B : List Nat := [0, 0, 0, 6, 15, 31, 63, 63, 63, 447, 1023, 2047, 4095, 8191, 8191, 32767, 65535, 131071, 262143, 262143, 1048575, 262143, 4194303, 8388607, 16777215, 33554431, 33554431, 134217727, 268435455, 536870911, 1073741823, 1073741823, 4294967295, 8589934591, 17179869183, 34359738367, 68719476735, 137438953471, 274877906943, 549755813887, 549755813887, 2199023255551, 549755813887, 549755813887, 17592186044415, 35184372088831, 70368744177663, 140737488355327, 281474976710655, 281474976710655, 1125899906842623, 2251799813685247, 4503599627370495, 9007199254740991, 9007199254740991, 36028797018963967, 72057594037927935, 144115188075855871, 288230376151711743, 576460752303423487, 576460752303423487, 2305843009213693951, 4611686018427387903, 9223372036854775807, 18446744073709551615]
theorem tab12_tab : rtab .any (opsOf Try.f12 8) = tab12T := by kernel_rfl
theorem tab12_bits : waitsOk tab12T.2 tab12B = true := by kernel_rfl
def fl65 (n : Nat) : Array Bool := ((List.range 65).map fun j => decide (j < n)).toArray
end Go.Proofs.Ytjlgbgkpiganbaa.P
