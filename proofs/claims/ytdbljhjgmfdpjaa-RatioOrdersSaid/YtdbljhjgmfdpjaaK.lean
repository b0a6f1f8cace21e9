/-
  Words of this seat: kinds of values (Ty), rows that are read (Rd), rows of the call's own (Own). No program in sight.
-/
import Derived.Below
import Derived.OwnWalk
import Derived.Laws.AppendOwn
import Derived.Laws.OwnMore
import Derived.Laws.MakeOwn
import Derived.Laws.Rows
import Derived.Maps.AppendAt
import Derived.Deep.Draws
import Derived.Deep.AppendLies
import Derived.WalkKit
set_option linter.unusedVariables false
set_option linter.unusedSimpArgs false
namespace Go.Proofs.Ytdbljhjgmfdpjaa
open Go.RowKit

/-- A fact that the walk does not look into. -/
structure Hide (p : Prop) : Prop where mk :: (out : p)

theorem add_block (a : Addr) (n : Nat) : (a.add n).block = a.block := by unfold Addr.add; split <;> rfl
theorem add_spot (a : Addr) (n : Nat) (h : a.spot = none) : (a.add n).spot = none := by unfold Addr.add; split <;> simp_all
theorem add_add (a : Addr) (i j : Nat) : (a.add i).add j = a.add (i + j) := by
  unfold Addr.add
  by_cases hi : i = 0 <;> by_cases hj : j = 0 <;> simp [hi, hj, Nat.add_assoc]
theorem add_at (g o j : Nat) : (⟨g, o, none⟩ : Addr).add j = ⟨g, o + j, none⟩ := by unfold Addr.add; split <;> simp_all
theorem add_fld (a : Addr) (i : Nat) (hi : 0 < i) : a.add i = ⟨a.block, a.off + i, none⟩ := by unfold Addr.add; rw [if_neg (by omega)]
theorem cell_step {w w1 : World} {a : Addr} (h : w1.heap[a.block]? = w.heap[a.block]?) : w1.cell? a = w.cell? a := by simp [World.cell?, h]

/-- What the cells of a value say. ok: the blocks that it leads to. -/
structure Ty (α : Type) where
  sz : Nat
  pos : 0 < sz
  K : World → (Nat → Prop) → α → List Value → Prop
  len : ∀ {w ok x cs}, K w ok x cs → cs.length = sz
  one : ∀ {w ok x cs}, K w ok x cs → ∀ u ∈ cs, u.oneCell' = true
  step : ∀ {w w1 : World} {ok x cs}, (∀ k, ok k → k < w.heap.size → w1.heap[k]? = w.heap[k]?) → K w ok x cs → K w1 ok x cs
  mono : ∀ {w ok ok' x cs}, (∀ k, ok k → ok' k) → K w ok x cs → K w ok' x cs
  bound : ∀ {w : World} {ok x cs}, K w ok x cs → K w (fun k => ok k ∧ k < w.heap.size) x cs

/-- A row that is read. -/
def Rd {α : Type} (d : Ty α) (w : World) (ok : Nat → Prop) (A : Option Addr) (n : Nat) (xs : List α) : Prop :=
  xs.length = n ∧ (0 < n → ∃ ad, A = some ad ∧ ok ad.block ∧ ad.block < w.heap.size ∧ ∀ i x, xs[i]? = some x → ∃ cs, d.K w ok x cs ∧ ∀ j u, cs[j]? = some u → w.cell? (ad.add (i * d.sz + j)) = some u)
/-- Whatever block. -/
abbrev T : Nat → Prop := fun _ => True

section
variable {α : Type} {d : Ty α} {w w1 : World} {ok ok' : Nat → Prop} {A : Option Addr} {n : Nat} {xs : List α}
theorem Rd.none_ (d : Ty α) (w : World) (ok : Nat → Prop) : Rd d w ok none 0 [] := ⟨rfl, fun h => absurd h (by omega)⟩
theorem Rd.nil_ (d : Ty α) (w : World) (ok : Nat → Prop) (A : Option Addr) : Rd d w ok A 0 [] := ⟨rfl, fun h => absurd h (by omega)⟩
theorem Rd.step (h : Rd d w ok A n xs) (hm : ∀ k, ok k → k < w.heap.size → w1.heap[k]? = w.heap[k]?) (hs : w.heap.size ≤ w1.heap.size) : Rd d w1 ok A n xs := by
  refine ⟨h.1, fun hn => ?_⟩
  obtain ⟨ad, e, ho, hb, hc⟩ := h.2 hn
  refine ⟨ad, e, ho, by omega, fun i x hx => ?_⟩
  obtain ⟨cs, hK, hcell⟩ := hc i x hx
  refine ⟨cs, d.step hm hK, fun j u hu => ?_⟩
  exact (cell_step (by rw [add_block]; exact hm _ ho hb)).trans (hcell j u hu)
theorem Rd.mono (h : Rd d w ok A n xs) (hm : ∀ k, ok k → ok' k) : Rd d w ok' A n xs := by
  refine ⟨h.1, fun hn => ?_⟩
  obtain ⟨ad, e, ho, hb, hc⟩ := h.2 hn
  refine ⟨ad, e, hm _ ho, hb, fun i x hx => ?_⟩
  obtain ⟨cs, hK, hcell⟩ := hc i x hx
  exact ⟨cs, d.mono hm hK, hcell⟩
theorem Rd.bound (h : Rd d w ok A n xs) : Rd d w (fun k => ok k ∧ k < w.heap.size) A n xs := by
  refine ⟨h.1, fun hn => ?_⟩
  obtain ⟨ad, e, ho, hb, hc⟩ := h.2 hn
  refine ⟨ad, e, ⟨ho, hb⟩, hb, fun i x hx => ?_⟩
  obtain ⟨cs, hK, hcell⟩ := hc i x hx
  exact ⟨cs, d.bound hK, hcell⟩
theorem Rd.below (h : Rd d w ok A n xs) (hb : Below w.heap.size w w1) : Rd d w1 ok A n xs := h.step (fun k _ hk => hb.block k hk) hb.size
theorem Rd.at_ (h : Rd d w ok A n xs) {k : Nat} (hk : k < n) : ∃ ad cs, A = some ad ∧ ok ad.block ∧ ad.block < w.heap.size ∧ d.K w ok (xs[k]'(by rw [h.1]; exact hk)) cs ∧ ∀ j u, cs[j]? = some u → w.cell? (ad.add (k * d.sz + j)) = some u := by
  obtain ⟨ad, e, ho, hb, hc⟩ := h.2 (by omega)
  obtain ⟨cs, hK, hcell⟩ := hc k _ (List.getElem?_eq_getElem (by rw [h.1]; exact hk))
  exact ⟨ad, cs, e, ho, hb, hK, hcell⟩
theorem Rd.get (h : Rd d w ok A n xs) {k : Nat} {x : α} (hx : xs[k]? = some x) : ∃ ad cs, A = some ad ∧ k < n ∧ ok ad.block ∧ ad.block < w.heap.size ∧ d.K w ok x cs ∧ ∀ j u, cs[j]? = some u → w.cell? (ad.add (k * d.sz + j)) = some u := by
  have hk : k < n := by rw [← h.1]; exact (List.getElem?_eq_some_iff.1 hx).1
  obtain ⟨ad, e, ho, hb, hc⟩ := h.2 (by omega)
  obtain ⟨cs, hK, hcell⟩ := hc k _ hx
  exact ⟨ad, cs, e, hk, ho, hb, hK, hcell⟩
/-- 's[k:]': the address as the model has it. -/
theorem Rd.drop (h : Rd d w ok A n xs) {k c : Nat} (hk : k ≤ n) (hc : n ≤ c) : Rd d w ok (if c = k then A else A.map (·.add (k * d.sz))) (n - k) (xs.drop k) := by
  refine ⟨by rw [List.length_drop, h.1], fun hn => ?_⟩
  obtain ⟨ad, rfl, ho, hb, hcell⟩ := h.2 (by omega)
  rw [if_neg (by omega)]
  refine ⟨ad.add (k * d.sz), rfl, by rw [add_block]; exact ho, by rw [add_block]; exact hb, fun i x hx => ?_⟩
  rw [List.getElem?_drop] at hx
  obtain ⟨cs, hK, hcc⟩ := hcell (k + i) x hx
  refine ⟨cs, hK, fun j u hu => ?_⟩
  rw [add_add, ← hcc j u hu]
  congr 2
  rw [Nat.add_mul, Nat.add_assoc]
theorem Rd.take (h : Rd d w ok A n xs) {k : Nat} (hk : k ≤ n) : Rd d w ok A k (xs.take k) := by
  refine ⟨by rw [List.length_take, h.1]; omega, fun hn => ?_⟩
  obtain ⟨ad, rfl, ho, hb, hcell⟩ := h.2 (by omega)
  refine ⟨ad, rfl, ho, hb, fun i x hx => hcell i x ?_⟩
  rw [List.getElem?_take] at hx
  split at hx
  · exact hx
  · cases hx
theorem Rd.tt (h : Rd d w ok A n xs) : Rd d w T A n xs := h.mono fun _ _ => trivial
/-- What lay at w is none of the blocks that came since. -/
theorem Rd.old (h : Rd d w ok A n xs) (hb : Below w.heap.size w w1) : Rd d w1 (fun k => ok k ∧ k < w.heap.size) A n xs := h.bound.below hb
end

/-- What a callee's result leads to: what came in, or new blocks. -/
abbrev New (ok : Nat → Prop) (w : World) : Nat → Prop := fun k => ok k ∨ w.heap.size ≤ k
section
variable {α : Type} {d : Ty α} {w w1 : World} {ok ok' : Nat → Prop} {A : Option Addr} {n : Nat} {xs : List α}
/-- A store into a block that the row doesn't lead to. -/
theorem Rd.set (h : Rd d w ok A n xs) {g j : Nat} (hg : ∀ k, ok k → k ≠ g) (u : Value) : Rd d (w.setCell ⟨g, j, none⟩ u) ok A n xs :=
  h.step (fun k hk _ => Below.heap_setCell w ⟨g, j, none⟩ u k (hg k hk)) (by simp)
theorem Rd.alloc (h : Rd d w ok A n xs) (o : Obj) : Rd d (w.alloc o) ok A n xs := h.below ((Below.refl _ _).alloc (Nat.le_refl _) _)
theorem Rd.drew (h : Rd d w ok A n xs) : Rd d w.drew ok A n xs := h.step (fun _ _ _ => rfl) (Nat.le_refl _)
theorem Rd.drewN (h : Rd d w ok A n xs) (m : Nat) : Rd d (w.drewN m) ok A n xs := h.step (fun _ _ _ => rfl) (Nat.le_refl _)
end
theorem below_set {w W : World} {g j : Nat} {v : Value} (h : Below w.heap.size w W) (hg : w.heap.size ≤ g) : Below w.heap.size w (W.setCell ⟨g, j, none⟩ v) := h.setCell hg _
theorem below_alloc {w W : World} (h : Below w.heap.size w W) (o : Obj) : Below w.heap.size w (W.alloc o) := h.alloc h.size o
theorem below_drew {w W : World} (h : Below w.heap.size w W) : Below w.heap.size w W.drew := ⟨h.os, h.tape, h.output, h.size, h.block⟩
theorem below_drewN {w W : World} (h : Below w.heap.size w W) (n : Nat) : Below w.heap.size w (W.drewN n) := ⟨h.os, h.tape, h.output, h.size, h.block⟩
theorem below_step {w W w2 : World} (h : Below w.heap.size w W) (k : Below W.heap.size W w2) : Below w.heap.size w w2 :=
  h.trans ⟨k.os, k.tape, k.output, k.size, fun i hi => k.block i (Nat.lt_of_lt_of_le hi h.size)⟩

/-! ### A world of which a block is known: block g holds just cs -/
def Row (w : World) (g : Nat) (cs : Array Value) (t : TypeId) : World := { w with heap := w.heap.setIfInBounds g (.cells cs t (0, 0)) }
section
variable (w : World) (g : Nat) (cs : Array Value) (t : TypeId)
theorem row_size : (Row w g cs t).heap.size = w.heap.size := by simp [Row]
theorem row_heap (h : g < w.heap.size) : (Row w g cs t).heap[g]? = some (.cells cs t (0, 0)) := by simp [Row, h]
theorem row_heap_other (k : Nat) (h : k ≠ g) : (Row w g cs t).heap[k]? = w.heap[k]? := by
  simp only [Row]
  rw [Array.getElem?_setIfInBounds_ne (Ne.symm h)]
theorem row_cell (h : g < w.heap.size) (j : Nat) : (Row w g cs t).cell? ⟨g, j, none⟩ = cs[j]? := by simp [World.cell?, row_heap w g cs t h]
theorem row_cell_other (a : Addr) (h : a.block ≠ g) : (Row w g cs t).cell? a = w.cell? a := by simp [World.cell?, row_heap_other w g cs t _ h]
theorem row_frozen (h : g < w.heap.size) (j : Nat) : (Row w g cs t).frozen? ⟨g, j, none⟩ = false := by simp [World.frozen?, row_heap w g cs t h]
theorem row_frozen_other (a : Addr) (h : a.block ≠ g) : (Row w g cs t).frozen? a = w.frozen? a := by simp [World.frozen?, row_heap_other w g cs t _ h]
theorem row_set (j : Nat) (v : Value) : (Row w g cs t).setCell ⟨g, j, none⟩ v = Row w g (cs.setIfInBounds j v) t := by
  simp only [Row, World.setCell]
  congr 1
  apply Array.ext_getElem?
  intro i
  rw [Array.getElem?_modify]
  by_cases hi : g = i
  · subst hi
    by_cases hg : g < w.heap.size
    · simp [hg]
    · have h1 : w.heap.size ≤ g := by omega
      rw [if_pos rfl, Array.getElem?_eq_none (by simpa using h1), Array.getElem?_eq_none (by simpa using h1)]
      rfl
  · rw [if_neg hi, Array.getElem?_setIfInBounds_ne hi, Array.getElem?_setIfInBounds_ne hi]
theorem row_set_other (a : Addr) (v : Value) (h : a.block ≠ g) : (Row w g cs t).setCell a v = Row (w.setCell a v) g cs t := by
  simp only [Row, World.setCell]
  congr 1
  apply Array.ext_getElem?
  intro i
  rw [Array.getElem?_modify]
  by_cases hi : a.block = i
  · subst hi
    rw [if_pos rfl, Array.getElem?_setIfInBounds_ne (Ne.symm h), Array.getElem?_setIfInBounds_ne (Ne.symm h), Array.getElem?_modify, if_pos rfl]
  · rw [if_neg hi]
    by_cases hg : g = i
    · subst hg
      by_cases hlt : g < w.heap.size
      · simp [hlt]
      · have h1 : w.heap.size ≤ g := by omega
        rw [Array.getElem?_eq_none (by simpa using h1), Array.getElem?_eq_none (by simpa using h1)]
    · rw [Array.getElem?_setIfInBounds_ne hg, Array.getElem?_setIfInBounds_ne hg, Array.getElem?_modify, if_neg hi]
theorem row_row (cs' : Array Value) : Row (Row w g cs t) g cs' t = Row w g cs' t := by
  simp only [Row]
  congr 1
  exact Array.setIfInBounds_setIfInBounds _
theorem row_drew : (Row w g cs t).drew = Row w.drew g cs t := rfl
theorem row_drewN (n : Nat) : (Row w g cs t).drewN n = Row (w.drewN n) g cs t := rfl
variable {w g cs t}
theorem row_self (h : w.heap[g]? = some (.cells cs t (0, 0))) : w = Row w g cs t := by
  have : w.heap = w.heap.setIfInBounds g (.cells cs t (0, 0)) := by
    apply Array.ext_getElem?
    intro i
    by_cases hi : g = i
    · subst hi
      have hlt := (Array.getElem?_eq_some_iff.1 h).1
      rw [h, Array.getElem?_setIfInBounds_self_of_lt hlt]
    · rw [Array.getElem?_setIfInBounds_ne hi]
  unfold Row
  rw [← this]
theorem row_self2 {g1 : Nat} {cs1 : Array Value} {t1 : TypeId} (h : w.heap[g]? = some (.cells cs t (0, 0))) (h1 : w.heap[g1]? = some (.cells cs1 t1 (0, 0))) : w = Row (Row w g cs t) g1 cs1 t1 := by
  rw [← row_self h]; exact row_self h1
theorem row_self3 {g1 g2 : Nat} {cs1 cs2 : Array Value} {t1 t2 : TypeId} (h : w.heap[g]? = some (.cells cs t (0, 0))) (h1 : w.heap[g1]? = some (.cells cs1 t1 (0, 0))) (h2 : w.heap[g2]? = some (.cells cs2 t2 (0, 0))) : w = Row (Row (Row w g cs t) g1 cs1 t1) g2 cs2 t2 := by
  rw [← row_self h, ← row_self h1]; exact row_self h2
theorem row_self4 {g1 g2 g3 : Nat} {cs1 cs2 cs3 : Array Value} {t1 t2 t3 : TypeId} (h : w.heap[g]? = some (.cells cs t (0, 0))) (h1 : w.heap[g1]? = some (.cells cs1 t1 (0, 0))) (h2 : w.heap[g2]? = some (.cells cs2 t2 (0, 0))) (h3 : w.heap[g3]? = some (.cells cs3 t3 (0, 0))) : w = Row (Row (Row (Row w g cs t) g1 cs1 t1) g2 cs2 t2) g3 cs3 t3 := by
  rw [← row_self h, ← row_self h1, ← row_self h2]; exact row_self h3
theorem row_self5 {g1 g2 g3 g4 : Nat} {cs1 cs2 cs3 cs4 : Array Value} {t1 t2 t3 t4 : TypeId} (h : w.heap[g]? = some (.cells cs t (0, 0))) (h1 : w.heap[g1]? = some (.cells cs1 t1 (0, 0))) (h2 : w.heap[g2]? = some (.cells cs2 t2 (0, 0))) (h3 : w.heap[g3]? = some (.cells cs3 t3 (0, 0))) (h4 : w.heap[g4]? = some (.cells cs4 t4 (0, 0))) : w = Row (Row (Row (Row (Row w g cs t) g1 cs1 t1) g2 cs2 t2) g3 cs3 t3) g4 cs4 t4 := by
  rw [← row_self h, ← row_self h1, ← row_self h2, ← row_self h3]; exact row_self h4
theorem row_step (k : Nat) (h : k ≠ g) : (Row w g cs t).heap[k]? = w.heap[k]? := row_heap_other w g cs t k h
theorem below_row {B : Nat} {w0 : World} (h : Below B w0 w) (hg : B ≤ g) : Below B w0 (Row w g cs t) :=
  ⟨h.os, h.tape, h.output, by rw [row_size]; exact h.size, fun i hi => (row_heap_other w g cs t i (by omega)).trans (h.block i hi)⟩
theorem Rd.row {α : Type} {d : Ty α} {ok : Nat → Prop} {A : Option Addr} {n : Nat} {xs : List α} (h : Rd d w ok A n xs) (hg : ∀ k, ok k → k ≠ g) : Rd d (Row w g cs t) ok A n xs :=
  h.step (fun k hk _ => row_heap_other w g cs t k (hg k hk)) (by rw [row_size]; exact Nat.le_refl _)
end
theorem heap_alloc_at (w : World) (o : Obj) (n : Nat) (h : n = w.heap.size) : (w.alloc o).heap[n]? = some o := by rw [h]; exact heap_alloc_new w o
theorem heap_alloc_lt (w : World) (o : Obj) (n : Nat) (h : n < w.heap.size) : (w.alloc o).heap[n]? = w.heap[n]? := Below.heap_alloc w o n h
theorem heap_setCell_ne (w : World) (a : Addr) (v : Value) (n : Nat) (h : n ≠ a.block) : (w.setCell a v).heap[n]? = w.heap[n]? := Below.heap_setCell w a v n h
theorem heap_drew_at (w : World) (n : Nat) : w.drew.heap[n]? = w.heap[n]? := rfl
theorem heap_drewN_at (w : World) (m n : Nat) : (w.drewN m).heap[n]? = w.heap[n]? := rfl

/-! ### Kinds -/
/-- Cells that hold no rows. -/
def Ty.flat {α : Type} (sz : Nat) (pos : 0 < sz) (enc : α → List Value) (hl : ∀ x, (enc x).length = sz) (h1 : ∀ x, ∀ u ∈ enc x, u.oneCell' = true) : Ty α where
  sz := sz
  pos := pos
  K := fun _ _ x cs => cs = enc x
  len := fun h => by rw [h]; exact hl _
  one := fun h u hu => by rw [h] at hu; exact h1 _ u hu
  step := fun _ h => h
  mono := fun _ h => h
  bound := fun h => h
/-- Cells of which one holds a row. -/
def Ty.mid {α β : Type} (d : Ty β) (a b : Nat) (pre post : α → List Value) (get : α → List β) (hpre : ∀ x, (pre x).length = a) (hpost : ∀ x, (post x).length = b) (h1 : ∀ x, ∀ u ∈ pre x, u.oneCell' = true) (h2 : ∀ x, ∀ u ∈ post x, u.oneCell' = true) : Ty α where
  sz := a + 1 + b
  pos := by omega
  K := fun w ok x cs => ∃ A c, cs = pre x ++ (.slice A (get x).length c :: post x) ∧ (get x).length ≤ c ∧ Rd d w ok A (get x).length (get x)
  len := by rintro w ok x cs ⟨A, c, rfl, _⟩; simp [hpre, hpost]; omega
  one := by
    rintro w ok x cs ⟨A, c, rfl, _⟩ u hu
    rcases List.mem_append.1 hu with hu | hu
    · exact h1 x u hu
    · rcases List.mem_cons.1 hu with rfl | hu
      · rfl
      · exact h2 x u hu
  step := by
    rintro w w1 ok x cs hm ⟨A, c, rfl, hl, hr⟩
    refine ⟨A, c, rfl, hl, ⟨hr.1, fun hn => ?_⟩⟩
    obtain ⟨ad, e, ho, hb, hc⟩ := hr.2 hn
    have hb1 : ad.block < w1.heap.size := by
      have h := hm _ ho hb
      rw [Array.getElem?_eq_getElem hb] at h
      exact (Array.getElem?_eq_some_iff.1 h).1
    refine ⟨ad, e, ho, hb1, fun i x hx => ?_⟩
    obtain ⟨cs, hK, hcell⟩ := hc i x hx
    refine ⟨cs, d.step hm hK, fun j u hu => ?_⟩
    exact (cell_step (by rw [add_block]; exact hm _ ho hb)).trans (hcell j u hu)
  mono := by rintro w ok ok' x cs hm ⟨A, c, rfl, hl, hr⟩; exact ⟨A, c, rfl, hl, hr.mono hm⟩
  bound := by rintro w ok x cs ⟨A, c, rfl, hl, hr⟩; exact ⟨A, c, rfl, hl, hr.bound⟩

/-! ### A row of the call's own -/
def Own {α : Type} (d : Ty α) (e : TypeId) (w : World) (base : Nat) (ok : Nat → Prop) (v : Value) (xs : List α) : Prop :=
  ∃ inner, w.ownsRow base e d.sz v xs.length inner ∧ (∀ k, v.ownBlock = some k → ok k) ∧ ∀ i x, xs[i]? = some x → d.K w (fun k => ok k ∧ some k ≠ v.ownBlock) x ((inner.drop (i * d.sz)).take d.sz)

theorem own_lt {w : World} {base : Nat} {e : TypeId} {size n : Nat} {v : Value} {xs : List Value} (h : w.ownsRow base e size v n xs) (k : Nat) (hk : v.ownBlock = some k) : k < w.heap.size := by
  rcases h.2 with ⟨rfl, _⟩ | ⟨g, cap, cur, rfl, hb, hh, _⟩
  · simp [Value.ownBlock] at hk
  · have : g = k := by simpa [Value.ownBlock] using hk
    subst this
    exact (Array.getElem?_eq_some_iff.1 hh).1
theorem own_base {w : World} {base : Nat} {e : TypeId} {size n : Nat} {v : Value} {xs : List Value} (h : w.ownsRow base e size v n xs) (k : Nat) (hk : v.ownBlock = some k) : base ≤ k := by
  rcases h.2 with ⟨rfl, _⟩ | ⟨g, cap, cur, rfl, hb, _⟩
  · simp [Value.ownBlock] at hk
  · have : g = k := by simpa [Value.ownBlock] using hk
    omega
theorem own_move {w w1 : World} {base : Nat} {e : TypeId} {size n : Nat} {v : Value} {xs : List Value} (h : w.ownsRow base e size v n xs) (hm : ∀ k, v.ownBlock = some k → w1.heap[k]? = w.heap[k]?) : w1.ownsRow base e size v n xs := by
  obtain ⟨h1, h2⟩ := h
  refine ⟨h1, ?_⟩
  rcases h2 with h2 | ⟨g, cap, cur, rfl, hg, hh, r⟩
  · exact .inl h2
  · exact .inr ⟨g, cap, cur, rfl, hg, (hm g (by simp [Value.ownBlock])).trans hh, r⟩

section
variable {α : Type} {d : Ty α} {e : TypeId} {w w1 : World} {base : Nat} {ok ok' : Nat → Prop} {v : Value} {xs : List α}
theorem Own.nil_ (d : Ty α) (e : TypeId) (w : World) (base : Nat) (ok : Nat → Prop) : Own d e w base ok (.slice none 0 0) [] :=
  ⟨[], World.ownsRow_nil _ _ _ _, fun k hk => by simp [Value.ownBlock] at hk, fun i x h => by simp at h⟩
theorem Own.lt (h : Own d e w base ok v xs) (k : Nat) (hk : v.ownBlock = some k) : k < w.heap.size := by
  obtain ⟨_, ho, _⟩ := h
  exact own_lt ho k hk
theorem Own.base_ (h : Own d e w base ok v xs) (k : Nat) (hk : v.ownBlock = some k) : base ≤ k := by
  obtain ⟨_, ho, _⟩ := h
  exact own_base ho k hk
theorem Own.mono (h : Own d e w base ok v xs) (hm : ∀ k, ok k → ok' k) : Own d e w base ok' v xs := by
  obtain ⟨inner, ho, h0, hK⟩ := h
  exact ⟨inner, ho, fun k hk => hm k (h0 k hk), fun i x hx => d.mono (fun k hk => ⟨hm k hk.1, hk.2⟩) (hK i x hx)⟩
theorem Own.bound (h : Own d e w base ok v xs) : Own d e w base (fun k => ok k ∧ k < w.heap.size) v xs := by
  obtain ⟨inner, ho, h0, hK⟩ := h
  exact ⟨inner, ho, fun k hk => ⟨h0 k hk, own_lt ho k hk⟩, fun i x hx => d.mono (fun k hk => ⟨⟨hk.1.1, hk.2⟩, hk.1.2⟩) (d.bound (hK i x hx))⟩
theorem Own.step (h : Own d e w base ok v xs) (hm : ∀ k, ok k → k < w.heap.size → w1.heap[k]? = w.heap[k]?) : Own d e w1 base ok v xs := by
  obtain ⟨inner, ho, h0, hK⟩ := h
  exact ⟨inner, own_move ho (fun k hk => hm k (h0 k hk) (own_lt ho k hk)), h0, fun i x hx => d.step (fun k hk hlt => hm k hk.1 hlt) (hK i x hx)⟩
theorem Own.below (h : Own d e w base ok v xs) (hb : Below w.heap.size w w1) : Own d e w1 base ok v xs := h.step fun k _ hk => hb.block k hk
theorem Own.lower {base' : Nat} (h : Own d e w base ok v xs) (hb : base' ≤ base) : Own d e w base' ok v xs := by
  obtain ⟨inner, ho, h0, hK⟩ := h
  refine ⟨inner, ⟨ho.1, ?_⟩, h0, hK⟩
  rcases ho.2 with h2 | ⟨g, cap, cur, rfl, hg, r⟩
  · exact .inl h2
  · exact .inr ⟨g, cap, cur, rfl, by omega, r⟩
/-- Its shape, and that it is read. -/
theorem Own.reads (h : Own d e w base ok v xs) : ∃ A c, v = .slice A xs.length c ∧ xs.length ≤ c ∧ c ≤ maxLen ∧ Rd d w ok A xs.length xs := by
  obtain ⟨inner, ho, h0, hK⟩ := h
  rcases ho.2 with ⟨rfl, h1⟩ | ⟨g, cap, cur, rfl, hg, hh, hn, hc, _⟩
  · have hx : xs = [] := List.eq_nil_of_length_eq_zero h1
    subst hx
    exact ⟨none, 0, rfl, Nat.le_refl _, by decide, Rd.none_ _ _ _⟩
  · refine ⟨_, cap, rfl, hn, hc, rfl, fun _ => ⟨_, rfl, h0 g (by simp [Value.ownBlock]), (Array.getElem?_eq_some_iff.1 hh).1, fun i x hx => ?_⟩⟩
    refine ⟨_, d.mono (fun k hk => hk.1) (hK i x hx), fun j u hu => ?_⟩
    have hj : j < d.sz := by
      rcases Nat.lt_or_ge j d.sz with h | h
      · exact h
      · rw [List.getElem?_take, if_neg (by omega)] at hu; cases hu
    rw [List.getElem?_take, if_pos hj, List.getElem?_drop] at hu
    exact ho.cells (g := g) (by simp [Value.ownBlock]) _ u hu
theorem Own.form (h : Own d e w base ok v xs) (hp : 0 < xs.length) : ∃ g c, v = .slice (some ⟨g, 0, none⟩) xs.length c ∧ base ≤ g ∧ g < w.heap.size ∧ ok g ∧ xs.length ≤ c ∧ c ≤ maxLen := by
  obtain ⟨inner, ho, h0, hK⟩ := h
  rcases ho.2 with ⟨rfl, h1⟩ | ⟨g, cap, cur, rfl, hg, hh, hn, hc, _⟩
  · omega
  · exact ⟨g, cap, rfl, hg, (Array.getElem?_eq_some_iff.1 hh).1, h0 g (by simp [Value.ownBlock]), hn, hc⟩
end

theorem below_then {B : Nat} {w w1 w2 : World} (h : Below B w w1) (hB : B ≤ w1.heap.size) (k : Below w1.heap.size w1 w2) : Below B w w2 :=
  h.trans ⟨k.os, k.tape, k.output, k.size, fun i hi => k.block i (Nat.lt_of_lt_of_le hi hB)⟩

/-- What lay reads as it did: two rules for the walk. -/
theorem bcell {W w1 : World} (hb : Below W.heap.size W w1) : (∀ b o, b < W.heap.size → w1.cell? ⟨b, o, none⟩ = W.cell? ⟨b, o, none⟩) ∧ (∀ b o, b < W.heap.size → w1.frozen? ⟨b, o, none⟩ = W.frozen? ⟨b, o, none⟩) :=
  ⟨fun b o h => hb.cell (p := ⟨b, o, none⟩) h, fun b o h => hb.frozen (p := ⟨b, o, none⟩) h⟩
theorem bcellB {B : Nat} {W w1 : World} (hb : Below B W w1) : (∀ b o, b < B → w1.cell? ⟨b, o, none⟩ = W.cell? ⟨b, o, none⟩) ∧ (∀ b o, b < B → w1.frozen? ⟨b, o, none⟩ = W.frozen? ⟨b, o, none⟩) :=
  ⟨fun b o h => hb.cell (p := ⟨b, o, none⟩) h, fun b o h => hb.frozen (p := ⟨b, o, none⟩) h⟩
theorem Own.empty_at {α : Type} (d : Ty α) (e : TypeId) (w : World) (g base : Nat) (ok : Nat → Prop) (hg : g = w.heap.size) (hb : base ≤ g) (hok : ∀ k, g ≤ k → ok k) : Own d e (w.alloc (.cells #[] e)) base ok (.slice (some ⟨g, 0, none⟩) 0 0) [] := by
  subst hg
  exact ⟨[], by simpa using World.ownsRow_made (e := e) (size := d.sz) w #[] 0 hb (Nat.zero_le _) (by simp), fun k hk => hok k (by simp [Value.ownBlock] at hk; omega), fun i x h => by simp at h⟩
/-- What an append leaves. -/
theorem Own.appended {α : Type} {d : Ty α} {e base : Nat} {ok okp : Nat → Prop} {W w1 : World} {v v1 : Value} {xs ys : List α} {news inner : List Value}
    (ho : W.ownsRow base e d.sz v xs.length inner) (h0 : ∀ k, v.ownBlock = some k → ok k) (hK : ∀ i x, xs[i]? = some x → d.K W (fun k => ok k ∧ some k ≠ v.ownBlock) x ((inner.drop (i * d.sz)).take d.sz))
    (hn : ∀ i y, ys[i]? = some y → d.K W okp y ((news.drop (i * d.sz)).take d.sz)) (hokp : ∀ k, okp k → ok k ∧ some k ≠ v.ownBlock) (hfresh : ∀ k, W.heap.size ≤ k → ok k)
    (hown : w1.ownsRow base e d.sz v1 (xs.length + ys.length) (inner ++ news)) (hg : W.grownBy w1 v.ownBlock) (hat : v1.ownBlock = v.ownBlock ∨ v1.ownBlock = some W.heap.size) : Own d e w1 base ok v1 (xs ++ ys) := by
  have hne : ∀ k, some k ≠ v.ownBlock → k < W.heap.size → some k ≠ v1.ownBlock := by
    intro k hk hlt
    rcases hat with hat | hat
    · rw [hat]; exact hk
    · rw [hat]
      intro he
      injection he with he
      omega
  have hstep : ∀ {x : α} {c : List Value} {o : Nat → Prop}, d.K W o x c → (∀ k, o k → ok k ∧ some k ≠ v.ownBlock) → d.K w1 (fun k => ok k ∧ some k ≠ v1.ownBlock) x c := by
    intro x c o hx ho
    exact d.mono (fun k hk => ⟨(ho k hk.1).1, hne k (ho k hk.1).2 hk.2⟩) (d.step (w1 := w1) (fun k hk hlt => hg.block k hlt (ho k hk.1).2) (d.bound hx))
  have hlen := ho.1
  refine ⟨inner ++ news, by rw [List.length_append]; exact hown, fun k hk => ?_, fun i x hx => ?_⟩
  · rcases hat with hat | hat
    · exact h0 k (hat ▸ hk)
    · rw [hat] at hk
      injection hk with hk
      exact hfresh k (by omega)
  · rcases Nat.lt_or_ge i xs.length with hi | hi
    · rw [List.getElem?_append_left hi] at hx
      have hle : i * d.sz + d.sz ≤ inner.length := by rw [hlen, ← Nat.succ_mul]; exact Nat.mul_le_mul_right _ hi
      rw [List.drop_append_of_le_length (by omega), List.take_append_of_le_length (by rw [List.length_drop]; omega)]
      exact hstep (hK i x hx) fun _ hk => hk
    · rw [List.getElem?_append_right hi] at hx
      have hd : (inner ++ news).drop (i * d.sz) = news.drop ((i - xs.length) * d.sz) := by
        rw [List.drop_append, List.drop_of_length_le (by rw [hlen]; exact Nat.mul_le_mul_right _ hi), List.nil_append, hlen, Nat.sub_mul]
      rw [hd]
      exact hstep (hn _ x hx) hokp

section
variable {P : Program} {ops : Array Oper} {rest : List Oper} {o : Oper} {a : Act} {Q : Exit → Act → World → Prop} {α : Type}
theorem run_append_rd (d : Ty α) {W : World} (base : Nat) (t ty e : TypeId) (z : Value) (bytes : Nat) (ht : P.underlying t = some (.slice e)) (hinfo : (P.info? e).map (fun i => (i.zero, i.size, i.bytes)) = some (some z, d.sz, bytes)) (hz : z.cells.size = d.sz) (hb0 : 0 < bytes)
    (v : Value) (xs ys : List α) (A : Option Addr) (m c : Nat) (ok okp : Nat → Prop) (HO : Own d e W base ok v xs) (HR : Rd d W okp A m ys) (hokp : ∀ k, okp k → ok k ∧ some k ≠ v.ownBlock) (hfresh : ∀ k, W.heap.size ≤ k → ok k)
    (hbase : base ≤ W.heap.size) (hl : (xs.length + m) * bytes ≤ 140737488355328) :
    ∃ v1 w1, (Builtin.append_ #[t, t] ty #[v, .slice A m c]).run P W = .ok v1 w1 ∧ Own d e w1 base ok v1 (xs ++ ys) ∧ W.grownBy w1 v.ownBlock ∧ (v1.ownBlock = v.ownBlock ∨ v1.ownBlock = some W.heap.size) := by
  obtain ⟨i0, hi, hzz⟩ := Option.map_eq_some_iff.1 hinfo
  simp only [Prod.mk.injEq] at hzz
  obtain ⟨hz0, hz1, hz2⟩ := hzz
  have hlen : xs.length + m ≤ 140737488355328 := Nat.le_trans (Nat.le_mul_of_pos_right _ hb0) hl
  obtain ⟨inner, ho, h0, hK⟩ := HO
  rcases A with _ | ad
  · have hm0 : m = 0 := by
      rcases Nat.eq_zero_or_pos m with h | h
      · exact h
      · obtain ⟨ad, h, _⟩ := HR.2 h; cases h
    subst hm0
    obtain rfl : ys = [] := List.eq_nil_of_length_eq_zero HR.1
    refine ⟨v, W, ?_, by simpa using ⟨inner, ho, h0, hK⟩, World.grownBy.refl W _, .inl rfl⟩
    rcases ho.2 with ⟨rfl, hn⟩ | ⟨g, cap, cur, rfl, _, _, hnc, _⟩
    · simp [Builtin.append_, run_underlying ht, sizeOf, typeInfo, hi, Builtin.lenOf, Builtin.firstCells]
    · simp [Builtin.append_, run_underlying ht, sizeOf, typeInfo, hi, Builtin.lenOf, Builtin.firstCells, hnc, storeCells]
  · -- the cells of what is appended, one behind the other
    have hcs : ∃ news : List Value, news.length = m * d.sz ∧ (∀ j u, news[j]? = some u → W.cell? (ad.add j) = some u) ∧ (∀ u ∈ news, u.oneCell' = true) ∧ ∀ i y, ys[i]? = some y → d.K W okp y ((news.drop (i * d.sz)).take d.sz) := by
      obtain ⟨hlen2, hrd⟩ := HR
      clear hl hlen
      have key : ∀ k, k ≤ m → ∃ news : List Value, news.length = k * d.sz ∧ (∀ j u, news[j]? = some u → W.cell? (ad.add j) = some u) ∧ (∀ u ∈ news, u.oneCell' = true) ∧ ∀ i y, i < k → ys[i]? = some y → d.K W okp y ((news.drop (i * d.sz)).take d.sz) := by
        intro k
        induction k with
        | zero => exact fun _ => ⟨[], by simp, fun j u h => by simp at h, fun u h => by simp at h, fun i y h => by omega⟩
        | succ k ih =>
          intro hk
          obtain ⟨news, h1, h2, h3, h4⟩ := ih (by omega)
          obtain ⟨ad', he, _, _, hc⟩ := hrd (by omega)
          injection he with he
          subst he
          obtain ⟨cs, hKc, hcc⟩ := hc k _ (List.getElem?_eq_getElem (by omega))
          have hcl := d.len hKc
          refine ⟨news ++ cs, by rw [List.length_append, h1, hcl, Nat.add_mul, Nat.one_mul], fun j u hu => ?_, fun u hu => ?_, fun i y hi hy => ?_⟩
          · rcases Nat.lt_or_ge j news.length with hj | hj
            · rw [List.getElem?_append_left hj] at hu; exact h2 j u hu
            · rw [List.getElem?_append_right hj, h1] at hu
              have := hcc _ u hu
              rw [← this]
              congr 2
              omega
          · rcases List.mem_append.1 hu with hu | hu
            · exact h3 u hu
            · exact d.one hKc u hu
          · rcases Nat.lt_or_ge i k with hik | hik
            · have hle : i * d.sz + d.sz ≤ news.length := by rw [h1, ← Nat.succ_mul]; exact Nat.mul_le_mul_right _ hik
              rw [List.drop_append_of_le_length (by omega), List.take_append_of_le_length (by rw [List.length_drop]; omega)]
              exact h4 i y hik hy
            · have hik' : i = k := by omega
              subst hik'
              rw [List.getElem?_eq_getElem (by omega)] at hy
              injection hy with hy
              subst hy
              rw [← h1, List.drop_left, ← hcl, List.take_length]
              exact hKc
      obtain ⟨news, h1, h2, h3, h4⟩ := key m (Nat.le_refl _)
      exact ⟨news, h1, h2, h3, fun i y hy => h4 i y (by have := (List.getElem?_eq_some_iff.1 hy).1; omega) hy⟩
    obtain ⟨news, h1, h2, h3, h4⟩ := hcs
    obtain ⟨v1, w1, hr, hown1, hg1, _, hat⟩ := run_append_own_at (P := P) W base t ty e i0 z d.sz bytes ht hi hz0 hz1 hz2 hz d.pos v xs.length inner ho ad m c news h1 h2 h3 (by simp only [maxLen]; omega) hl hbase
    refine ⟨v1, w1, hr, Own.appended ho h0 hK h4 hokp hfresh ?_ hg1 hat, hg1, hat⟩
    rw [HR.1]
    exact hown1

/-- append(v, ys...). -/
theorem wp_append (d : Ty α) {w0 W : World} (base : Nat) (hgd : o.guard = none) (s x : Operand) (t e : TypeId) (z : Value) (bytes : Nat)
    (ho : o.op = .call { callee := .builtin .append, args := #[s, x], argTypes := #[t, t] })
    (ht : P.underlying t = some (.slice e)) (hinfo : (P.info? e).map (fun i => (i.zero, i.size, i.bytes)) = some (some z, d.sz, bytes)) (hz : z.cells.size = d.sz) (hb0 : 0 < bytes)
    (v : Value) (xs ys : List α) (A : Option Addr) (m c : Nat) (ok okp : Nat → Prop) (hs : a.eval s = v) (hx : a.eval x = .slice A m c) (HO : Own d e W base ok v xs) (HR : Rd d W okp A m ys) (hokp : ∀ k, okp k → ok k ∧ some k ≠ v.ownBlock) (hfresh : ∀ k, W.heap.size ≤ k → ok k)
    (HB : Below base w0 W) (hbase : base ≤ W.heap.size) (hl : (xs.length + m) * bytes ≤ 140737488355328)
    (h : ∀ v1 w1, Own d e w1 base ok v1 (xs ++ ys) → Below base w0 w1 → W.grownBy w1 v.ownBlock → (v1.ownBlock = v.ownBlock ∨ v1.ownBlock = some W.heap.size) → W.heap.size ≤ w1.heap.size → wpList P ops Q rest (a.put o.dst v1) w1) :
    wpList P ops Q (o :: rest) a W := by
  obtain ⟨v1, w1, hr, hown, hg, hat⟩ := run_append_rd d base t o.type e z bytes ht hinfo hz hb0 v xs ys A m c ok okp HO HR hokp hfresh hbase hl
  refine wpList_plain hgd fun K hK => ?_
  unfold Oper.wp execOp
  simp only [ho, resolve, invoke, builtin, Sem.run_bind, Sem.run_pure, Result.andThen_ok, List.map_toArray, List.map_cons, List.map_nil, hs, hx, hr]
  exact hK _ _ (h v1 w1 hown (HB.grown hg hbase (fun k hk => HO.base_ k hk)) hg hat hg.size)
/-- append(v, x): the goal's world has x's box. -/
theorem wp_append1 (d : Ty α) {w0 W : World} (base : Nat) (hgd : o.guard = none) (s x : Operand) (t e : TypeId) (z : Value) (bytes : Nat)
    (ho : o.op = .call { callee := .builtin .append, args := #[s, x], argTypes := #[t, t] })
    (ht : P.underlying t = some (.slice e)) (hinfo : (P.info? e).map (fun i => (i.zero, i.size, i.bytes)) = some (some z, d.sz, bytes)) (hz : z.cells.size = d.sz) (hb0 : 0 < bytes)
    (v : Value) (xs : List α) (y : α) (cs : List Value) (ok okp : Nat → Prop) (hs : a.eval s = v) (hx : a.eval x = .slice (some ⟨W.heap.size, 0, none⟩) 1 1) (HO : Own d e W base ok v xs) (hK : d.K W okp y cs) (hokp : ∀ k, okp k → ok k ∧ some k ≠ v.ownBlock) (hfresh : ∀ k, W.heap.size ≤ k → ok k)
    (HB : Below base w0 W) (hbase : base ≤ W.heap.size) (hl : (xs.length + 1) * bytes ≤ 140737488355328)
    (h : ∀ v1 w1, Own d e w1 base ok v1 (xs ++ [y]) → Below base w0 w1 → W.grownBy w1 v.ownBlock → (v1.ownBlock = v.ownBlock ∨ ∃ b, v1.ownBlock = some b ∧ W.heap.size ≤ b) → W.heap.size ≤ w1.heap.size → wpList P ops Q rest (a.put o.dst v1) w1) :
    wpList P ops Q (o :: rest) a (W.alloc (.cells cs.toArray e)) := by
  have hB1 : Below W.heap.size W (W.alloc (.cells cs.toArray e)) := (Below.refl _ _).alloc (Nat.le_refl _) _
  have hsz : (W.alloc (.cells cs.toArray e)).heap.size = W.heap.size + 1 := by simp
  have hvb : ∀ k, v.ownBlock = some k → k < W.heap.size := fun k hk => HO.lt k hk
  refine wp_append d (w0 := w0) base hgd s x t e z bytes ho ht hinfo hz hb0 v xs [y] _ 1 1 ok (fun k => (okp k ∧ k < W.heap.size) ∨ k = W.heap.size) hs hx (HO.below hB1) ⟨rfl, fun _ => ⟨_, rfl, .inr rfl, by rw [hsz]; exact Nat.lt_succ_self _, fun i x hx => ?_⟩⟩ ?_ (fun k hk => hfresh k (by omega)) (HB.alloc hbase _) (by omega) hl ?_
  · have hi : i = 0 := by have := (List.getElem?_eq_some_iff.1 hx).1; simp at this; exact this
    subst hi
    simp at hx
    subst hx
    refine ⟨cs, d.mono (fun k hk => .inl hk) (d.step (fun k hk _ => hB1.block k hk.2) (d.bound hK)), fun j u hu => ?_⟩
    rw [Nat.zero_mul]
    have := World.news_of_block (cs := cs.toArray) (t := e) (fr := (0, 0)) (heap_alloc_new W (.cells cs.toArray e)) j u
    simp only [Nat.zero_add] at this ⊢
    exact this (by simpa using hu)
  · rintro k (hk | rfl)
    · exact hokp k hk.1
    · exact ⟨hfresh _ (Nat.le_refl _), fun he => by have := hvb _ he.symm; omega⟩
  · intro v1 w1 h1 h2 h3 h4 h5
    refine h v1 w1 h1 h2 (World.grownBy.trans (World.grownBy_alloc W _ _) h3) ?_ (by omega)
    rcases h4 with h4 | h4
    · exact .inl h4
    · exact .inr ⟨_, h4, by omega⟩
end
theorem Own.empty_ {α : Type} (d : Ty α) (e : TypeId) (w : World) (base : Nat) (ok : Nat → Prop) (hb : base ≤ w.heap.size) (hok : ∀ k, w.heap.size ≤ k → ok k) : Own d e (w.alloc (.cells #[] e)) base ok (.slice (some ⟨w.heap.size, 0, none⟩) 0 0) [] :=
  ⟨[], by simpa using World.ownsRow_made (e := e) (size := d.sz) w #[] 0 hb (Nat.zero_le _) (by simp), fun k hk => hok k (by simp [Value.ownBlock] at hk; omega), fun i x h => by simp at h⟩
/-- make([]T, n): n zero values. -/
theorem Own.made {α : Type} (d : Ty α) (e : TypeId) (w : World) (base : Nat) (ok : Nat → Prop) (z : Array Value) (zx : α) (n : Nat) (hz : z.size = d.sz) (hb : base ≤ w.heap.size) (hok : ∀ k, w.heap.size ≤ k → ok k) (hn : n ≤ maxLen)
    (hK : ∀ W ok', d.K W ok' zx z.toList) : Own d e (w.alloc (.cells (madeCells z (n * d.sz)) e)) base ok (.slice (some ⟨w.heap.size, 0, none⟩) n n) (List.replicate n zx) := by
  refine ⟨(madeCells z (n * d.sz)).toList, ?_, fun k hk => hok k (by simp [Value.ownBlock] at hk; omega), fun i x hx => ?_⟩
  · rw [List.length_replicate]
    exact World.ownsRow_lit (base := base) (e := e) (size := d.sz) w (madeCells z (n * d.sz)) n hb hn (by rw [size_madeCells])
  · have hi : i < n := by have := (List.getElem?_eq_some_iff.1 hx).1; simpa using this
    have hx' : x = zx := by rw [List.getElem?_replicate, if_pos hi] at hx; injection hx with hx; exact hx.symm
    subst hx'
    have hd : ((madeCells z (n * d.sz)).toList.drop (i * d.sz)).take d.sz = z.toList := by
      have hle : i * d.sz + d.sz ≤ n * d.sz := by rw [← Nat.succ_mul]; exact Nat.mul_le_mul_right _ hi
      apply List.ext_getElem?
      intro j
      rw [List.getElem?_take]
      have hp := d.pos
      split
      · rename_i hj
        rw [List.getElem?_drop]
        simp only [madeCells, Array.toList_map, Array.toList_range, List.getElem?_map]
        rw [List.getElem?_range (by omega)]
        have hm : (i * d.sz + j) % z.size = j := by rw [hz, Nat.add_comm, Nat.add_mul_mod_self_right, Nat.mod_eq_of_lt hj]
        simp only [Option.map_some, hm]
        rw [getElem!_pos z j (by omega), Array.getElem?_toList]
        simp [hz, hj]
      · rw [List.getElem?_eq_none (by simp; omega)]
    rw [hd]
    exact hK _ _
theorem Rd.made {α : Type} (d : Ty α) (e : TypeId) (w : World) (z : Array Value) (zx : α) (n : Nat) (hz : z.size = d.sz) (hn : n ≤ maxLen) (hK : ∀ W ok', d.K W ok' zx z.toList) (g : Nat) (hg : g = w.heap.size) :
    Rd d (w.alloc (.cells (madeCells z (n * d.sz)) e)) (fun k => g ≤ k) (some ⟨g, 0, none⟩) n (List.replicate n zx) := by
  subst hg
  obtain ⟨A, c, he, _, _, hr⟩ := (Own.made d e w w.heap.size (fun k => w.heap.size ≤ k) z zx n hz (Nat.le_refl _) (fun _ h => h) hn hK).reads
  injection he with h1 h2 h3
  rw [List.length_replicate, ← h1] at hr
  exact hr
end Go.Proofs.Ytdbljhjgmfdpjaa
