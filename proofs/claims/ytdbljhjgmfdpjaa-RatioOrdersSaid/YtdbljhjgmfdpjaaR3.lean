/-
  ratio.Mean.
-/
import Derived.Test.YtdbljhjgmfdpjaaR2
set_option linter.unusedVariables false
set_option linter.unusedSimpArgs false
namespace Go.Proofs.Ytdbljhjgmfdpjaa
open Go.RowKit

def clampN (n : Int) : Nat := (clampI n 0 1125899906842624).toNat
theorem clampN_le (n : Int) : clampN n ≤ 1125899906842624 := by unfold clampN clampI; repeat' split
                                                                all_goals omega
theorem clampN_eq (n : Int) : clampI n 0 1125899906842624 = (clampN n : Int) := by
  have : 0 ≤ clampI n 0 1125899906842624 := by
    unfold clampI; repeat' split
    all_goals omega
  unfold clampN; omega
def sumC (xs : List Int) : Nat := (xs.map clampN).sum
theorem sumC_le (xs : List Int) : sumC xs ≤ 1125899906842624 * xs.length := by
  induction xs with
  | nil => simp [sumC]
  | cons x xs ih => have := clampN_le x; simp only [sumC, List.map_cons, List.sum_cons, List.length_cons] at *; omega
theorem sumC_take (xs : List Int) (k : Nat) (hk : k < xs.length) : sumC (xs.take (k + 1)) = sumC (xs.take k) + clampN (xs.getD k 0) := by
  rw [sumC, sumC, List.take_add_one, List.map_append, List.sum_append, List.getElem?_eq_getElem hk, List.getD_eq_getElem?_getD, List.getElem?_eq_getElem hk]
  simp only [Option.toList, List.map_cons, List.map_nil, List.sum_cons, List.sum_nil, Nat.add_zero, Option.getD_some]
def meanI (xs : List Int) : Int := (sumC xs / xs.length : Nat)

theorem add174 (x y : Nat) (h : x + y < 18446744073709551616) (w : World) :
    (callFunc 174 #[.int .u64 (x : Int), .int .u64 (y : Int), .int .u64 0]).run Try.prog w = .ok (.value (.tuple #[.int .u64 ((x + y : Nat) : Int), .int .u64 0])) w := by
  rw [run_callFunc_extern (f := 174) Try.func174 (by kernel_rfl) (by kernel_rfl) (by kernel_rfl) (e := add64Entry) (by kernel_rfl)]
  have := run_add64 (P := Try.prog) x y 0 (by omega) (by omega) (by omega) (by omega) w
  rw [this]
  have e1 : ((x : Int) + y + 0) % 18446744073709551616 = ((x + y : Nat) : Int) := by omega
  have e2 : ((x : Int) + y + 0) / 18446744073709551616 = 0 := by omega
  rw [e1, e2]
  rfl

theorem mean113 (b off n c : Nat) (xs : List Int) (w : World) (hn : xs.length = n) (h0 : 0 < n) (h1 : n ≤ 8000) (hc : ∀ k, k < n → w.cell? ⟨b, off + k, none⟩ = some (.int .i64 (xs.getD k 0))) :
    Calls Try.prog 113 #[.slice (some ⟨b, off, none⟩) n c] w fun e w' => e = .returned (.int .i64 (meanI xs)) ∧ Below w.heap.size w w' := by
  have hz : ¬ ((n : Int) = 0) := by omega
  go_enter Try.func113, Try.ntmps113
  go_wp2
  go_loop [3, 4, 6, 7, 15] (fun hi lo _ _ i => ∃ k : Nat, k ≤ n ∧ i = .int .i64 k ∧ hi = .int .u64 0 ∧ lo = .int .u64 (sumC (xs.take k) : Nat)) (fun _ _ _ _ i => n - (intOf i).toNat)
  case atStart => exact ⟨0, Nat.zero_le _, rfl, rfl, rfl⟩
  case round =>
    obtain ⟨k, hk, rfl, rfl, rfl⟩ := hrel
    have hcell : k < n → w.cell? ⟨b, off + k, none⟩ = some (.int .i64 (xs.getD k 0)) := fun h => hc k h
    clear hc
    have ht : k < n → sumC (xs.take (k + 1)) = sumC (xs.take k) + clampN (xs.getD k 0) := fun h => sumC_take xs k (by omega)
    have HT := Hide.mk ht
    clear ht
    have hs : sumC (xs.take k) ≤ 1125899906842624 * 8000 := by
      have := sumC_le (xs.take k)
      have h2 : (xs.take k).length ≤ k := by simp; omega
      generalize (xs.take k).length = z at *
      omega
    have hr := clampN_le (xs.getD k 0)
    have HE := Hide.mk (clampN_eq (xs.getD k 0))
    have c1 : ∀ w, Calls Try.prog 43 #[.int .i64 (xs.getD k 0), .int .i64 0, .int .i64 1125899906842624] w fun e w' => e = .returned (.int .i64 (clampN (xs.getD k 0) : Nat)) ∧ w' = w := fun w => by rw [← clampN_eq]; exact clamp43 _ _ _ _
    generalize xs.getD k 0 = x at *
    have a1 := fun w => add174 (sumC (xs.take k)) (clampN x) (by omega) w
    have HN : k = n → Hide ((sumC (xs.take k) / n : Nat) = meanI xs) := fun h => ⟨by rw [h, ← hn, List.take_length]; rfl⟩
    generalize sumC (xs.take k) = S at *
    generalize clampN x = C at *
    have wC : IntKind.u64.wrap (C : Int) = C := by rw [IntKind.wrap_u64]; omega
    have wn : IntKind.u64.wrap (n : Int) = n := by rw [IntKind.wrap_u64]; omega
    have wq : IntKind.i64.wrap ((S / n : Nat) : Int) = (S / n : Nat) := by
      have := Nat.div_le_self S n
      generalize S / n = q at *
      rw [IntKind.wrap_i64]; omega
    have d1 := fun w => div175 S n (by omega) h0 w
    generalize S / n = q at *
    go_wp2_with (first | (go_at_call 43; refine (c1 _).mono ?_; rintro e w' ⟨rfl, rfl⟩) | (simp only [a1]) | (go_at_call 175; refine (d1 _).mono ?_; rintro e w' ⟨rfl, hb⟩))
    · have hlt : k < n := by assumption
      go_round
      case rel => exact ⟨k + 1, by omega, by go_num, rfl, by rw [HT.out hlt]; rfl⟩
      case measure => simp [intOf]; omega
    · have : k = n := by omega
      go_ret
      exact ⟨by rw [(HN this).out]; rfl, by assumption⟩
end Go.Proofs.Ytdbljhjgmfdpjaa
