/-
  bits.Div64 where the high word is 0, and at one product; ratio.MulDiv, ratio.Mean.
-/
import Derived.Test.YtdbljhjgmfdpjaaR1
import Derived.Laws.MathBits
set_option linter.unusedVariables false
set_option linter.unusedSimpArgs false
namespace Go.Proofs.Ytdbljhjgmfdpjaa
open Go.RowKit

theorem div175 (lo y : Nat) (hl : lo < 18446744073709551616) (hy : 0 < y) (w : World) :
    Calls Try.prog 175 #[.int .u64 0, .int .u64 lo, .int .u64 y] w fun e w' => e = .returned (.tuple #[.int .u64 (lo / y : Nat), .int .u64 (lo % y : Nat)]) ∧ Below w.heap.size w w' := by
  have h0 : ((y : Int) = 0) = False := by simp; omega
  have h1 : ¬ ((y : Int) ≤ 0) := by omega
  have hw : Hide (IntKind.u64.wrap ((lo : Int) / (y : Int)) = ((lo / y : Nat) : Int)) := ⟨by
    have e : (lo : Int) / (y : Int) = ((lo / y : Nat) : Int) := rfl
    have : lo / y ≤ lo := Nat.div_le_self _ _
    rw [e]
    generalize lo / y = q at *
    rw [IntKind.wrap_u64]; omega⟩
  go_enter Try.func175, Try.ntmps175
  go_wp2
  go_region
  go_wp2
  go_ret2
  refine ⟨?_, (Below.refl _ _).drew⟩
  show Ending.returned (.tuple #[.int .u64 (IntKind.u64.wrap ((lo : Int) / (y : Int))), .int .u64 ((lo : Int) % (y : Int))]) = _
  rw [hw.out]
  rfl
set_option maxRecDepth 1000000 in
theorem len233 (w : World) : Calls Try.prog 233 #[.int .u64 1073741824] w fun e w' => e = .returned (.int .i64 31) ∧ w' = w := by
  go_enter Try.func233, Try.ntmps233
  go_wp2
  go_ret
  exact ⟨by kernel_rfl, rfl⟩
theorem lead217 (w : World) : Calls Try.prog 217 #[.int .u64 1073741824] w fun e w' => e = .returned (.int .i64 33) ∧ w' = w := by
  go_enter Try.func217, Try.ntmps217
  go_wp2_with (go_at_call 233; refine (len233 _).mono ?_; rintro e w' ⟨rfl, rfl⟩)
  go_ret
  exact ⟨rfl, rfl⟩
set_option maxRecDepth 100000 in
theorem div175b (w : World) : Calls Try.prog 175 #[.int .u64 65536, .int .u64 0, .int .u64 1073741824] w fun e w' => e = .returned (.tuple #[.int .u64 1125899906842624, .int .u64 0]) ∧ Below w.heap.size w w' := by
  go_enter Try.func175, Try.ntmps175
  go_wp2_with (go_at_call 217; refine (lead217 _).mono ?_; rintro e w' ⟨rfl, rfl⟩)
  go_loop [15, 16] (fun a b => a = .int .u64 262144 ∧ b = .int .u64 0) (fun _ _ => 0)
  case atStart => exact ⟨by kernel_rfl, by kernel_rfl⟩
  case round =>
    obtain ⟨rfl, rfl⟩ := hrel
    go_wp2
    go_loop [16, 18] (fun b a => a = .int .u64 0 ∧ b = .int .u64 0) (fun _ _ => 0)
    case atStart => exact ⟨by kernel_rfl, by kernel_rfl⟩
    case round =>
      obtain ⟨rfl, rfl⟩ := hrel
      go_wp2
      go_ret2
      exact ⟨by kernel_rfl, Below.refl _ _⟩

/-- ratio.MulDiv, where the product is one word. -/
theorem md114 (a b c : Nat) (ha : a < 9223372036854775808) (hb : b < 9223372036854775808) (hc : c < 9223372036854775808) (hc0 : 0 < c) (hm : mh a b = 0) (hq : a * b / c ≤ 4611686018427387904) (w : World) :
    Calls Try.prog 114 #[.int .i64 a, .int .i64 b, .int .i64 c] w fun e w' => e = .returned (.tuple #[.int .i64 (a * b / c : Nat), .int .i64 0]) ∧ Below w.heap.size w w' := by
  have wa : IntKind.u64.wrap (a : Int) = a := by rw [IntKind.wrap_u64]; omega
  have wb : IntKind.u64.wrap (b : Int) = b := by rw [IntKind.wrap_u64]; omega
  have wc : IntKind.u64.wrap (c : Int) = c := by rw [IntKind.wrap_u64]; omega
  have hl : ml a b = a * b := by
    have := Nat.div_add_mod (a * b) 18446744073709551616
    rw [mh] at hm; rw [hm] at this; rw [ml]; omega
  have hl2 : ml a b < 18446744073709551616 := Nat.mod_lt _ (by omega)
  have m1 := fun w => mul115' a b (by omega) (by omega) w
  have d1 := fun w => div175 (ml a b) c hl2 hc0 w
  rw [hm] at m1
  rw [← hl] at hq
  rw [← hl]
  generalize ml a b = p at *
  generalize p % c = r at *
  generalize p / c = q at *
  have wq : IntKind.i64.wrap (q : Int) = q := by rw [IntKind.wrap_i64]; omega
  clear hl hl2 hm
  go_enter Try.func114, Try.ntmps114
  go_wp2_with (first | (go_at_call 115; refine (m1 _).mono ?_; rintro e w' ⟨rfl, rfl⟩) | (go_at_call 175; refine (d1 _).mono ?_; rintro e w' ⟨rfl, hb⟩))
  go_ret2
  exact ⟨rfl, by assumption⟩
/-- ratio.MulDiv, where the product's high word is too great. -/
theorem md114f (a b c : Nat) (ha : a < 9223372036854775808) (hb : b < 9223372036854775808) (hc : c < 9223372036854775808) (hc0 : 0 < c) (hm : c ≤ mh a b) (w : World) :
    Calls Try.prog 114 #[.int .i64 a, .int .i64 b, .int .i64 c] w fun e w' => e = .returned (.tuple #[.int .i64 0, .int .i64 8]) ∧ Below w.heap.size w w' := by
  have wa : IntKind.u64.wrap (a : Int) = a := by rw [IntKind.wrap_u64]; omega
  have wb : IntKind.u64.wrap (b : Int) = b := by rw [IntKind.wrap_u64]; omega
  have wc : IntKind.u64.wrap (c : Int) = c := by rw [IntKind.wrap_u64]; omega
  have m1 := fun w => mul115' a b (by omega) (by omega) w
  generalize mh a b = p at *
  generalize ml a b = q at *
  go_enter Try.func114, Try.ntmps114
  go_wp2_with (first | (go_at_call 115; refine (m1 _).mono ?_; rintro e w' ⟨rfl, rfl⟩))
  go_ret2
  exact ⟨rfl, Below.refl _ _⟩
/-- The product that 'alive' asks for. -/
theorem md114x (w : World) :
    Calls Try.prog 114 #[.int .i64 1099511627776, .int .i64 1099511627776, .int .i64 1073741824] w fun e w' => e = .returned (.tuple #[.int .i64 1125899906842624, .int .i64 0]) ∧ Below w.heap.size w w' := by
  have m1 : ∀ w, Calls Try.prog 115 #[.int .u64 1099511627776, .int .u64 1099511627776] w fun e w' => e = .returned (.tuple #[.int .u64 65536, .int .u64 0]) ∧ w' = w := fun w => mul115 1099511627776 1099511627776 (by omega) (by omega) w
  go_enter Try.func114, Try.ntmps114
  go_wp2_with (first | (go_at_call 115; refine (m1 _).mono ?_; rintro e w' ⟨rfl, rfl⟩) | (go_at_call 175; refine (div175b _).mono ?_; rintro e w' ⟨rfl, hb⟩))
  go_ret2
  exact ⟨rfl, by assumption⟩
end Go.Proofs.Ytdbljhjgmfdpjaa
