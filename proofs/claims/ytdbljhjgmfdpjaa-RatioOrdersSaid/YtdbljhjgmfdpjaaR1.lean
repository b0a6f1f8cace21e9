/-
  ratio.Cmp, ratio.Mean, ratio.MulDiv.
-/
import Derived.Test.YtdbljhjgmfdpjaaK
import Derived.Test.YtdbljhjgmfdpjaaR0
set_option linter.unusedVariables false
set_option linter.unusedSimpArgs false
namespace Go.Proofs.Ytdbljhjgmfdpjaa
open Go.RowKit

def cmpF (a b c d : Nat) : Int := sgnN (a * d) (c * b)
theorem lex_sgn (x y : Nat) : orI (sgnN (x / 18446744073709551616) (y / 18446744073709551616)) (sgnN (x % 18446744073709551616) (y % 18446744073709551616)) = sgnN x y := by
  have ex := Nat.div_add_mod x 18446744073709551616
  have ey := Nat.div_add_mod y 18446744073709551616
  have mx := Nat.mod_lt x (by omega : 0 < 18446744073709551616)
  have my := Nat.mod_lt y (by omega : 0 < 18446744073709551616)
  generalize x / 18446744073709551616 = p at *
  generalize x % 18446744073709551616 = q at *
  generalize y / 18446744073709551616 = r at *
  generalize y % 18446744073709551616 = s at *
  unfold orI sgnN
  repeat' split
  all_goals first | rfl | omega

def mh (x y : Nat) : Nat := x * y / 18446744073709551616
def ml (x y : Nat) : Nat := x * y % 18446744073709551616
theorem mul115' (x y : Nat) (hx : x < 18446744073709551616) (hy : y < 18446744073709551616) (w : World) :
    Calls Try.prog 115 #[.int .u64 x, .int .u64 y] w fun e w' => e = .returned (.tuple #[.int .u64 (mh x y : Nat), .int .u64 (ml x y : Nat)]) ∧ w' = w := mul115 x y hx hy w
theorem cmp42 (a b c d : Nat) (ha : a < 9223372036854775808) (hb : b < 9223372036854775808) (hc : c < 9223372036854775808) (hd : d < 9223372036854775808) (hb0 : 0 < b) (hd0 : 0 < d) (w : World) :
    Calls Try.prog 42 #[.int .i64 a, .int .i64 b, .int .i64 c, .int .i64 d] w fun e w' => e = .returned (.int .i64 (cmpF a b c d)) ∧ Below w.heap.size w w' := by
  have wa : IntKind.u64.wrap (a : Int) = a := by rw [IntKind.wrap_u64]; omega
  have wb : IntKind.u64.wrap (b : Int) = b := by rw [IntKind.wrap_u64]; omega
  have wc : IntKind.u64.wrap (c : Int) = c := by rw [IntKind.wrap_u64]; omega
  have wd : IntKind.u64.wrap (d : Int) = d := by rw [IntKind.wrap_u64]; omega
  have HL := Hide.mk (lex_sgn (a * d) (c * b))
  go_enter Try.func42, Try.ntmps42
  go_wp2_with (first | (go_at_call 115; refine (mul115' _ _ (by omega) (by omega) _).mono ?_; rintro e w' ⟨rfl, rfl⟩) | (go_at_call 117; refine (cmp117 _ _ _).mono ?_; rintro e w' ⟨rfl, rfl⟩) | (go_at_call 116; refine (or116 _ 0 (sgnN (mh a d) (mh c b)) (sgnN (ml a d) (ml c b)) _ (by go_simp) (by go_simp) _).mono ?_; rintro e w' ⟨rfl, rfl⟩))
  go_ret
  exact ⟨by rw [mh, mh, ml, ml, HL.out]; rfl, (Below.refl _ _).alloc (Nat.le_refl _) _⟩
end Go.Proofs.Ytdbljhjgmfdpjaa
