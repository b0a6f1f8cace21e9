/-
  bellwetherlaw09.alive.
-/
import Derived.Test.YtdbljhjgmfdpjaaR3
set_option linter.unusedVariables false
set_option linter.unusedSimpArgs false
namespace Go.Proofs.Ytdbljhjgmfdpjaa
open Go.RowKit

theorem cells3 (w : World) (k : Nat) (hk : k < 3) : (w.alloc (Obj.cells #[.int .i64 1, .int .i64 2, .int .i64 4] 3)).cell? ⟨w.heap.size, 0 + k, none⟩ = some (.int .i64 (([1, 2, 4] : List Int).getD k 0)) := by
  have : k = 0 ∨ k = 1 ∨ k = 2 := by omega
  rcases this with rfl | rfl | rfl <;> go_simp
theorem mean3 (w : World) : Calls Try.prog 113 #[.slice (some ⟨w.heap.size, 0, none⟩) 3 3] (w.alloc (Obj.cells #[.int .i64 1, .int .i64 2, .int .i64 4] 3)) fun e w' => e = .returned (.int .i64 2) ∧ Below w.heap.size w w' :=
  (mean113 _ 0 3 3 [1, 2, 4] _ rfl (by omega) (by omega) (cells3 w)).mono fun e w' ⟨h1, h2⟩ => ⟨h1, below_then ((Below.refl _ _).alloc (Nat.le_refl _) _) (by simp) h2⟩
theorem cmpc (w : World) : Calls Try.prog 42 #[.int .i64 1, .int .i64 2, .int .i64 1, .int .i64 3] w fun e w' => e = .returned (.int .i64 1) ∧ Below w.heap.size w w' :=
  cmp42 1 2 1 3 (by omega) (by omega) (by omega) (by omega) (by omega) (by omega) w
theorem mdf (w : World) : Calls Try.prog 114 #[.int .i64 1099511627776, .int .i64 1099511627776, .int .i64 3] w fun e w' => e = .returned (.tuple #[.int .i64 0, .int .i64 8]) ∧ Below w.heap.size w w' :=
  md114f 1099511627776 1099511627776 3 (by omega) (by omega) (by omega) (by omega) (by decide) w
theorem clampc (w : World) : Calls Try.prog 43 #[.int .i64 9, .int .i64 1, .int .i64 5] w fun e w' => e = .returned (.int .i64 5) ∧ w' = w := clamp43 9 1 5 w

def mdn (c : Int) : Int := if c = 3 then 0 else 1125899906842624
def mde (c : Int) : Int := if c = 3 then 8 else 0
theorem mdAny (c : Int) (hc : c = 3 ∨ c = 1073741824) (w : World) : Calls Try.prog 114 #[.int .i64 1099511627776, .int .i64 1099511627776, .int .i64 c] w fun e w' => e = .returned (.tuple #[.int .i64 (mdn c), .int .i64 (mde c)]) ∧ Below w.heap.size w w' := by
  rcases hc with rfl | rfl
  · exact mdf w
  · exact md114x w

theorem alive41 (w : World) : Calls Try.prog 41 #[] w fun e w' => e = .returned (.bool true) ∧ Below w.heap.size w w' := by
  have e1 : mdn 1073741824 = 1125899906842624 := rfl
  have e2 : mde 1073741824 = 0 := rfl
  have e3 : mde 3 = 8 := rfl
  go_enter Try.func41, Try.ntmps41
  go_wp2_with (first | (go_at_call 114; refine (mdAny _ (by decide) _).mono ?_; rintro e w1 ⟨rfl, hb1⟩) | (go_at_call 113; refine (mean3 _).mono ?_; rintro e w3 ⟨rfl, hb3⟩) | (go_at_call 43; refine (clampc _).mono ?_; rintro e w4 ⟨rfl, rfl⟩) | (go_at_call 42; refine (cmpc _).mono ?_; rintro e w5 ⟨rfl, hb5⟩))
  go_ret
  rename_i a ha
  exact ⟨rfl, below_then ha ha.size (below_then hb1 hb1.size (below_then hb3 hb3.size hb5))⟩
end Go.Proofs.Ytdbljhjgmfdpjaa
