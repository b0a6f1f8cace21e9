/-
  math/bits, cmp and ratio: the contracts of the small functions.
-/
import Derived.Test.YtdbljhjgmfdpjaaProg
import Derived.WalkKit
import Derived.LoopTactic
import Derived.Below
import Derived.RowKit
import Derived.Lib.Mul64
import Derived.Shelf.Bits.Mul64
import Derived.Laws.Externs
set_option linter.unusedVariables false
set_option linter.unusedSimpArgs false
namespace Go.Proofs.Ytdbljhjgmfdpjaa
open Go.RowKit

set_option maxHeartbeats 1000000 in
theorem mul115 (x y : Nat) (hx : x < 18446744073709551616) (hy : y < 18446744073709551616) (w : World) :
    Calls Try.prog 115 #[.int .u64 x, .int .u64 y] w fun e w' => e = .returned (.tuple #[.int .u64 ((x * y / 18446744073709551616 : Nat) : Int), .int .u64 ((x * y % 18446744073709551616 : Nat) : Int)]) ∧ w' = w := by
  obtain ⟨bd, bt, bw, hhi⟩ := Lib.mul64_hi x y hx hy
  have ba := Lib.half_mul_le (a := x / 4294967296) (b := y / 4294967296) (by omega) (by omega)
  have bb := Lib.half_mul_le (a := x / 4294967296) (b := y % 4294967296) (by omega) (by omega)
  have bc := Lib.half_mul_le (a := x % 4294967296) (b := y / 4294967296) (by omega) (by omega)
  have ba' : x / 4294967296 * (y / 4294967296) < 18446744073709551616 := by omega
  have bb' : x / 4294967296 * (y % 4294967296) < 18446744073709551616 := by omega
  have bc' : x % 4294967296 * (y / 4294967296) < 18446744073709551616 := by omega
  have bh1 : x / 4294967296 * (y / 4294967296) + (x / 4294967296 * (y % 4294967296) + x % 4294967296 * (y % 4294967296) / 4294967296) / 4294967296 < 18446744073709551616 := by omega
  have bh : x / 4294967296 * (y / 4294967296) + (x / 4294967296 * (y % 4294967296) + x % 4294967296 * (y % 4294967296) / 4294967296) / 4294967296 + ((x / 4294967296 * (y % 4294967296) + x % 4294967296 * (y % 4294967296) / 4294967296) % 4294967296 + x % 4294967296 * (y / 4294967296)) / 4294967296 < 18446744073709551616 := by omega
  go_enter Try.func115, Try.ntmps115
  go_wp2
  simp only [Mul64.maskN x hx, Mul64.maskN y hy, Mul64.divN, Mul64.mulN, Mul64.addN, Mul64.wrapN _ bd, Mul64.wrapN _ bb', Mul64.wrapN _ bt, Mul64.maskN _ bt, Mul64.wrapN _ bc', Mul64.wrapN _ bw, Mul64.wrapN _ ba', Mul64.wrapN _ bh1, Mul64.wrapN _ bh, Mul64.wrapM (x * y)]
  rw [hhi]
  go_ret2
  exact ⟨rfl, rfl⟩

def sgnN (x y : Nat) : Int := if x < y then -1 else if y < x then 1 else 0
theorem cmp117 (x y : Nat) (w : World) : Calls Try.prog 117 #[.int .u64 x, .int .u64 y] w fun e w' => e = .returned (.int .i64 (sgnN x y)) ∧ w' = w := by
  have hn : ∀ (z : Nat) w, Calls Try.prog 176 #[.int .u64 z] w fun e w' => e = .returned (.bool false) ∧ w' = w := by
    intro z w
    go_enter Try.func176, Try.ntmps176
    go_wp2
    go_ret
    exact ⟨rfl, rfl⟩
  by_cases h : x < y
  · have e : sgnN x y = -1 := by simp [sgnN, h]
    rw [e]; clear e
    go_enter Try.func117, Try.ntmps117
    go_wp2_with (go_at_call 176; refine (hn _ _).mono ?_; rintro e w' ⟨rfl, rfl⟩)
    go_ret
    exact ⟨rfl, rfl⟩
  · by_cases h2 : y < x
    · have e : sgnN x y = 1 := by simp [sgnN, h, h2]
      rw [e]; clear e
      go_enter Try.func117, Try.ntmps117
      go_wp2_with (go_at_call 176; refine (hn _ _).mono ?_; rintro e w' ⟨rfl, rfl⟩)
      go_ret
      exact ⟨rfl, rfl⟩
    · have e : sgnN x y = 0 := by simp [sgnN, h, h2]
      rw [e]; clear e
      go_enter Try.func117, Try.ntmps117
      go_wp2_with (go_at_call 176; refine (hn _ _).mono ?_; rintro e w' ⟨rfl, rfl⟩)
      go_ret
      exact ⟨rfl, rfl⟩

def clampI (n l h : Int) : Int := if n < l then l else if h < n then h else n
theorem clamp43 (n l h : Int) (w : World) : Calls Try.prog 43 #[.int .i64 n, .int .i64 l, .int .i64 h] w fun e w' => e = .returned (.int .i64 (clampI n l h)) ∧ w' = w := by
  by_cases h1 : n < l
  · have e : clampI n l h = l := by simp [clampI, h1]
    rw [e]; clear e
    go_enter Try.func43, Try.ntmps43
    go_wp2
    go_ret
    exact ⟨rfl, rfl⟩
  · by_cases h2 : h < n
    · have e : clampI n l h = h := by simp [clampI, h1, h2]
      rw [e]; clear e
      go_enter Try.func43, Try.ntmps43
      go_wp2
      go_ret
      exact ⟨rfl, rfl⟩
    · have e : clampI n l h = n := by simp [clampI, h1, h2]
      rw [e]; clear e
      go_enter Try.func43, Try.ntmps43
      go_wp2
      go_ret
      exact ⟨rfl, rfl⟩

def orI (x y : Int) : Int := if x = 0 then y else x
theorem or116 (b off : Nat) (x y : Int) (w : World) (h0 : w.cell? ⟨b, off, none⟩ = some (.int .i64 x)) (h1 : w.cell? ⟨b, off + 1, none⟩ = some (.int .i64 y)) (c : Nat) :
    Calls Try.prog 116 #[.slice (some ⟨b, off, none⟩) 2 c] w fun e w' => e = .returned (.int .i64 (orI x y)) ∧ w' = w := by
  go_enter Try.func116, Try.ntmps116
  go_wp2
  go_loop [5, 8] (fun _ i => i = .int .i64 0 ∨ i = .int .i64 1 ∧ x = 0 ∨ i = .int .i64 2 ∧ x = 0 ∧ y = 0) (fun _ i => 2 - (intOf i).toNat)
  case atStart => exact .inl rfl
  case round =>
    rcases hrel with rfl | ⟨rfl, hx⟩ | ⟨rfl, hx, hy⟩
    · by_cases hx : x = 0
      · subst hx
        go_wp2
        go_round
        case rel => simp
        case measure => simp [intOf]
      · go_wp2
        go_ret
        exact ⟨by simp [orI, *], rfl⟩
    · subst hx
      by_cases hy : y = 0
      · subst hy
        go_wp2
        go_round
        case rel => simp
        case measure => simp [intOf]
      · go_wp2
        go_ret
        exact ⟨by simp [orI, *], rfl⟩
    · subst hx; subst hy
      go_wp2
      go_ret
      exact ⟨by simp [orI, *], rfl⟩
end Go.Proofs.Ytdbljhjgmfdpjaa
