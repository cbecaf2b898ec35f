import Derived.Test.YtilnghebkpcblaaBase
namespace Go.Proofs.Ytilnghebkpcblaa
open Go.RowKit

def clampL (a : Int) : Int := min (max a 0) 999
def inL (a b c : Int) : Bool := decide (b ≤ a) && decide (a ≤ c)

set_option maxHeartbeats 400000 in
theorem within_any (a : Int) (w : World) :
    Calls Try.prog 14 #[.int .i64 a] w fun e w' => e = .returned (.int .i64 (clampL a)) ∧ w = w' := by
  go_enter Try.func14, Try.ntmps14
  go_wp2
  go_ret
  exact ⟨rfl, rfl⟩

set_option maxHeartbeats 400000 in
theorem in32_any (a b c : Int) (w : World) :
    Calls Try.prog 9 #[.int .i64 a, .int .i64 b, .int .i64 c] w fun e w' => e = .returned (.bool (inL a b c)) ∧ w = w' := by
  go_enter Try.func9, Try.ntmps9
  go_wp2
  all_goals
    go_ret
    exact ⟨ret_bool (by unfold inL; simp; omega), rfl⟩

set_option maxHeartbeats 400000 in
theorem sound_any (a b c d : Int) (w : World) :
    Calls Try.prog 11 #[.agg #[.int .i64 a, .int .i64 b, .int .i64 c, .int .i64 d]] w fun e w' =>
      e = .returned (.agg #[.int .i64 (clampL a), .int .i64 (clampL b), .int .i64 (clampL c), .int .i64 (clampL d)]) ∧ Below w.heap.size w w' := by
  go_enter Try.func11, Try.ntmps11
  go_wp2
  refine wp_loop_rounds 5 ?_
  repeat any_goals (rw [rounds_succ]; go_wp2_with (go_at_call 14; refine (within_any _ _).mono ?_; rintro e w' ⟨rfl, rfl⟩))
  go_returns
  refine ⟨rfl, ?_⟩
  go_grown

set_option maxHeartbeats 1000000 in
theorem clamped_any (a b c d : Int) (w : World) :
    Calls Try.prog 6 #[.agg #[.int .i64 a, .int .i64 b, .int .i64 c, .int .i64 d]] w fun e w' =>
      e = .returned (.agg #[.int .i64 (clampL a), .int .i64 (clampL b), .int .i64 (clampL c), .int .i64 (clampL d)]) ∧ Below w.heap.size w w' := by
  go_enter Try.func6, Try.ntmps6
  go_wp2
  refine wp_loop_rounds 5 ?_
  repeat any_goals (rw [rounds_succ]; go_wp2)
  go_returns
  refine ⟨rfl, ?_⟩
  go_grown
end Go.Proofs.Ytilnghebkpcblaa
