import Derived.Test.YtilnghebkpcblaaA2
import Derived.Test.YtilnghebkpcblaaEqArr
namespace Go.Proofs.Ytilnghebkpcblaa
open Go.RowKit

@[go_sem] theorem eq4_run (a b c e a' b' c' e' : Int) (w : World) : (Op.equalIn 10000 23 (mana4 a b c e) (mana4 a' b' c' e')).run Try.prog w = .ok (a == a' && (b == b' && (c == c' && e == e'))) w := by
  have h := run_equal_arr (P := Try.prog) 9999 23 3 4 intEq [.int .i64 a, .int .i64 b, .int .i64 c, .int .i64 e] [.int .i64 a', .int .i64 b', .int .i64 c', .int .i64 e'] (by kernel_rfl) (fun _ => sizeOf_int3) part_int3 rfl rfl (by
    intro x y w hx hy
    simp only [List.mem_cons, List.not_mem_nil, or_false] at hx hy
    rcases hx with rfl | rfl | rfl | rfl <;> rcases hy with rfl | rfl | rfl | rfl <;> exact equal_int3 _ _ _ _ _) w
  rw [h]
  simp [intEq]
end Go.Proofs.Ytilnghebkpcblaa
