import Derived.Test.YtilnghebkpcblaaA1
namespace Go.Proofs.Ytilnghebkpcblaa
open Go.RowKit
attribute [local go_sem ↓] Go.wp_at_zero Go.wp_at_succ

theorem clampL_bd (a : Int) : 0 ≤ clampL a ∧ clampL a ≤ 999 := by unfold clampL; omega

abbrev mana4 (A B C D : Int) : Value := .agg #[.int .i64 A, .int .i64 B, .int .i64 C, .int .i64 D]
abbrev row4 (A B C D : Int) : Array Value := #[.int .i64 A, .int .i64 B, .int .i64 C, .int .i64 D]

theorem load4 {A B C D : Int} {w : World} {b : Nat} (h : Row w b 23 (row4 A B C D)) : (loadVar 23 ⟨b, 0, none⟩).run Try.prog w = .ok (mana4 A B C D) w := by
  obtain ⟨c, _, _⟩ := h.open
  simp [go_sem, c]

set_option maxHeartbeats 1000000 in
theorem total_any (A B C D : Int) (b6 b8 : Nat) (w : World) (h6 : Row w b6 23 (row4 A B C D)) (h8 : Row w b8 22 (row4 3 0 1 2))
    (hA : 0 ≤ A ∧ A ≤ 999) (hB : 0 ≤ B ∧ B ≤ 999) (hC : 0 ≤ C ∧ C ≤ 999) (hD : 0 ≤ D ∧ D ≤ 999) :
    Calls Try.prog 12 #[.func (.func 13) #[] #[.pointer (some ⟨b6, 0, none⟩)], .slice (some ⟨b8, 0, none⟩) 4 4] w fun e w' =>
      e = .returned (.int .i64 (D + A + B + C)) ∧ w = w' := by
  obtain ⟨c6, _, _⟩ := h6.open
  obtain ⟨c8, _, _⟩ := h8.open
  go_enter Try.func12, Try.ntmps12
  go_wp2
  refine wp_loop_rounds 5 ?_
  repeat any_goals (rw [rounds_succ]; go_wp2)
  go_ret
  exact ⟨rfl, rfl⟩

def payL (A B C D X Y Z U : Int) : (Int × Int × Int × Int) × Int :=
  if A - X < 0 then ((A, B, C, D), 13) else if B - Y < 0 then ((A, B, C, D), 13) else if C - Z < 0 then ((A, B, C, D), 13)
  else if D + (A - X) + (B - Y) + (C - Z) < U then ((A, B, C, D), 13) else
    ((A - X - min (A - X) (U - min D U),
      B - Y - min (B - Y) (U - min D U - min (A - X) (U - min D U)),
      C - Z - min (C - Z) (U - min D U - min (A - X) (U - min D U) - min (B - Y) (U - min D U - min (A - X) (U - min D U))),
      D - min D U), 0)
abbrev payV (r : (Int × Int × Int × Int) × Int) : Value := .tuple #[mana4 r.1.1 r.1.2.1 r.1.2.2.1 r.1.2.2.2, .int .i64 r.2]

end Go.Proofs.Ytilnghebkpcblaa
