import Derived.Test.YtilnghebkpcblaaA5d
namespace Go.Proofs.Ytilnghebkpcblaa
open Go.RowKit
attribute [local go_sem ↓] Go.wp_at_zero Go.wp_at_succ

set_option maxRecDepth 100000 in
set_option maxHeartbeats 2000000 in
theorem known_any (w : World) :
    Calls Try.prog 5 #[] w fun e w' => e = .returned (.bool true) ∧ Below w.heap.size w w' := by
  have p1 : payC 2 1 1 1 1 0 0 3 = ((0, 0, 1, 0), 0) := by decide
  have p2 : payC 1 0 0 0 0 0 0 2 = ((1, 0, 0, 0), 13) := by decide
  have p3 : payC 1 0 0 2 1 0 0 2 = ((0, 0, 0, 0), 0) := by decide
  have p4 : payC 1 0 0 2 0 1 0 0 = ((1, 0, 0, 2), 13) := by decide
  have p5 : payC 0 0 0 3 0 0 0 4 = ((0, 0, 0, 3), 13) := by decide
  have a1 : addV 1 0 0 0 0 2 = mana4 3 0 0 0 := by unfold addV; simp [show addL 1 2 = 3 from by decide, show clampL 0 = 0 from by decide]
  have a2 : addV 1 0 0 0 0 (-2) = mana4 0 0 0 0 := by unfold addV; simp [show addL 1 (-2) = 0 from by decide, show clampL 0 = 0 from by decide]
  have a3 : addV 1 0 0 0 4 1 = mana4 1 0 0 0 := by unfold addV; simp [show clampL 1 = 1 from by decide, show clampL 0 = 0 from by decide]
  have a4 : addV 999 0 0 0 0 1 = mana4 999 0 0 0 := by unfold addV; simp [show addL 999 1 = 999 from by decide, show clampL 0 = 0 from by decide]
  go_enter Try.func5, Try.ntmps5
  go_upto_region 1 with fail
  go_cut [1, 2] (fun s1 s2 wx => ∃ b1 : Nat, s1 = .pointer (some ⟨b1, 0, none⟩) ∧ s2 = .int .i64 0 ∧ Below w.heap.size w wx ∧ w.heap.size ≤ b1 ∧ Row wx b1 23 (row4 0 0 1 0))
  case first =>
    have hbw := Below.refl w.heap.size w
    go_wp2_with (go_at_call 7; refine (pay_any _ _ _ _ _ _ _ _ _).mono ?_; rintro e w1 ⟨rfl, hb1⟩; replace hbw := hbw.after hb1; have hz := hb1.size)
    go_meet
    refine ⟨_, rfl, rfl, ?_, ?_, ?_⟩
    · (repeat' (first | (with_reducible exact Below.refl _ _) | (with_reducible assumption) | (with_reducible refine Below.alloc ?_ ?_ _) | (with_reducible refine Below.drew ?_) | (with_reducible refine Below.drewN' ?_ _) | (with_reducible refine Below.setCell ?_ ?_ _) | go_size))
    · omega
    · (apply Row.eq; (repeat (first | (with_reducible assumption) | (with_reducible apply Row.set) | (with_reducible apply Row.drew) | (with_reducible apply Row.drewN) | (with_reducible exact Row.new) | ((with_reducible apply Row.newAt); (focus (first | (with_reducible rfl) | (simp; done)))) | (with_reducible apply Row.alloc) | (with_reducible apply Row.far) | (dsimp only; omega) | rfl)))
  obtain ⟨b1, rfl, rfl, hbw, h1, r1⟩ := hcut
  have z1 := r1.lt
  go_upto_region 2 with fail
  go_cut [3, 4] (fun s3 s4 wx => ∃ b3 : Nat, s3 = .pointer (some ⟨b3, 0, none⟩) ∧ s4 = .int .i64 13 ∧ Below w.heap.size w wx ∧ Row wx b1 23 (row4 0 0 1 0) ∧ Row wx b3 23 (row4 1 0 0 0))
  case first =>
    go_wp2_with (go_at_call 7; refine (pay_any _ _ _ _ _ _ _ _ _).mono ?_; rintro e w1 ⟨rfl, hb1⟩; replace hbw := hbw.after hb1; replace r1 := r1.belowd hb1; have hz := hb1.size; replace z1 := r1.lt)
    go_meet
    refine ⟨_, rfl, rfl, ?_, ?_, ?_⟩
    · (repeat' (first | (with_reducible exact Below.refl _ _) | (with_reducible assumption) | (with_reducible refine Below.alloc ?_ ?_ _) | (with_reducible refine Below.drew ?_) | (with_reducible refine Below.drewN' ?_ _) | (with_reducible refine Below.setCell ?_ ?_ _) | go_size))
    · (apply Row.eq; (repeat (first | (with_reducible assumption) | (with_reducible apply Row.set) | (with_reducible apply Row.drew) | (with_reducible apply Row.drewN) | (with_reducible exact Row.new) | ((with_reducible apply Row.newAt); (focus (first | (with_reducible rfl) | (simp; done)))) | (with_reducible apply Row.alloc) | (with_reducible apply Row.far) | (dsimp only; omega) | rfl)))
    · (apply Row.eq; (repeat (first | (with_reducible assumption) | (with_reducible apply Row.set) | (with_reducible apply Row.drew) | (with_reducible apply Row.drewN) | (with_reducible exact Row.new) | ((with_reducible apply Row.newAt); (focus (first | (with_reducible rfl) | (simp; done)))) | (with_reducible apply Row.alloc) | (with_reducible apply Row.far) | (dsimp only; omega) | rfl)))
  clear z1
  obtain ⟨b3, rfl, rfl, hbw, r1, r3⟩ := hcut
  obtain ⟨c1, f1, z1⟩ := r1.open
  obtain ⟨c3, f3, z3⟩ := r3.open
  go_wp2_with (first
    | (go_at_call 8; refine (can_any _ _ _ _ _ _ _ _ _).mono ?_; rintro e w1 ⟨rfl, hb1⟩; replace hbw := hbw.after hb1; replace r1 := r1.belowd hb1; replace r3 := r3.belowd hb1; clear c1 f1 z1 c3 f3 z3; obtain ⟨c1, f1, z1⟩ := r1.open; obtain ⟨c3, f3, z3⟩ := r3.open; clear hb1)
    | (go_at_call 10; refine (add_any _ _ _ _ _ _ _).mono ?_; rintro e w1 ⟨rfl, hb1⟩; replace hbw := hbw.after hb1; replace r1 := r1.belowd hb1; replace r3 := r3.belowd hb1; clear c1 f1 z1 c3 f3 z3; obtain ⟨c1, f1, z1⟩ := r1.open; obtain ⟨c3, f3, z3⟩ := r3.open; clear hb1)
    | (go_at_call 4; refine (paid_any _ _ _ _ _ _ _ _ _ _ _).mono ?_; rintro e w1 ⟨rfl, hb1⟩; replace hbw := hbw.after hb1; replace r1 := r1.belowd hb1; replace r3 := r3.belowd hb1; clear c1 f1 z1 c3 f3 z3; obtain ⟨c1, f1, z1⟩ := r1.open; obtain ⟨c3, f3, z3⟩ := r3.open; clear hb1))
  go_ret
  exact ⟨rfl, hbw⟩

end Go.Proofs.Ytilnghebkpcblaa
