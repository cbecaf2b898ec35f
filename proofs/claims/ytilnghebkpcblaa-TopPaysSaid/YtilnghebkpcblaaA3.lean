import Derived.Test.YtilnghebkpcblaaA2
namespace Go.Proofs.Ytilnghebkpcblaa
open Go.RowKit
attribute [local go_sem ↓] Go.wp_at_zero Go.wp_at_succ

set_option maxHeartbeats 2000000 in
theorem pay_any (a b c d x y z u : Int) (w : World) :
    Calls Try.prog 7 #[mana4 a b c d, mana4 x y z u] w fun e w' =>
      e = .returned (payV (payL (clampL a) (clampL b) (clampL c) (clampL d) (clampL x) (clampL y) (clampL z) (clampL u))) ∧ Below w.heap.size w w' := by
  have bA := clampL_bd a
  have bB := clampL_bd b
  have bC := clampL_bd c
  have bD := clampL_bd d
  have bX := clampL_bd x
  have bY := clampL_bd y
  have bZ := clampL_bd z
  have bU := clampL_bd u
  go_enter Try.func7, Try.ntmps7
  go_upto_region 0 with fail
  go_cut [2, 3, 4, 5] (fun s2 s3 s4 s5 wx => ∃ b2 b3 b4 : Nat, s2 = .pointer (some ⟨b2, 0, none⟩) ∧ s3 = .pointer (some ⟨b3, 0, none⟩) ∧ s4 = .pointer (some ⟨b4, 0, none⟩) ∧ s5 = .int .i64 0 ∧ Below w.heap.size w wx ∧ w.heap.size ≤ b2 ∧ b2 < b3 ∧ b3 < b4 ∧
     Row wx b2 23 (row4 a b c d) ∧ Row wx b3 23 (row4 x y z u) ∧ Row wx b4 23 (row4 0 0 0 0))
  case first =>
    go_wp2_with fail
    go_meet
    refine ⟨w.heap.size, w.heap.size + 1, w.heap.size + 1 + 1, rfl, rfl, rfl, rfl, ?_, ?_, ?_, ?_, ?_, ?_, ?_⟩
    · (repeat' (first | (with_reducible exact Below.refl _ _) | (with_reducible assumption) | (with_reducible refine Below.alloc ?_ ?_ _) | (with_reducible refine Below.drew ?_) | (with_reducible refine Below.drewN' ?_ _) | (with_reducible refine Below.setCell ?_ ?_ _) | go_size))
    · omega
    · omega
    · omega
    · exact (Row.new.alloc _).alloc _
    · exact (Row.newAt (by simp)).alloc _
    · exact (Row.newAt (by simp))
  obtain ⟨b2, b3, b4, rfl, rfl, rfl, rfl, hbw, h2, h3, h4, r2, r3, r4⟩ := hcut
  obtain ⟨c2, f2, z2⟩ := r2.open
  obtain ⟨c3, f3, z3⟩ := r3.open
  have z4 := r4.lt
  go_upto_region 1 with fail
  go_cut [2] (fun s2 wx => s2 = .pointer (some ⟨b2, 0, none⟩) ∧ Below w.heap.size w wx ∧
     Row wx b2 23 (row4 (clampL a) (clampL b) (clampL c) (clampL d)) ∧ Row wx b3 23 (row4 (clampL x) (clampL y) (clampL z) (clampL u)) ∧ Row wx b4 23 (row4 0 0 0 0))
  case first =>
    go_region_with (go_at_call 11; go_loud (refine (sound_any _ _ _ _ _).mono ?_; rintro e w1 ⟨rfl, hb1⟩; replace hbw := (hbw.after hb1); replace r2 := r2.belowd hb1; replace r3 := r3.belowd hb1; replace r4 := r4.belowd hb1; obtain ⟨c2, f2, z2⟩ := r2.open; obtain ⟨c3, f3, z3⟩ := r3.open; have z4 := r4.lt; clear hb1))
    all_goals
      go_wp2_with fail
      go_meet
      refine ⟨rfl, ?_, ?_, ?_, ?_⟩
      · (repeat' (first | (with_reducible exact Below.refl _ _) | (with_reducible assumption) | (with_reducible refine Below.alloc ?_ ?_ _) | (with_reducible refine Below.drew ?_) | (with_reducible refine Below.drewN' ?_ _) | (with_reducible refine Below.setCell ?_ ?_ _) | go_size))
      · (apply Row.eq; (repeat (first | (with_reducible assumption) | (with_reducible apply Row.set) | (with_reducible apply Row.drew) | (with_reducible apply Row.drewN) | (with_reducible exact Row.new) | ((with_reducible apply Row.newAt); (focus (first | (with_reducible rfl) | (simp; done)))) | (with_reducible apply Row.alloc) | (with_reducible apply Row.far) | (dsimp only; omega) | rfl)))
      · (apply Row.eq; (repeat (first | (with_reducible assumption) | (with_reducible apply Row.set) | (with_reducible apply Row.drew) | (with_reducible apply Row.drewN) | (with_reducible exact Row.new) | ((with_reducible apply Row.newAt); (focus (first | (with_reducible rfl) | (simp; done)))) | (with_reducible apply Row.alloc) | (with_reducible apply Row.far) | (dsimp only; omega) | rfl)))
      · (apply Row.eq; (repeat (first | (with_reducible assumption) | (with_reducible apply Row.set) | (with_reducible apply Row.drew) | (with_reducible apply Row.drewN) | (with_reducible exact Row.new) | ((with_reducible apply Row.newAt); (focus (first | (with_reducible rfl) | (simp; done)))) | (with_reducible apply Row.alloc) | (with_reducible apply Row.far) | (dsimp only; omega) | rfl)))
  clear c2 f2 z2 c3 f3 z3 z4 r2 r3 r4 hbw
  obtain ⟨rfl, hbw, r2, r3, r4⟩ := hcut
  obtain ⟨c2, f2, z2⟩ := r2.open
  obtain ⟨c3, f3, z3⟩ := r3.open
  obtain ⟨c4, f4, z4⟩ := r4.open
  go_wp2_with fail
  refine wp_loop_rounds 4 ?_
  repeat any_goals (first | (rw [rounds_succ]; go_upto_region 10 with fail) | (go_region; all_goals go_upto_region 10 with fail))
  rotate_right
  · go_cut [6, 8] (fun s6 s8 wx => ∃ b6 b8 : Nat, s6 = .pointer (some ⟨b6, 0, none⟩) ∧ s8 = .pointer (some ⟨b8, 0, none⟩) ∧ Below w.heap.size w wx ∧ b4 < b6 ∧ b6 < b8 ∧
      Row wx b2 23 (row4 (clampL a) (clampL b) (clampL c) (clampL d)) ∧ Row wx b3 23 (row4 (clampL x) (clampL y) (clampL z) (clampL u)) ∧ Row wx b4 23 (row4 0 0 0 0) ∧
      Row wx b6 23 (row4 (clampL a - clampL x) (clampL b - clampL y) (clampL c - clampL z) (clampL d)) ∧ Row wx b8 22 (row4 3 0 1 2))
    case first =>
      go_wp2_with fail
      go_meet
      refine ⟨_, _, rfl, rfl, ?_, ?_, ?_, ?_, ?_, ?_, ?_, ?_⟩
      · (repeat' (first | (with_reducible exact Below.refl _ _) | (with_reducible assumption) | (with_reducible refine Below.alloc ?_ ?_ _) | (with_reducible refine Below.drew ?_) | (with_reducible refine Below.drewN' ?_ _) | (with_reducible refine Below.setCell ?_ ?_ _) | go_size))
      · omega
      · omega
      · (apply Row.eq; (repeat (first | (with_reducible assumption) | (with_reducible apply Row.set) | (with_reducible apply Row.drew) | (with_reducible apply Row.drewN) | (with_reducible exact Row.new) | ((with_reducible apply Row.newAt); (focus (first | (with_reducible rfl) | (simp; done)))) | (with_reducible apply Row.alloc) | (with_reducible apply Row.far) | (dsimp only; omega) | rfl)))
      · (apply Row.eq; (repeat (first | (with_reducible assumption) | (with_reducible apply Row.set) | (with_reducible apply Row.drew) | (with_reducible apply Row.drewN) | (with_reducible exact Row.new) | ((with_reducible apply Row.newAt); (focus (first | (with_reducible rfl) | (simp; done)))) | (with_reducible apply Row.alloc) | (with_reducible apply Row.far) | (dsimp only; omega) | rfl)))
      · (apply Row.eq; (repeat (first | (with_reducible assumption) | (with_reducible apply Row.set) | (with_reducible apply Row.drew) | (with_reducible apply Row.drewN) | (with_reducible exact Row.new) | ((with_reducible apply Row.newAt); (focus (first | (with_reducible rfl) | (simp; done)))) | (with_reducible apply Row.alloc) | (with_reducible apply Row.far) | (dsimp only; omega) | rfl)))
      · exact ((Row.new).alloc _).drew.drew.drew
      · exact (Row.newAt (by simp)).drew.drew.drew
    obtain ⟨b6, b8, rfl, rfl, hbw, h6, h8, r2, r3, r4, r6, r8⟩ := hcut
    obtain ⟨c2, f2, z2⟩ := r2.open
    obtain ⟨c3, f3, z3⟩ := r3.open
    obtain ⟨c4, f4, z4⟩ := r4.open
    obtain ⟨c6, f6, z6⟩ := r6.open
    obtain ⟨c8, f8, z8⟩ := r8.open
    go_wp2_with fail
    go_quiet ((go_at_call 12; exact Calls.quiet_of_same ((total_any (clampL a - clampL x) (clampL b - clampL y) (clampL c - clampL z) (clampL d) _ _ _ (r6.drewN _) (r8.drewN _) (by omega) (by omega) (by omega) (by omega)).mono (fun _ _ h => ⟨h.1, h.2.symm⟩))))
    go_wp2_with fail
    · refine bodyPost_row_tmp (v2 := .int .i64 13) rfl rfl (load4 (A := clampL a) (B := clampL b) (C := clampL c) (D := clampL d) ?_) rfl rfl ⟨?_, ?_⟩
      · (apply Row.eq; (repeat (first | (with_reducible assumption) | (with_reducible apply Row.set) | (with_reducible apply Row.drew) | (with_reducible apply Row.drewN) | (with_reducible exact Row.new) | ((with_reducible apply Row.newAt); (focus (first | (with_reducible rfl) | (simp; done)))) | (with_reducible apply Row.alloc) | (with_reducible apply Row.far) | (dsimp only; omega) | rfl)))
      · simp [payL, *]
      · (repeat' (first | (with_reducible exact Below.refl _ _) | (with_reducible assumption) | (with_reducible refine Below.alloc ?_ ?_ _) | (with_reducible refine Below.drew ?_) | (with_reducible refine Below.drewN' ?_ _) | (with_reducible refine Below.setCell ?_ ?_ _) | go_size))
    have ix0 : ∀ w, (Instr.index 22 (.agg (row4 3 0 1 2)) (.int .i64 0)).run Try.prog w = .ok (.int .i64 3) w := fun _ => by kernel_rfl
    have ix1 : ∀ w, (Instr.index 22 (.agg (row4 3 0 1 2)) (.int .i64 1)).run Try.prog w = .ok (.int .i64 0) w := fun _ => by kernel_rfl
    have ix2 : ∀ w, (Instr.index 22 (.agg (row4 3 0 1 2)) (.int .i64 2)).run Try.prog w = .ok (.int .i64 1) w := fun _ => by kernel_rfl
    have ix3 : ∀ w, (Instr.index 22 (.agg (row4 3 0 1 2)) (.int .i64 3)).run Try.prog w = .ok (.int .i64 2) w := fun _ => by kernel_rfl
    go_wp2_with fail
    refine wp_loop_rounds 5 ?_
    repeat any_goals (first | (rw [rounds_succ]; go_wp2_with fail) | (go_region; all_goals go_wp2_with fail))
    have hp : payL (clampL a) (clampL b) (clampL c) (clampL d) (clampL x) (clampL y) (clampL z) (clampL u) = ((clampL a - clampL x - min (clampL a - clampL x) (clampL u - min (clampL d) (clampL u)), clampL b - clampL y - min (clampL b - clampL y) (clampL u - min (clampL d) (clampL u) - min (clampL a - clampL x) (clampL u - min (clampL d) (clampL u))), clampL c - clampL z - min (clampL c - clampL z) (clampL u - min (clampL d) (clampL u) - min (clampL a - clampL x) (clampL u - min (clampL d) (clampL u)) - min (clampL b - clampL y) (clampL u - min (clampL d) (clampL u) - min (clampL a - clampL x) (clampL u - min (clampL d) (clampL u)))), clampL d - min (clampL d) (clampL u)), 0) := by
      unfold payL
      rw [if_neg (by omega), if_neg (by omega), if_neg (by omega), if_neg (by omega)]
    refine bodyPost_row_tmp (v2 := .int .i64 0) rfl rfl (load4 (A := clampL a - clampL x - min (clampL a - clampL x) (clampL u - min (clampL d) (clampL u))) (B := clampL b - clampL y - min (clampL b - clampL y) (clampL u - min (clampL d) (clampL u) - min (clampL a - clampL x) (clampL u - min (clampL d) (clampL u)))) (C := clampL c - clampL z - min (clampL c - clampL z) (clampL u - min (clampL d) (clampL u) - min (clampL a - clampL x) (clampL u - min (clampL d) (clampL u)) - min (clampL b - clampL y) (clampL u - min (clampL d) (clampL u) - min (clampL a - clampL x) (clampL u - min (clampL d) (clampL u))))) (D := clampL d - min (clampL d) (clampL u)) ?_) rfl rfl ⟨?_, ?_⟩
    · (apply Row.eq; (repeat (first | (with_reducible assumption) | (with_reducible apply Row.set) | (with_reducible apply Row.drew) | (with_reducible apply Row.drewN) | (with_reducible exact Row.new) | ((with_reducible apply Row.newAt); (focus (first | (with_reducible rfl) | (simp; done)))) | (with_reducible apply Row.alloc) | (with_reducible apply Row.far) | (dsimp only; omega) | rfl)))
    · rw [hp]
    · (repeat' (first | (with_reducible exact Below.refl _ _) | (with_reducible assumption) | (with_reducible refine Below.alloc ?_ ?_ _) | (with_reducible refine Below.drew ?_) | (with_reducible refine Below.drewN' ?_ _) | (with_reducible refine Below.setCell ?_ ?_ _) | go_size))
  all_goals
    refine bodyPost_row_tmp (v2 := .int .i64 13) rfl rfl (load4 (A := clampL a) (B := clampL b) (C := clampL c) (D := clampL d) ?_) rfl rfl ⟨?_, ?_⟩
    · (apply Row.eq; (repeat (first | (with_reducible assumption) | (with_reducible apply Row.set) | (with_reducible apply Row.drew) | (with_reducible apply Row.drewN) | (with_reducible exact Row.new) | ((with_reducible apply Row.newAt); (focus (first | (with_reducible rfl) | (simp; done)))) | (with_reducible apply Row.alloc) | (with_reducible apply Row.far) | (dsimp only; omega) | rfl)))
    · simp [payL, *]
    · (repeat' (first | (with_reducible exact Below.refl _ _) | (with_reducible assumption) | (with_reducible refine Below.alloc ?_ ?_ _) | (with_reducible refine Below.drew ?_) | (with_reducible refine Below.drewN' ?_ _) | (with_reducible refine Below.setCell ?_ ?_ _) | go_size))

end Go.Proofs.Ytilnghebkpcblaa
