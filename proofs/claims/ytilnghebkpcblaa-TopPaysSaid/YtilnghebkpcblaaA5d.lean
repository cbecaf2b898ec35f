import Derived.Test.YtilnghebkpcblaaA5c
namespace Go.Proofs.Ytilnghebkpcblaa
open Go.RowKit
attribute [local go_sem ↓] Go.wp_at_zero Go.wp_at_succ

set_option maxRecDepth 100000 in
set_option maxHeartbeats 4000000 in
theorem paid_any (a b c d x y z u color n : Int) (w : World) :
    Calls Try.prog 4 #[mana4 a b c d, mana4 x y z u, .int .i64 color, .int .i64 n] w fun e w' =>
      e = .returned (.bool true) ∧ Below w.heap.size w w' := by
  have bA := clampL_bd a
  have bB := clampL_bd b
  have bC := clampL_bd c
  have bD := clampL_bd d
  have bX := clampL_bd x
  have bY := clampL_bd y
  have bZ := clampL_bd z
  have bU := clampL_bd u
  go_enter Try.func4, Try.ntmps4
  go_upto_region 0 with fail
  go_cut [4, 5] (fun s4 s5 wx => ∃ b4 b5 : Nat, s4 = .pointer (some ⟨b4, 0, none⟩) ∧ s5 = .pointer (some ⟨b5, 0, none⟩) ∧ Below w.heap.size w wx ∧ w.heap.size ≤ b4 ∧ b4 < b5 ∧
     Row wx b4 23 (row4 a b c d) ∧ Row wx b5 23 (row4 x y z u))
  case first =>
    go_wp2_with fail
    go_meet
    refine ⟨_, _, rfl, rfl, ?_, ?_, ?_, ?_, ?_⟩
    · (repeat' (first | (with_reducible exact Below.refl _ _) | (with_reducible assumption) | (with_reducible refine Below.alloc ?_ ?_ _) | (with_reducible refine Below.drew ?_) | (with_reducible refine Below.drewN' ?_ _) | (with_reducible refine Below.setCell ?_ ?_ _) | go_size))
    · omega
    · omega
    · exact Row.new.alloc _
    · exact (Row.newAt (by simp))
  obtain ⟨b4, b5, rfl, rfl, hbw, h4, h5, r4, r5⟩ := hcut
  obtain ⟨c4, f4, z4⟩ := r4.open
  obtain ⟨c5, f5, z5⟩ := r5.open
  go_upto_region 1 with fail
  go_cut [9, 10] (fun s9 s10 wx => ∃ b9 b10 : Nat, s9 = .pointer (some ⟨b9, 0, none⟩) ∧ s10 = .pointer (some ⟨b10, 0, none⟩) ∧ Below w.heap.size w wx ∧ b5 < b9 ∧ b5 < b10 ∧ b9 ≠ b10 ∧
     Row wx b4 23 (row4 a b c d) ∧ Row wx b5 23 (row4 x y z u) ∧ 
     Row wx b9 23 (row4 (clampL a) (clampL b) (clampL c) (clampL d)) ∧ Row wx b10 23 (row4 (clampL x) (clampL y) (clampL z) (clampL u)))
  case first =>
    go_region_held3 (fun w' => (w'.cell? ⟨b4, 0, none⟩ = some (.int .i64 a) ∧ w'.cell? ⟨b4, 1, none⟩ = some (.int .i64 b) ∧ w'.cell? ⟨b4, 2, none⟩ = some (.int .i64 c) ∧ w'.cell? ⟨b4, 3, none⟩ = some (.int .i64 d)) ∧ w'.cell? ⟨b5, 0, none⟩ = some (.int .i64 x) ∧ w'.cell? ⟨b5, 1, none⟩ = some (.int .i64 y) ∧ w'.cell? ⟨b5, 2, none⟩ = some (.int .i64 z) ∧ w'.cell? ⟨b5, 3, none⟩ = some (.int .i64 u))
      (first | go_keep | ((refine ⟨Row.cells4 (T := 23) ?_, Row.cells4 (T := 23) ?_⟩); (focus ((apply Row.eq; (repeat (first | (with_reducible assumption) | (with_reducible apply Row.set) | (with_reducible apply Row.drew) | (with_reducible apply Row.drewN) | (with_reducible exact Row.new) | ((with_reducible apply Row.newAt); (focus (first | (with_reducible rfl) | (simp; done)))) | (with_reducible apply Row.alloc) | (with_reducible apply Row.far) | (dsimp only; omega) | rfl))); done)); (focus ((apply Row.eq; (repeat (first | (with_reducible assumption) | (with_reducible apply Row.set) | (with_reducible apply Row.drew) | (with_reducible apply Row.drewN) | (with_reducible exact Row.new) | ((with_reducible apply Row.newAt); (focus (first | (with_reducible rfl) | (simp; done)))) | (with_reducible apply Row.alloc) | (with_reducible apply Row.far) | (dsimp only; omega) | rfl))); done))))
      (first
        | (go_at_call_of 6 (Value.agg #[Value.int IntKind.i64 a, Value.int IntKind.i64 b, Value.int IntKind.i64 c, Value.int IntKind.i64 d]); go_loud (refine (clamped_any _ _ _ _ _).mono ?_; rintro e w1 ⟨rfl, hb1⟩; have hbw' : Below w.heap.size w w1 := Below.trans ?_ ((hb1).mono ?_); rotate_left; (focus ((repeat' (first | (with_reducible exact Below.refl _ _) | (with_reducible assumption) | (with_reducible refine Below.alloc ?_ ?_ _) | (with_reducible refine Below.drew ?_) | (with_reducible refine Below.drewN' ?_ _) | (with_reducible refine Below.setCell ?_ ?_ _) | go_size)); done)); (focus (have := hbw.size; go_size)); have r4' : Row w1 b4 23 (row4 a b c d) := Row.below' hb1 ?_; rotate_left; (focus ((apply Row.eq; (repeat (first | (with_reducible assumption) | (with_reducible apply Row.set) | (with_reducible apply Row.drew) | (with_reducible apply Row.drewN) | (with_reducible exact Row.new) | ((with_reducible apply Row.newAt); (focus (first | (with_reducible rfl) | (simp; done)))) | (with_reducible apply Row.alloc) | (with_reducible apply Row.far) | (dsimp only; omega) | rfl))); done)); have r5' : Row w1 b5 23 (row4 x y z u) := Row.below' hb1 ?_; rotate_left; (focus ((apply Row.eq; (repeat (first | (with_reducible assumption) | (with_reducible apply Row.set) | (with_reducible apply Row.drew) | (with_reducible apply Row.drewN) | (with_reducible exact Row.new) | ((with_reducible apply Row.newAt); (focus (first | (with_reducible rfl) | (simp; done)))) | (with_reducible apply Row.alloc) | (with_reducible apply Row.far) | (dsimp only; omega) | rfl))); done)); replace hbw := hbw'; replace r4 := r4'; replace r5 := r5'; clear hbw' r4' r5'; obtain ⟨c4, f4, z4⟩ := r4.open; obtain ⟨c5, f5, z5⟩ := r5.open; (try (have rn : Row w1 (wc.heap.size) 23 (row4 0 0 0 0) := Row.below' hb1 ?_; rotate_left; (focus ((apply Row.eq; (repeat (first | (with_reducible assumption) | (with_reducible apply Row.set) | (with_reducible apply Row.drew) | (with_reducible apply Row.drewN) | (with_reducible exact Row.new) | ((with_reducible apply Row.newAt); (focus (first | (with_reducible rfl) | (simp; done)))) | (with_reducible apply Row.alloc) | (with_reducible apply Row.far) | (dsimp only; omega) | rfl))); done)); obtain ⟨cn, fn, zn⟩ := rn.open)); (try (have rn : Row w1 (wc.heap.size + 1) 23 (row4 0 0 0 0) := Row.below' hb1 ?_; rotate_left; (focus ((apply Row.eq; (repeat (first | (with_reducible assumption) | (with_reducible apply Row.set) | (with_reducible apply Row.drew) | (with_reducible apply Row.drewN) | (with_reducible exact Row.new) | ((with_reducible apply Row.newAt); (focus (first | (with_reducible rfl) | (simp; done)))) | (with_reducible apply Row.alloc) | (with_reducible apply Row.far) | (dsimp only; omega) | rfl))); done)); obtain ⟨cn, fn, zn⟩ := rn.open))))
        | (go_at_call_of 6 (Value.agg #[Value.int IntKind.i64 x, Value.int IntKind.i64 y, Value.int IntKind.i64 z, Value.int IntKind.i64 u]); refine (clamped_any _ _ _ _ _).mono ?_; rintro e w2 ⟨rfl, hb2⟩; have hbw' : Below w.heap.size w w2 := Below.trans ?_ ((hb2).mono ?_); rotate_left; (focus ((repeat' (first | (with_reducible exact Below.refl _ _) | (with_reducible assumption) | (with_reducible refine Below.alloc ?_ ?_ _) | (with_reducible refine Below.drew ?_) | (with_reducible refine Below.drewN' ?_ _) | (with_reducible refine Below.setCell ?_ ?_ _) | go_size)); done)); (focus (have := hbw.size; go_size)); have r4' : Row w2 b4 23 (row4 a b c d) := Row.below' hb2 ?_; rotate_left; (focus ((apply Row.eq; (repeat (first | (with_reducible assumption) | (with_reducible apply Row.set) | (with_reducible apply Row.drew) | (with_reducible apply Row.drewN) | (with_reducible exact Row.new) | ((with_reducible apply Row.newAt); (focus (first | (with_reducible rfl) | (simp; done)))) | (with_reducible apply Row.alloc) | (with_reducible apply Row.far) | (dsimp only; omega) | rfl))); done)); have r5' : Row w2 b5 23 (row4 x y z u) := Row.below' hb2 ?_; rotate_left; (focus ((apply Row.eq; (repeat (first | (with_reducible assumption) | (with_reducible apply Row.set) | (with_reducible apply Row.drew) | (with_reducible apply Row.drewN) | (with_reducible exact Row.new) | ((with_reducible apply Row.newAt); (focus (first | (with_reducible rfl) | (simp; done)))) | (with_reducible apply Row.alloc) | (with_reducible apply Row.far) | (dsimp only; omega) | rfl))); done)); replace hbw := hbw'; replace r4 := r4'; replace r5 := r5'; clear hbw' r4' r5'; obtain ⟨c4, f4, z4⟩ := r4.open; obtain ⟨c5, f5, z5⟩ := r5.open; (try (have rn : Row w2 (wc.heap.size) 23 (row4 0 0 0 0) := Row.below' hb2 ?_; rotate_left; (focus ((apply Row.eq; (repeat (first | (with_reducible assumption) | (with_reducible apply Row.set) | (with_reducible apply Row.drew) | (with_reducible apply Row.drewN) | (with_reducible exact Row.new) | ((with_reducible apply Row.newAt); (focus (first | (with_reducible rfl) | (simp; done)))) | (with_reducible apply Row.alloc) | (with_reducible apply Row.far) | (dsimp only; omega) | rfl))); done)); obtain ⟨cn, fn, zn⟩ := rn.open)); (try (have rn : Row w2 (wc.heap.size + 1) 23 (row4 0 0 0 0) := Row.below' hb2 ?_; rotate_left; (focus ((apply Row.eq; (repeat (first | (with_reducible assumption) | (with_reducible apply Row.set) | (with_reducible apply Row.drew) | (with_reducible apply Row.drewN) | (with_reducible exact Row.new) | ((with_reducible apply Row.newAt); (focus (first | (with_reducible rfl) | (simp; done)))) | (with_reducible apply Row.alloc) | (with_reducible apply Row.far) | (dsimp only; omega) | rfl))); done)); obtain ⟨cn, fn, zn⟩ := rn.open)); (try (have rn : Row w2 (w1.heap.size) 23 (row4 0 0 0 0) := Row.below' hb2 ?_; rotate_left; (focus ((apply Row.eq; (repeat (first | (with_reducible assumption) | (with_reducible apply Row.set) | (with_reducible apply Row.drew) | (with_reducible apply Row.drewN) | (with_reducible exact Row.new) | ((with_reducible apply Row.newAt); (focus (first | (with_reducible rfl) | (simp; done)))) | (with_reducible apply Row.alloc) | (with_reducible apply Row.far) | (dsimp only; omega) | rfl))); done)); obtain ⟨cn, fn, zn⟩ := rn.open)); (try (have rn : Row w2 (w1.heap.size + 1) 23 (row4 0 0 0 0) := Row.below' hb2 ?_; rotate_left; (focus ((apply Row.eq; (repeat (first | (with_reducible assumption) | (with_reducible apply Row.set) | (with_reducible apply Row.drew) | (with_reducible apply Row.drewN) | (with_reducible exact Row.new) | ((with_reducible apply Row.newAt); (focus (first | (with_reducible rfl) | (simp; done)))) | (with_reducible apply Row.alloc) | (with_reducible apply Row.far) | (dsimp only; omega) | rfl))); done)); obtain ⟨cn, fn, zn⟩ := rn.open))))
    all_goals
      go_wp2_with fail
      go_meet
      refine ⟨_, _, rfl, rfl, ?_, ?_, ?_, ?_, ?_, ?_, ?_, ?_⟩
      · (repeat' (first | (with_reducible exact Below.refl _ _) | (with_reducible assumption) | (with_reducible refine Below.alloc ?_ ?_ _) | (with_reducible refine Below.drew ?_) | (with_reducible refine Below.drewN' ?_ _) | (with_reducible refine Below.setCell ?_ ?_ _) | go_size))
      · omega
      · omega
      · omega
      · (apply Row.eq; (repeat (first | (with_reducible assumption) | (with_reducible apply Row.set) | (with_reducible apply Row.drew) | (with_reducible apply Row.drewN) | (with_reducible exact Row.new) | ((with_reducible apply Row.newAt); (focus (first | (with_reducible rfl) | (simp; done)))) | (with_reducible apply Row.alloc) | (with_reducible apply Row.far) | (dsimp only; omega) | rfl)))
      · (apply Row.eq; (repeat (first | (with_reducible assumption) | (with_reducible apply Row.set) | (with_reducible apply Row.drew) | (with_reducible apply Row.drewN) | (with_reducible exact Row.new) | ((with_reducible apply Row.newAt); (focus (first | (with_reducible rfl) | (simp; done)))) | (with_reducible apply Row.alloc) | (with_reducible apply Row.far) | (dsimp only; omega) | rfl)))
      · (apply Row.eq; (repeat (first | (with_reducible assumption) | (with_reducible apply Row.set) | (with_reducible apply Row.drew) | (with_reducible apply Row.drewN) | (with_reducible exact Row.new) | ((with_reducible apply Row.newAt); (focus (first | (with_reducible rfl) | (simp; done)))) | (with_reducible apply Row.alloc) | (with_reducible apply Row.far) | (dsimp only; omega) | rfl)))
      · (apply Row.eq; (repeat (first | (with_reducible assumption) | (with_reducible apply Row.set) | (with_reducible apply Row.drew) | (with_reducible apply Row.drewN) | (with_reducible exact Row.new) | ((with_reducible apply Row.newAt); (focus (first | (with_reducible rfl) | (simp; done)))) | (with_reducible apply Row.alloc) | (with_reducible apply Row.far) | (dsimp only; omega) | rfl)))
  obtain ⟨b9, b10, rfl, rfl, hbw, h9, h10, h910, r4, r5, r9, r10⟩ := hcut
  obtain ⟨c4, f4, z4⟩ := r4.open
  obtain ⟨c5, f5, z5⟩ := r5.open
  obtain ⟨c9, f9, z9⟩ := r9.open
  obtain ⟨c10, f10, z10⟩ := r10.open
  go_upto_region 2 with fail
  go_cut [11, 12] (fun s11 s12 wx => s11 = .bool true ∧ ∃ b12 : Nat, s12 = .pointer (some ⟨b12, 0, none⟩) ∧ b9 < b12 ∧ b10 < b12 ∧ Below w.heap.size w wx ∧ Row wx b4 23 (row4 a b c d) ∧ Row wx b5 23 (row4 x y z u) ∧ Row wx b9 23 (row4 (clampL a) (clampL b) (clampL c) (clampL d)) ∧ Row wx b10 23 (row4 (clampL x) (clampL y) (clampL z) (clampL u)) ∧ Row wx b12 23 (row4 (clampL a) (clampL b) (clampL c) (clampL d)))
  case first =>
    go_region
    all_goals
      go_wp2_with fail
      go_meet
      refine ⟨rfl, _, rfl, ?_, ?_, ?_, ?_, ?_, ?_, ?_, ?_⟩
      · omega
      · omega
      · (repeat' (first | (with_reducible exact Below.refl _ _) | (with_reducible assumption) | (with_reducible refine Below.alloc ?_ ?_ _) | (with_reducible refine Below.drew ?_) | (with_reducible refine Below.drewN' ?_ _) | (with_reducible refine Below.setCell ?_ ?_ _) | go_size))
      · (apply Row.eq; (repeat (first | (with_reducible assumption) | (with_reducible apply Row.set) | (with_reducible apply Row.drew) | (with_reducible apply Row.drewN) | (with_reducible exact Row.new) | ((with_reducible apply Row.newAt); (focus (first | (with_reducible rfl) | (simp; done)))) | (with_reducible apply Row.alloc) | (with_reducible apply Row.far) | (dsimp only; omega) | rfl)))
      · (apply Row.eq; (repeat (first | (with_reducible assumption) | (with_reducible apply Row.set) | (with_reducible apply Row.drew) | (with_reducible apply Row.drewN) | (with_reducible exact Row.new) | ((with_reducible apply Row.newAt); (focus (first | (with_reducible rfl) | (simp; done)))) | (with_reducible apply Row.alloc) | (with_reducible apply Row.far) | (dsimp only; omega) | rfl)))
      · (apply Row.eq; (repeat (first | (with_reducible assumption) | (with_reducible apply Row.set) | (with_reducible apply Row.drew) | (with_reducible apply Row.drewN) | (with_reducible exact Row.new) | ((with_reducible apply Row.newAt); (focus (first | (with_reducible rfl) | (simp; done)))) | (with_reducible apply Row.alloc) | (with_reducible apply Row.far) | (dsimp only; omega) | rfl)))
      · (apply Row.eq; (repeat (first | (with_reducible assumption) | (with_reducible apply Row.set) | (with_reducible apply Row.drew) | (with_reducible apply Row.drewN) | (with_reducible exact Row.new) | ((with_reducible apply Row.newAt); (focus (first | (with_reducible rfl) | (simp; done)))) | (with_reducible apply Row.alloc) | (with_reducible apply Row.far) | (dsimp only; omega) | rfl)))
      · (apply Row.eq; (repeat (first | (with_reducible assumption) | (with_reducible apply Row.set) | (with_reducible apply Row.drew) | (with_reducible apply Row.drewN) | (with_reducible exact Row.new) | ((with_reducible apply Row.newAt); (focus (first | (with_reducible rfl) | (simp; done)))) | (with_reducible apply Row.alloc) | (with_reducible apply Row.far) | (dsimp only; omega) | rfl)))
  obtain ⟨rfl, b12, rfl, h9x, h10x, hbw, r4, r5, r9, r10, r12⟩ := hcut
  obtain ⟨c4, f4, z4⟩ := r4.open
  obtain ⟨c5, f5, z5⟩ := r5.open
  obtain ⟨c9, f9, z9⟩ := r9.open
  obtain ⟨c10, f10, z10⟩ := r10.open
  obtain ⟨c12, f12, z12⟩ := r12.open
  go_upto_block 0 with fail
  go_cut [11, 12] (fun s11 s12 wx => ∃ i : Bool, s11 = .bool i ∧ i = decide (0 ≤ clampL a - clampL x ∧ 0 ≤ clampL b - clampL y ∧ 0 ≤ clampL c - clampL z) ∧ s12 = .pointer (some ⟨b12, 0, none⟩) ∧ Below w.heap.size w wx ∧ Row wx b4 23 (row4 a b c d) ∧ Row wx b5 23 (row4 x y z u) ∧ Row wx b9 23 (row4 (clampL a) (clampL b) (clampL c) (clampL d)) ∧ Row wx b10 23 (row4 (clampL x) (clampL y) (clampL z) (clampL u)) ∧ Row wx b12 23 (row4 (clampL a - clampL x) (clampL b - clampL y) (clampL c - clampL z) (clampL d)))
  case first =>
    go_wp2_with fail
    refine wp_loop_rounds 4 ?_
    repeat any_goals (first | (rw [rounds_succ]; go_wp2_with fail) | (go_region; all_goals go_wp2_with fail))
    all_goals
      go_meet
      refine ⟨_, rfl, ?_, rfl, ?_, ?_, ?_, ?_, ?_, ?_⟩
      · (first | rfl | (rw [Bool.eq_iff_iff]; simp; omega) | (simp; omega) | (simp; done))
      · (repeat' (first | (with_reducible exact Below.refl _ _) | (with_reducible assumption) | (with_reducible refine Below.alloc ?_ ?_ _) | (with_reducible refine Below.drew ?_) | (with_reducible refine Below.drewN' ?_ _) | (with_reducible refine Below.setCell ?_ ?_ _) | go_size))
      · (apply Row.eq; (repeat (first | (with_reducible assumption) | (with_reducible apply Row.set) | (with_reducible apply Row.drew) | (with_reducible apply Row.drewN) | (with_reducible exact Row.new) | ((with_reducible apply Row.newAt); (focus (first | (with_reducible rfl) | (simp; done)))) | (with_reducible apply Row.alloc) | (with_reducible apply Row.far) | (dsimp only; omega) | rfl)))
      · (apply Row.eq; (repeat (first | (with_reducible assumption) | (with_reducible apply Row.set) | (with_reducible apply Row.drew) | (with_reducible apply Row.drewN) | (with_reducible exact Row.new) | ((with_reducible apply Row.newAt); (focus (first | (with_reducible rfl) | (simp; done)))) | (with_reducible apply Row.alloc) | (with_reducible apply Row.far) | (dsimp only; omega) | rfl)))
      · (apply Row.eq; (repeat (first | (with_reducible assumption) | (with_reducible apply Row.set) | (with_reducible apply Row.drew) | (with_reducible apply Row.drewN) | (with_reducible exact Row.new) | ((with_reducible apply Row.newAt); (focus (first | (with_reducible rfl) | (simp; done)))) | (with_reducible apply Row.alloc) | (with_reducible apply Row.far) | (dsimp only; omega) | rfl)))
      · (apply Row.eq; (repeat (first | (with_reducible assumption) | (with_reducible apply Row.set) | (with_reducible apply Row.drew) | (with_reducible apply Row.drewN) | (with_reducible exact Row.new) | ((with_reducible apply Row.newAt); (focus (first | (with_reducible rfl) | (simp; done)))) | (with_reducible apply Row.alloc) | (with_reducible apply Row.far) | (dsimp only; omega) | rfl)))
      · (apply Row.eq; (repeat (first | (with_reducible assumption) | (with_reducible apply Row.set) | (with_reducible apply Row.drew) | (with_reducible apply Row.drewN) | (with_reducible exact Row.new) | ((with_reducible apply Row.newAt); (focus (first | (with_reducible rfl) | (simp; done)))) | (with_reducible apply Row.alloc) | (with_reducible apply Row.far) | (dsimp only; omega) | rfl)))
  obtain ⟨i, rfl, hi, rfl, hbw, r4, r5, r9, r10, r12⟩ := hcut
  obtain ⟨c4, f4, z4⟩ := r4.open
  obtain ⟨c5, f5, z5⟩ := r5.open
  obtain ⟨c9, f9, z9⟩ := r9.open
  obtain ⟨c10, f10, z10⟩ := r10.open
  obtain ⟨c12, f12, z12⟩ := r12.open
  go_upto_region 8 with fail
  go_cut [11] (fun s11 wx => ∃ j : Bool, s11 = .bool j ∧ (j = true ↔ (payC a b c d x y z u).2 = 0) ∧ (j = true → 0 ≤ clampL a - clampL x ∧ 0 ≤ clampL b - clampL y ∧ 0 ≤ clampL c - clampL z) ∧ Below w.heap.size w wx ∧ Row wx b4 23 (row4 a b c d) ∧ Row wx b5 23 (row4 x y z u) ∧ Row wx b9 23 (row4 (clampL a) (clampL b) (clampL c) (clampL d)) ∧ Row wx b10 23 (row4 (clampL x) (clampL y) (clampL z) (clampL u)) ∧ Row wx b12 23 (row4 (clampL a - clampL x) (clampL b - clampL y) (clampL c - clampL z) (clampL d)))
  case first =>
    cases i
    · have hi' : ¬ (0 ≤ clampL a - clampL x ∧ 0 ≤ clampL b - clampL y ∧ 0 ≤ clampL c - clampL z) := of_decide_eq_false hi.symm
      clear hi
      go_wp2_with fail
      go_meet
      refine ⟨_, rfl, ?_, ?_, ?_, ?_, ?_, ?_, ?_, ?_⟩
      · rw [payC_ok]; simp; omega
      · simp
      · (repeat' (first | (with_reducible exact Below.refl _ _) | (with_reducible assumption) | (with_reducible refine Below.alloc ?_ ?_ _) | (with_reducible refine Below.drew ?_) | (with_reducible refine Below.drewN' ?_ _) | (with_reducible refine Below.setCell ?_ ?_ _) | go_size))
      · (apply Row.eq; (repeat (first | (with_reducible assumption) | (with_reducible apply Row.set) | (with_reducible apply Row.drew) | (with_reducible apply Row.drewN) | (with_reducible exact Row.new) | ((with_reducible apply Row.newAt); (focus (first | (with_reducible rfl) | (simp; done)))) | (with_reducible apply Row.alloc) | (with_reducible apply Row.far) | (dsimp only; omega) | rfl)))
      · (apply Row.eq; (repeat (first | (with_reducible assumption) | (with_reducible apply Row.set) | (with_reducible apply Row.drew) | (with_reducible apply Row.drewN) | (with_reducible exact Row.new) | ((with_reducible apply Row.newAt); (focus (first | (with_reducible rfl) | (simp; done)))) | (with_reducible apply Row.alloc) | (with_reducible apply Row.far) | (dsimp only; omega) | rfl)))
      · (apply Row.eq; (repeat (first | (with_reducible assumption) | (with_reducible apply Row.set) | (with_reducible apply Row.drew) | (with_reducible apply Row.drewN) | (with_reducible exact Row.new) | ((with_reducible apply Row.newAt); (focus (first | (with_reducible rfl) | (simp; done)))) | (with_reducible apply Row.alloc) | (with_reducible apply Row.far) | (dsimp only; omega) | rfl)))
      · (apply Row.eq; (repeat (first | (with_reducible assumption) | (with_reducible apply Row.set) | (with_reducible apply Row.drew) | (with_reducible apply Row.drewN) | (with_reducible exact Row.new) | ((with_reducible apply Row.newAt); (focus (first | (with_reducible rfl) | (simp; done)))) | (with_reducible apply Row.alloc) | (with_reducible apply Row.far) | (dsimp only; omega) | rfl)))
      · (apply Row.eq; (repeat (first | (with_reducible assumption) | (with_reducible apply Row.set) | (with_reducible apply Row.drew) | (with_reducible apply Row.drewN) | (with_reducible exact Row.new) | ((with_reducible apply Row.newAt); (focus (first | (with_reducible rfl) | (simp; done)))) | (with_reducible apply Row.alloc) | (with_reducible apply Row.far) | (dsimp only; omega) | rfl)))
    · have hi' : 0 ≤ clampL a - clampL x ∧ 0 ≤ clampL b - clampL y ∧ 0 ≤ clampL c - clampL z := of_decide_eq_true hi.symm
      clear hi
      obtain ⟨i1, i2, i3⟩ := hi'
      go_wp2_with fail
      go_meet
      refine ⟨_, rfl, ?_, ?_, ?_, ?_, ?_, ?_, ?_, ?_⟩
      · rw [payC_ok]; simp; omega
      · exact fun _ => ⟨i1, i2, i3⟩
      · (repeat' (first | (with_reducible exact Below.refl _ _) | (with_reducible assumption) | (with_reducible refine Below.alloc ?_ ?_ _) | (with_reducible refine Below.drew ?_) | (with_reducible refine Below.drewN' ?_ _) | (with_reducible refine Below.setCell ?_ ?_ _) | go_size))
      · (apply Row.eq; (repeat (first | (with_reducible assumption) | (with_reducible apply Row.set) | (with_reducible apply Row.drew) | (with_reducible apply Row.drewN) | (with_reducible exact Row.new) | ((with_reducible apply Row.newAt); (focus (first | (with_reducible rfl) | (simp; done)))) | (with_reducible apply Row.alloc) | (with_reducible apply Row.far) | (dsimp only; omega) | rfl)))
      · (apply Row.eq; (repeat (first | (with_reducible assumption) | (with_reducible apply Row.set) | (with_reducible apply Row.drew) | (with_reducible apply Row.drewN) | (with_reducible exact Row.new) | ((with_reducible apply Row.newAt); (focus (first | (with_reducible rfl) | (simp; done)))) | (with_reducible apply Row.alloc) | (with_reducible apply Row.far) | (dsimp only; omega) | rfl)))
      · (apply Row.eq; (repeat (first | (with_reducible assumption) | (with_reducible apply Row.set) | (with_reducible apply Row.drew) | (with_reducible apply Row.drewN) | (with_reducible exact Row.new) | ((with_reducible apply Row.newAt); (focus (first | (with_reducible rfl) | (simp; done)))) | (with_reducible apply Row.alloc) | (with_reducible apply Row.far) | (dsimp only; omega) | rfl)))
      · (apply Row.eq; (repeat (first | (with_reducible assumption) | (with_reducible apply Row.set) | (with_reducible apply Row.drew) | (with_reducible apply Row.drewN) | (with_reducible exact Row.new) | ((with_reducible apply Row.newAt); (focus (first | (with_reducible rfl) | (simp; done)))) | (with_reducible apply Row.alloc) | (with_reducible apply Row.far) | (dsimp only; omega) | rfl)))
      · (apply Row.eq; (repeat (first | (with_reducible assumption) | (with_reducible apply Row.set) | (with_reducible apply Row.drew) | (with_reducible apply Row.drewN) | (with_reducible exact Row.new) | ((with_reducible apply Row.newAt); (focus (first | (with_reducible rfl) | (simp; done)))) | (with_reducible apply Row.alloc) | (with_reducible apply Row.far) | (dsimp only; omega) | rfl)))
  obtain ⟨j, rfl, hj, hj2, hbw, r4, r5, r9, r10, r12⟩ := hcut
  obtain ⟨c4, f4, z4⟩ := r4.open
  obtain ⟨c5, f5, z5⟩ := r5.open
  obtain ⟨c9, f9, z9⟩ := r9.open
  obtain ⟨c10, f10, z10⟩ := r10.open
  obtain ⟨c12, f12, z12⟩ := r12.open
  go_upto_region 9 with fail
  go_cut [14, 15] (fun s14 s15 wx => ∃ b14 : Nat, s14 = .pointer (some ⟨b14, 0, none⟩) ∧ s15 = .int .i64 13 ∧ b12 < b14 ∧ Below w.heap.size w wx ∧ Row wx b4 23 (row4 a b c d) ∧ Row wx b5 23 (row4 x y z u) ∧ Row wx b9 23 (row4 (clampL a) (clampL b) (clampL c) (clampL d)) ∧ Row wx b10 23 (row4 (clampL x) (clampL y) (clampL z) (clampL u)) ∧ Row wx b12 23 (row4 (clampL a - clampL x) (clampL b - clampL y) (clampL c - clampL z) (clampL d)) ∧ Row wx b14 23 (row4 (clampL a) (clampL b) (clampL c) (clampL d)))
  case first =>
    go_wp2_with fail
    go_meet
    refine ⟨_, rfl, rfl, ?_, ?_, ?_, ?_, ?_, ?_, ?_, ?_⟩
    · omega
    · (repeat' (first | (with_reducible exact Below.refl _ _) | (with_reducible assumption) | (with_reducible refine Below.alloc ?_ ?_ _) | (with_reducible refine Below.drew ?_) | (with_reducible refine Below.drewN' ?_ _) | (with_reducible refine Below.setCell ?_ ?_ _) | go_size))
    · (apply Row.eq; (repeat (first | (with_reducible assumption) | (with_reducible apply Row.set) | (with_reducible apply Row.drew) | (with_reducible apply Row.drewN) | (with_reducible exact Row.new) | ((with_reducible apply Row.newAt); (focus (first | (with_reducible rfl) | (simp; done)))) | (with_reducible apply Row.alloc) | (with_reducible apply Row.far) | (dsimp only; omega) | rfl)))
    · (apply Row.eq; (repeat (first | (with_reducible assumption) | (with_reducible apply Row.set) | (with_reducible apply Row.drew) | (with_reducible apply Row.drewN) | (with_reducible exact Row.new) | ((with_reducible apply Row.newAt); (focus (first | (with_reducible rfl) | (simp; done)))) | (with_reducible apply Row.alloc) | (with_reducible apply Row.far) | (dsimp only; omega) | rfl)))
    · (apply Row.eq; (repeat (first | (with_reducible assumption) | (with_reducible apply Row.set) | (with_reducible apply Row.drew) | (with_reducible apply Row.drewN) | (with_reducible exact Row.new) | ((with_reducible apply Row.newAt); (focus (first | (with_reducible rfl) | (simp; done)))) | (with_reducible apply Row.alloc) | (with_reducible apply Row.far) | (dsimp only; omega) | rfl)))
    · (apply Row.eq; (repeat (first | (with_reducible assumption) | (with_reducible apply Row.set) | (with_reducible apply Row.drew) | (with_reducible apply Row.drewN) | (with_reducible exact Row.new) | ((with_reducible apply Row.newAt); (focus (first | (with_reducible rfl) | (simp; done)))) | (with_reducible apply Row.alloc) | (with_reducible apply Row.far) | (dsimp only; omega) | rfl)))
    · (apply Row.eq; (repeat (first | (with_reducible assumption) | (with_reducible apply Row.set) | (with_reducible apply Row.drew) | (with_reducible apply Row.drewN) | (with_reducible exact Row.new) | ((with_reducible apply Row.newAt); (focus (first | (with_reducible rfl) | (simp; done)))) | (with_reducible apply Row.alloc) | (with_reducible apply Row.far) | (dsimp only; omega) | rfl)))
    · (apply Row.eq; (repeat (first | (with_reducible assumption) | (with_reducible apply Row.set) | (with_reducible apply Row.drew) | (with_reducible apply Row.drewN) | (with_reducible exact Row.new) | ((with_reducible apply Row.newAt); (focus (first | (with_reducible rfl) | (simp; done)))) | (with_reducible apply Row.alloc) | (with_reducible apply Row.far) | (dsimp only; omega) | rfl)))
  obtain ⟨b14, rfl, rfl, h14, hbw, r4, r5, r9, r10, r12, r14⟩ := hcut
  go_step
  refine wp_code_eq (c' := fromR 10 body4) (by kernel_rfl) ?_
  go_big_unhide
  exact seg10 h4 h5 h9 h10 h910 hbw r4 r5 r9 r10 hj hj2 h9x h10x h14 r12 r14

end Go.Proofs.Ytilnghebkpcblaa
