import Derived.Test.YtilnghebkpcblaaA3
namespace Go.Proofs.Ytilnghebkpcblaa
open Go.RowKit
attribute [local go_sem ↓] Go.wp_at_zero Go.wp_at_succ

abbrev payC (a b c d x y z u : Int) : (Int × Int × Int × Int) × Int := payL (clampL a) (clampL b) (clampL c) (clampL d) (clampL x) (clampL y) (clampL z) (clampL u)

set_option maxHeartbeats 1000000 in
theorem can_any (a b c d x y z u : Int) (w : World) :
    Calls Try.prog 8 #[mana4 a b c d, mana4 x y z u] w fun e w' =>
      e = .returned (.bool ((payC a b c d x y z u).2 == 0)) ∧ Below w.heap.size w w' := by
  go_enter Try.func8, Try.ntmps8
  go_wp2_with (go_at_call 7; refine (pay_any _ _ _ _ _ _ _ _ _).mono ?_; rintro e w1 ⟨rfl, hb1⟩)
  go_ret
  refine ⟨rfl, ?_⟩
  have h2 := (Below.refl w.heap.size w).alloc (Nat.le_refl _) (.cells (row4 a b c d) 23)
  have h3 := h2.alloc (by simp) (.cells (row4 x y z u) 23)
  have h4 := h3.after hb1
  have := h4.size
  (repeat' (first | (with_reducible exact Below.refl _ _) | (with_reducible assumption) | (with_reducible refine Below.alloc ?_ ?_ _) | (with_reducible refine Below.drew ?_) | (with_reducible refine Below.drewN' ?_ _) | (with_reducible refine Below.setCell ?_ ?_ _) | go_size))

def addL (a : Int) (n : Int) : Int := clampL (clampL a + min (max n (-999)) 999)
def addV (a b c d color n : Int) : Value :=
  if color = 0 then mana4 (addL a n) (clampL b) (clampL c) (clampL d) else if color = 1 then mana4 (clampL a) (addL b n) (clampL c) (clampL d)
  else if color = 2 then mana4 (clampL a) (clampL b) (addL c n) (clampL d) else if color = 3 then mana4 (clampL a) (clampL b) (clampL c) (addL d n)
  else mana4 (clampL a) (clampL b) (clampL c) (clampL d)

set_option maxHeartbeats 2000000 in
theorem add_any (a b c d color n : Int) (w : World) :
    Calls Try.prog 10 #[mana4 a b c d, .int .i64 color, .int .i64 n] w fun e w' =>
      e = .returned (addV a b c d color n) ∧ Below w.heap.size w w' := by
  have bA := clampL_bd a
  have bB := clampL_bd b
  have bC := clampL_bd c
  have bD := clampL_bd d
  go_enter Try.func10, Try.ntmps10
  go_upto_region 1 with fail
  go_cut [3, 6] (fun s3 s6 wx => ∃ b3 b6 : Nat, s3 = .pointer (some ⟨b3, 0, none⟩) ∧ s6 = .pointer (some ⟨b6, 0, none⟩) ∧ Below w.heap.size w wx ∧ w.heap.size ≤ b3 ∧ b3 < b6 ∧
     Row wx b3 23 (row4 (clampL a) (clampL b) (clampL c) (clampL d)) ∧ Row wx b6 23 (row4 0 0 0 0))
  case first =>
    have r3 : Row ((w.alloc (.cells (row4 a b c d) 23)).alloc (.cells (row4 0 0 0 0) 23)) w.heap.size 23 (row4 a b c d) := Row.new.alloc _
    have r6 : Row ((w.alloc (.cells (row4 a b c d) 23)).alloc (.cells (row4 0 0 0 0) 23)) (w.heap.size + 1) 23 (row4 0 0 0 0) := Row.newAt (by simp)
    have hbw : Below w.heap.size w ((w.alloc (.cells (row4 a b c d) 23)).alloc (.cells (row4 0 0 0 0) 23)) := by (repeat' (first | (with_reducible exact Below.refl _ _) | (with_reducible assumption) | (with_reducible refine Below.alloc ?_ ?_ _) | (with_reducible refine Below.drew ?_) | (with_reducible refine Below.drewN' ?_ _) | (with_reducible refine Below.setCell ?_ ?_ _) | go_size))
    go_wp2_with (go_at_call 11; refine (sound_any _ _ _ _ _).mono ?_; rintro e w1 ⟨rfl, hb1⟩; replace hbw := hbw.after hb1; replace r3 := r3.belowd hb1; replace r6 := r6.belowd hb1; obtain ⟨c3, f3, z3⟩ := r3.open; obtain ⟨c6, f6, z6⟩ := r6.open)
    go_meet
    refine ⟨_, _, rfl, rfl, ?_, ?_, ?_, ?_, ?_⟩
    · (repeat' (first | (with_reducible exact Below.refl _ _) | (with_reducible assumption) | (with_reducible refine Below.alloc ?_ ?_ _) | (with_reducible refine Below.drew ?_) | (with_reducible refine Below.drewN' ?_ _) | (with_reducible refine Below.setCell ?_ ?_ _) | go_size))
    · omega
    · omega
    · (apply Row.eq; (repeat (first | (with_reducible assumption) | (with_reducible apply Row.set) | (with_reducible apply Row.drew) | (with_reducible apply Row.drewN) | (with_reducible exact Row.new) | ((with_reducible apply Row.newAt); (focus (first | (with_reducible rfl) | (simp; done)))) | (with_reducible apply Row.alloc) | (with_reducible apply Row.far) | (dsimp only; omega) | rfl)))
    · (apply Row.eq; (repeat (first | (with_reducible assumption) | (with_reducible apply Row.set) | (with_reducible apply Row.drew) | (with_reducible apply Row.drewN) | (with_reducible exact Row.new) | ((with_reducible apply Row.newAt); (focus (first | (with_reducible rfl) | (simp; done)))) | (with_reducible apply Row.alloc) | (with_reducible apply Row.far) | (dsimp only; omega) | rfl)))
  obtain ⟨b3, b6, rfl, rfl, hbw, h3, h6, r3, r6⟩ := hcut
  obtain ⟨c3, f3, z3⟩ := r3.open
  obtain ⟨c6, f6, z6⟩ := r6.open
  rcases (show color = 0 ∨ color = 1 ∨ color = 2 ∨ color = 3 ∨ color < 0 ∨ 4 ≤ color by omega) with h | h | h | h | h | h
  · subst h
    go_wp2_with (go_at_call 14; refine (within_any _ _).mono ?_; rintro e w' ⟨rfl, rfl⟩)
    refine bodyPost_row rfl rfl (load4 (A := addL a n) (B := clampL b) (C := clampL c) (D := clampL d) ?_) rfl ⟨?_, ?_⟩
    · (apply Row.eq; (repeat (first | (with_reducible assumption) | (with_reducible apply Row.set) | (with_reducible apply Row.drew) | (with_reducible apply Row.drewN) | (with_reducible exact Row.new) | ((with_reducible apply Row.newAt); (focus (first | (with_reducible rfl) | (simp; done)))) | (with_reducible apply Row.alloc) | (with_reducible apply Row.far) | (dsimp only; omega) | rfl)))
    · simp [addV]
    · (repeat' (first | (with_reducible exact Below.refl _ _) | (with_reducible assumption) | (with_reducible refine Below.alloc ?_ ?_ _) | (with_reducible refine Below.drew ?_) | (with_reducible refine Below.drewN' ?_ _) | (with_reducible refine Below.setCell ?_ ?_ _) | go_size))
  · subst h
    go_wp2_with (go_at_call 14; refine (within_any _ _).mono ?_; rintro e w' ⟨rfl, rfl⟩)
    refine bodyPost_row rfl rfl (load4 (A := clampL a) (B := addL b n) (C := clampL c) (D := clampL d) ?_) rfl ⟨?_, ?_⟩
    · (apply Row.eq; (repeat (first | (with_reducible assumption) | (with_reducible apply Row.set) | (with_reducible apply Row.drew) | (with_reducible apply Row.drewN) | (with_reducible exact Row.new) | ((with_reducible apply Row.newAt); (focus (first | (with_reducible rfl) | (simp; done)))) | (with_reducible apply Row.alloc) | (with_reducible apply Row.far) | (dsimp only; omega) | rfl)))
    · simp [addV]
    · (repeat' (first | (with_reducible exact Below.refl _ _) | (with_reducible assumption) | (with_reducible refine Below.alloc ?_ ?_ _) | (with_reducible refine Below.drew ?_) | (with_reducible refine Below.drewN' ?_ _) | (with_reducible refine Below.setCell ?_ ?_ _) | go_size))
  · subst h
    go_wp2_with (go_at_call 14; refine (within_any _ _).mono ?_; rintro e w' ⟨rfl, rfl⟩)
    refine bodyPost_row rfl rfl (load4 (A := clampL a) (B := clampL b) (C := addL c n) (D := clampL d) ?_) rfl ⟨?_, ?_⟩
    · (apply Row.eq; (repeat (first | (with_reducible assumption) | (with_reducible apply Row.set) | (with_reducible apply Row.drew) | (with_reducible apply Row.drewN) | (with_reducible exact Row.new) | ((with_reducible apply Row.newAt); (focus (first | (with_reducible rfl) | (simp; done)))) | (with_reducible apply Row.alloc) | (with_reducible apply Row.far) | (dsimp only; omega) | rfl)))
    · simp [addV]
    · (repeat' (first | (with_reducible exact Below.refl _ _) | (with_reducible assumption) | (with_reducible refine Below.alloc ?_ ?_ _) | (with_reducible refine Below.drew ?_) | (with_reducible refine Below.drewN' ?_ _) | (with_reducible refine Below.setCell ?_ ?_ _) | go_size))
  · subst h
    go_wp2_with (go_at_call 14; refine (within_any _ _).mono ?_; rintro e w' ⟨rfl, rfl⟩)
    refine bodyPost_row rfl rfl (load4 (A := clampL a) (B := clampL b) (C := clampL c) (D := addL d n) ?_) rfl ⟨?_, ?_⟩
    · (apply Row.eq; (repeat (first | (with_reducible assumption) | (with_reducible apply Row.set) | (with_reducible apply Row.drew) | (with_reducible apply Row.drewN) | (with_reducible exact Row.new) | ((with_reducible apply Row.newAt); (focus (first | (with_reducible rfl) | (simp; done)))) | (with_reducible apply Row.alloc) | (with_reducible apply Row.far) | (dsimp only; omega) | rfl)))
    · simp [addV]
    · (repeat' (first | (with_reducible exact Below.refl _ _) | (with_reducible assumption) | (with_reducible refine Below.alloc ?_ ?_ _) | (with_reducible refine Below.drew ?_) | (with_reducible refine Below.drewN' ?_ _) | (with_reducible refine Below.setCell ?_ ?_ _) | go_size))
  all_goals
    go_wp2_with (go_at_call 14; refine (within_any _ _).mono ?_; rintro e w' ⟨rfl, rfl⟩)
    refine bodyPost_row rfl rfl (load4 (A := clampL a) (B := clampL b) (C := clampL c) (D := clampL d) ?_) rfl ⟨?_, ?_⟩
    · (apply Row.eq; (repeat (first | (with_reducible assumption) | (with_reducible apply Row.set) | (with_reducible apply Row.drew) | (with_reducible apply Row.drewN) | (with_reducible exact Row.new) | ((with_reducible apply Row.newAt); (focus (first | (with_reducible rfl) | (simp; done)))) | (with_reducible apply Row.alloc) | (with_reducible apply Row.far) | (dsimp only; omega) | rfl)))
    · unfold addV; rw [if_neg (by omega), if_neg (by omega), if_neg (by omega), if_neg (by omega)]
    · (repeat' (first | (with_reducible exact Below.refl _ _) | (with_reducible assumption) | (with_reducible refine Below.alloc ?_ ?_ _) | (with_reducible refine Below.drew ?_) | (with_reducible refine Below.drewN' ?_ _) | (with_reducible refine Below.setCell ?_ ?_ _) | go_size))

end Go.Proofs.Ytilnghebkpcblaa
