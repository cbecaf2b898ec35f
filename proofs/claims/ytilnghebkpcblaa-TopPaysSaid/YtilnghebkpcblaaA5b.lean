import Derived.Test.YtilnghebkpcblaaA5a
namespace Go.Proofs.Ytilnghebkpcblaa
open Go.RowKit
attribute [local go_sem ↓] Go.wp_at_zero Go.wp_at_succ

set_option maxRecDepth 100000 in
set_option maxHeartbeats 4000000 in
theorem seg21 {a b c d x y z u color n : Int} {w wc : World} {b4 b5 b9 b10 : Nat} {b12 b14 : Nat} {g1 g2 g3 g4 E : Int} {u6 u7 u8 u12 u13 u16 u17 u18 u19 u20 u21 u22 u23 u24 u25 u26 u27 u28 u29 u30 u31 u32 u33 u34 u35 u36 u37 u38 u39 u40 u41 u42 u43 u44 u45 u46 u47 u48 u49 u50 u51 u52 u53 u54 u55 u56 u57 u58 u59 u60 u61 u62 u63 u64 u65 u66 u67 u68 u69 u70 u71 u72 u73 u74 u75 u76 u77 u78 u79 u80 u81 u82 u83 u84 u85 u86 u87 u88 u89 u90 u91 u92 u93 u94 u95 u96 u97 u98 u99 u100 u101 u102 u103 u104 u105 u106 u107 u108 u109 u110 u111 u112 u113 u114 u115 u116 u117 u118 u119 u120 u121 u122 u123 u124 u125 u126 u127 u128 u129 u130 u131 u132 u133 u134 u135 u136 u137 u138 u139 u140 u141 u142 u143 u144 u145 u146 u147 u148 u149 u150 u151 u152 u153 u154 u155 u156 u157 u158 u159 u160 u161 u162 u163 u164 u165 u166 u167 u168 u169 u170 u171 u172 u173 u174 u175 u176 u177 u178 u179 u180 : Value}
    (h4 : w.heap.size ≤ b4) (h5 : b4 < b5) (h9 : b5 < b9) (h10 : b5 < b10) (h910 : b9 ≠ b10) (hbw : Below w.heap.size w wc) (r4 : Row wc b4 23 (row4 a b c d)) (r5 : Row wc b5 23 (row4 x y z u)) (r9 : Row wc b9 23 (row4 (clampL a) (clampL b) (clampL c) (clampL d))) (r10 : Row wc b10 23 (row4 (clampL x) (clampL y) (clampL z) (clampL u))) (r14 : Row wc b14 23 (row4 g1 g2 g3 g4)) (g1a : 0 ≤ g1) (g1b : g1 ≤ 999) (g2a : 0 ≤ g2) (g2b : g2 ≤ 999) (g3a : 0 ≤ g3) (g3b : g3 ≤ 999) (g4a : 0 ≤ g4) (g4b : g4 ≤ 999) (HP : Hid (payC a b c d x y z u = ((g1, g2, g3, g4), E))) (hs1 : E = 0 → g1 + g2 + g3 + g4 + clampL x + clampL y + clampL z + clampL u = clampL a + clampL b + clampL c + clampL d) (h14 : b9 < b14 ∧ b10 < b14) :
    Code.wp Try.prog (fromR 21 body4) (bodyPost Try.prog Try.f4 (fun e w' => e = .returned (.bool true) ∧ Below w.heap.size w w')) ⟨List.toArray (mana4 a b c d :: mana4 x y z u :: .int .i64 color :: .int .i64 n :: .pointer (some ⟨b4, 0, none⟩) :: .pointer (some ⟨b5, 0, none⟩) :: u6 :: u7 :: u8 :: .pointer (some ⟨b9, 0, none⟩) :: .pointer (some ⟨b10, 0, none⟩) :: .bool (E == 0) :: u12 :: u13 :: .pointer (some ⟨b14, 0, none⟩) :: .int .i64 E :: u16 :: u17 :: u18 :: u19 :: u20 :: u21 :: u22 :: u23 :: u24 :: u25 :: u26 :: u27 :: u28 :: u29 :: u30 :: u31 :: u32 :: u33 :: u34 :: u35 :: u36 :: u37 :: u38 :: u39 :: u40 :: u41 :: u42 :: u43 :: u44 :: u45 :: u46 :: u47 :: u48 :: u49 :: u50 :: u51 :: u52 :: u53 :: u54 :: u55 :: u56 :: u57 :: u58 :: u59 :: u60 :: u61 :: u62 :: u63 :: u64 :: u65 :: u66 :: u67 :: u68 :: u69 :: u70 :: u71 :: u72 :: u73 :: u74 :: u75 :: u76 :: u77 :: u78 :: u79 :: u80 :: u81 :: u82 :: u83 :: u84 :: u85 :: u86 :: u87 :: u88 :: u89 :: u90 :: u91 :: u92 :: u93 :: u94 :: u95 :: u96 :: u97 :: u98 :: u99 :: u100 :: u101 :: u102 :: u103 :: u104 :: u105 :: u106 :: u107 :: u108 :: u109 :: u110 :: u111 :: u112 :: u113 :: u114 :: u115 :: u116 :: u117 :: u118 :: u119 :: u120 :: u121 :: u122 :: u123 :: u124 :: u125 :: u126 :: u127 :: u128 :: u129 :: u130 :: u131 :: u132 :: u133 :: u134 :: u135 :: u136 :: u137 :: u138 :: u139 :: u140 :: u141 :: u142 :: u143 :: u144 :: u145 :: u146 :: u147 :: u148 :: u149 :: u150 :: u151 :: u152 :: u153 :: u154 :: u155 :: u156 :: u157 :: u158 :: u159 :: u160 :: u161 :: u162 :: u163 :: u164 :: u165 :: u166 :: u167 :: u168 :: u169 :: u170 :: u171 :: u172 :: u173 :: u174 :: u175 :: u176 :: u177 :: u178 :: u179 :: u180 :: []), []⟩ wc := by
  have bA := clampL_bd a
  have bB := clampL_bd b
  have bC := clampL_bd c
  have bD := clampL_bd d
  have bX := clampL_bd x
  have bY := clampL_bd y
  have bZ := clampL_bd z
  have bU := clampL_bd u
  conv => arg 2; whnf
  obtain ⟨c4, f4, z4⟩ := r4.open
  obtain ⟨c5, f5, z5⟩ := r5.open
  have z9 := r9.lt
  have z10 := r10.lt
  have z14 := r14.lt
  go_upto_region 21 with fail
  go_cut [19, 20] (fun s19 s20 wx => ∃ b19 : Nat, s19 = .pointer (some ⟨b19, 0, none⟩) ∧ s20 = .int .i64 E ∧ b14 < b19 ∧ Below w.heap.size w wx ∧ Row wx b4 23 (row4 a b c d) ∧ Row wx b5 23 (row4 x y z u) ∧ Row wx b9 23 (row4 (clampL a) (clampL b) (clampL c) (clampL d)) ∧ Row wx b10 23 (row4 (clampL x) (clampL y) (clampL z) (clampL u)) ∧ Row wx b14 23 (row4 g1 g2 g3 g4) ∧ Row wx b19 23 (row4 g1 g2 g3 g4))
  case first =>
    go_wp2_with (go_at_call 7; refine (pay_any _ _ _ _ _ _ _ _ _).mono ?_; rintro e w1 ⟨rfl, hb1⟩; rw [show payL (clampL a) (clampL b) (clampL c) (clampL d) (clampL x) (clampL y) (clampL z) (clampL u) = ((g1, g2, g3, g4), E) from HP.out]; replace hbw := hbw.after hb1; replace r4 := r4.belowd hb1; replace r5 := r5.belowd hb1; replace r9 := r9.belowd hb1; replace r10 := r10.belowd hb1; replace r14 := r14.belowd hb1; have z14 := r14.lt)
    go_meet
    refine ⟨_, rfl, rfl, ?_, ?_, ?_, ?_, ?_, ?_, ?_, ?_⟩
    · omega
    · (repeat' (first | (with_reducible exact Below.refl _ _) | (with_reducible assumption) | (with_reducible refine Below.alloc ?_ ?_ _) | (with_reducible refine Below.drew ?_) | (with_reducible refine Below.drewN' ?_ _) | (with_reducible refine Below.setCell ?_ ?_ _) | go_size))
    · (apply Row.eq; (repeat (first | (with_reducible assumption) | (with_reducible apply Row.set) | (with_reducible apply Row.drew) | (with_reducible apply Row.drewN) | (with_reducible exact Row.new) | ((with_reducible apply Row.newAt); (focus (first | (with_reducible rfl) | (simp; done)))) | (with_reducible apply Row.alloc) | (with_reducible apply Row.far) | (dsimp only; omega) | rfl)))
    · (apply Row.eq; (repeat (first | (with_reducible assumption) | (with_reducible apply Row.set) | (with_reducible apply Row.drew) | (with_reducible apply Row.drewN) | (with_reducible exact Row.new) | ((with_reducible apply Row.newAt); (focus (first | (with_reducible rfl) | (simp; done)))) | (with_reducible apply Row.alloc) | (with_reducible apply Row.far) | (dsimp only; omega) | rfl)))
    · (apply Row.eq; (repeat (first | (with_reducible assumption) | (with_reducible apply Row.set) | (with_reducible apply Row.drew) | (with_reducible apply Row.drewN) | (with_reducible exact Row.new) | ((with_reducible apply Row.newAt); (focus (first | (with_reducible rfl) | (simp; done)))) | (with_reducible apply Row.alloc) | (with_reducible apply Row.far) | (dsimp only; omega) | rfl)))
    · (apply Row.eq; (repeat (first | (with_reducible assumption) | (with_reducible apply Row.set) | (with_reducible apply Row.drew) | (with_reducible apply Row.drewN) | (with_reducible exact Row.new) | ((with_reducible apply Row.newAt); (focus (first | (with_reducible rfl) | (simp; done)))) | (with_reducible apply Row.alloc) | (with_reducible apply Row.far) | (dsimp only; omega) | rfl)))
    · (apply Row.eq; (repeat (first | (with_reducible assumption) | (with_reducible apply Row.set) | (with_reducible apply Row.drew) | (with_reducible apply Row.drewN) | (with_reducible exact Row.new) | ((with_reducible apply Row.newAt); (focus (first | (with_reducible rfl) | (simp; done)))) | (with_reducible apply Row.alloc) | (with_reducible apply Row.far) | (dsimp only; omega) | rfl)))
    · (apply Row.eq; (repeat (first | (with_reducible assumption) | (with_reducible apply Row.set) | (with_reducible apply Row.drew) | (with_reducible apply Row.drewN) | (with_reducible exact Row.new) | ((with_reducible apply Row.newAt); (focus (first | (with_reducible rfl) | (simp; done)))) | (with_reducible apply Row.alloc) | (with_reducible apply Row.far) | (dsimp only; omega) | rfl)))
  obtain ⟨b19, rfl, rfl, h19, hbw, r4, r5, r9, r10, r14, r19⟩ := hcut
  obtain ⟨c4, f4, z4⟩ := r4.open
  obtain ⟨c5, f5, z5⟩ := r5.open
  obtain ⟨c9, f9, z9⟩ := r9.open
  obtain ⟨c10, f10, z10⟩ := r10.open
  obtain ⟨c14, f14, z14⟩ := r14.open
  obtain ⟨c19, f19, z19⟩ := r19.open
  go_upto_region 22 with fail
  go_upto_region 24 with (go_at_call 8; refine (can_any _ _ _ _ _ _ _ _ _).mono ?_; rintro e w1 ⟨rfl, hb1⟩; rw [HP.out]; replace hbw := hbw.after hb1; replace r4 := r4.belowd hb1; replace r5 := r5.belowd hb1; replace r9 := r9.belowd hb1; replace r10 := r10.belowd hb1; replace r14 := r14.belowd hb1; replace r19 := r19.belowd hb1; obtain ⟨c4, f4, z4⟩ := r4.open; obtain ⟨c5, f5, z5⟩ := r5.open; obtain ⟨c9, f9, z9⟩ := r9.open; obtain ⟨c10, f10, z10⟩ := r10.open; obtain ⟨c14, f14, z14⟩ := r14.open; obtain ⟨c19, f19, z19⟩ := r19.open)
  go_cut [11, 15, 20, 144] (fun s11 _ _ s144 wx => s144 = .bool false ∧ s11 = .bool (E == 0) ∧ Below w.heap.size w wx ∧ Row wx b4 23 (row4 a b c d) ∧ Row wx b5 23 (row4 x y z u) ∧ Row wx b9 23 (row4 (clampL a) (clampL b) (clampL c) (clampL d)) ∧ Row wx b10 23 (row4 (clampL x) (clampL y) (clampL z) (clampL u)))
  case first =>
    go_wp2_with fail
    all_goals
      go_meet
      refine ⟨?_, ?_, ?_, ?_, ?_, ?_, ?_⟩
      · first | rfl | (simp; done) | (simp; omega)
      · first | rfl | (simp [*]; done)
      · (repeat' (first | (with_reducible exact Below.refl _ _) | (with_reducible assumption) | (with_reducible refine Below.alloc ?_ ?_ _) | (with_reducible refine Below.drew ?_) | (with_reducible refine Below.drewN' ?_ _) | (with_reducible refine Below.setCell ?_ ?_ _) | go_size))
      · (apply Row.eq; (repeat (first | (with_reducible assumption) | (with_reducible apply Row.set) | (with_reducible apply Row.drew) | (with_reducible apply Row.drewN) | (with_reducible exact Row.new) | ((with_reducible apply Row.newAt); (focus (first | (with_reducible rfl) | (simp; done)))) | (with_reducible apply Row.alloc) | (with_reducible apply Row.far) | (dsimp only; omega) | rfl)))
      · (apply Row.eq; (repeat (first | (with_reducible assumption) | (with_reducible apply Row.set) | (with_reducible apply Row.drew) | (with_reducible apply Row.drewN) | (with_reducible exact Row.new) | ((with_reducible apply Row.newAt); (focus (first | (with_reducible rfl) | (simp; done)))) | (with_reducible apply Row.alloc) | (with_reducible apply Row.far) | (dsimp only; omega) | rfl)))
      · (apply Row.eq; (repeat (first | (with_reducible assumption) | (with_reducible apply Row.set) | (with_reducible apply Row.drew) | (with_reducible apply Row.drewN) | (with_reducible exact Row.new) | ((with_reducible apply Row.newAt); (focus (first | (with_reducible rfl) | (simp; done)))) | (with_reducible apply Row.alloc) | (with_reducible apply Row.far) | (dsimp only; omega) | rfl)))
      · (apply Row.eq; (repeat (first | (with_reducible assumption) | (with_reducible apply Row.set) | (with_reducible apply Row.drew) | (with_reducible apply Row.drewN) | (with_reducible exact Row.new) | ((with_reducible apply Row.newAt); (focus (first | (with_reducible rfl) | (simp; done)))) | (with_reducible apply Row.alloc) | (with_reducible apply Row.far) | (dsimp only; omega) | rfl)))
  clear r4 r5 r9 r10 r14 r19 c4 c5 c9 c10 c14 c19 f4 f5 f9 f10 f14 f19 z4 z5 z9 z10 z14 z19 hbw
  obtain ⟨rfl, rfl, hbw, r4, r5, r9, r10⟩ := hcut
  go_step
  go_step
  go_step
  go_step
  go_step
  refine wp_code_eq (c' := fromR 26 body4) (by kernel_rfl) ?_
  go_big_unhide
  exact seg26 h4 h5 h9 h10 h910 hbw r4 r5 r9 r10 HP


end Go.Proofs.Ytilnghebkpcblaa
