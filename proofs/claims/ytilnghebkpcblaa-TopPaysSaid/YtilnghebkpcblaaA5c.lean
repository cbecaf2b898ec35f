import Derived.Test.YtilnghebkpcblaaA5b
namespace Go.Proofs.Ytilnghebkpcblaa
open Go.RowKit
attribute [local go_sem ↓] Go.wp_at_zero Go.wp_at_succ

set_option maxRecDepth 100000 in
set_option maxHeartbeats 4000000 in
theorem seg10 {a b c d x y z u color n : Int} {w wc : World} {b4 b5 b9 b10 : Nat} {b12 b14 : Nat} {j : Bool} {u6 u7 u8 u13 u16 u17 u18 u19 u20 u21 u22 u23 u24 u25 u26 u27 u28 u29 u30 u31 u32 u33 u34 u35 u36 u37 u38 u39 u40 u41 u42 u43 u44 u45 u46 u47 u48 u49 u50 u51 u52 u53 u54 u55 u56 u57 u58 u59 u60 u61 u62 u63 u64 u65 u66 u67 u68 u69 u70 u71 u72 u73 u74 u75 u76 u77 u78 u79 u80 u81 u82 u83 u84 u85 u86 u87 u88 u89 u90 u91 u92 u93 u94 u95 u96 u97 u98 u99 u100 u101 u102 u103 u104 u105 u106 u107 u108 u109 u110 u111 u112 u113 u114 u115 u116 u117 u118 u119 u120 u121 u122 u123 u124 u125 u126 u127 u128 u129 u130 u131 u132 u133 u134 u135 u136 u137 u138 u139 u140 u141 u142 u143 u144 u145 u146 u147 u148 u149 u150 u151 u152 u153 u154 u155 u156 u157 u158 u159 u160 u161 u162 u163 u164 u165 u166 u167 u168 u169 u170 u171 u172 u173 u174 u175 u176 u177 u178 u179 u180 : Value}
    (h4 : w.heap.size ≤ b4) (h5 : b4 < b5) (h9 : b5 < b9) (h10 : b5 < b10) (h910 : b9 ≠ b10) (hbw : Below w.heap.size w wc) (r4 : Row wc b4 23 (row4 a b c d)) (r5 : Row wc b5 23 (row4 x y z u)) (r9 : Row wc b9 23 (row4 (clampL a) (clampL b) (clampL c) (clampL d))) (r10 : Row wc b10 23 (row4 (clampL x) (clampL y) (clampL z) (clampL u))) (hj : j = true ↔ (payC a b c d x y z u).2 = 0) (hj2 : j = true → 0 ≤ clampL a - clampL x ∧ 0 ≤ clampL b - clampL y ∧ 0 ≤ clampL c - clampL z) (h9x : b9 < b12) (h10x : b10 < b12) (h14 : b12 < b14) (r12 : Row wc b12 23 (row4 (clampL a - clampL x) (clampL b - clampL y) (clampL c - clampL z) (clampL d))) (r14 : Row wc b14 23 (row4 (clampL a) (clampL b) (clampL c) (clampL d))) :
    Code.wp Try.prog (fromR 10 body4) (bodyPost Try.prog Try.f4 (fun e w' => e = .returned (.bool true) ∧ Below w.heap.size w w')) ⟨List.toArray (mana4 a b c d :: mana4 x y z u :: .int .i64 color :: .int .i64 n :: .pointer (some ⟨b4, 0, none⟩) :: .pointer (some ⟨b5, 0, none⟩) :: u6 :: u7 :: u8 :: .pointer (some ⟨b9, 0, none⟩) :: .pointer (some ⟨b10, 0, none⟩) :: .bool j :: .pointer (some ⟨b12, 0, none⟩) :: u13 :: .pointer (some ⟨b14, 0, none⟩) :: .int .i64 13 :: u16 :: u17 :: u18 :: u19 :: u20 :: u21 :: u22 :: u23 :: u24 :: u25 :: u26 :: u27 :: u28 :: u29 :: u30 :: u31 :: u32 :: u33 :: u34 :: u35 :: u36 :: u37 :: u38 :: u39 :: u40 :: u41 :: u42 :: u43 :: u44 :: u45 :: u46 :: u47 :: u48 :: u49 :: u50 :: u51 :: u52 :: u53 :: u54 :: u55 :: u56 :: u57 :: u58 :: u59 :: u60 :: u61 :: u62 :: u63 :: u64 :: u65 :: u66 :: u67 :: u68 :: u69 :: u70 :: u71 :: u72 :: u73 :: u74 :: u75 :: u76 :: u77 :: u78 :: u79 :: u80 :: u81 :: u82 :: u83 :: u84 :: u85 :: u86 :: u87 :: u88 :: u89 :: u90 :: u91 :: u92 :: u93 :: u94 :: u95 :: u96 :: u97 :: u98 :: u99 :: u100 :: u101 :: u102 :: u103 :: u104 :: u105 :: u106 :: u107 :: u108 :: u109 :: u110 :: u111 :: u112 :: u113 :: u114 :: u115 :: u116 :: u117 :: u118 :: u119 :: u120 :: u121 :: u122 :: u123 :: u124 :: u125 :: u126 :: u127 :: u128 :: u129 :: u130 :: u131 :: u132 :: u133 :: u134 :: u135 :: u136 :: u137 :: u138 :: u139 :: u140 :: u141 :: u142 :: u143 :: u144 :: u145 :: u146 :: u147 :: u148 :: u149 :: u150 :: u151 :: u152 :: u153 :: u154 :: u155 :: u156 :: u157 :: u158 :: u159 :: u160 :: u161 :: u162 :: u163 :: u164 :: u165 :: u166 :: u167 :: u168 :: u169 :: u170 :: u171 :: u172 :: u173 :: u174 :: u175 :: u176 :: u177 :: u178 :: u179 :: u180 :: []), []⟩ wc := by
  have bA := clampL_bd a
  have bB := clampL_bd b
  have bC := clampL_bd c
  have bD := clampL_bd d
  have bX := clampL_bd x
  have bY := clampL_bd y
  have bZ := clampL_bd z
  have bU := clampL_bd u
  obtain ⟨c4, f4, z4⟩ := r4.open
  obtain ⟨c5, f5, z5⟩ := r5.open
  obtain ⟨c9, f9, z9⟩ := r9.open
  obtain ⟨c10, f10, z10⟩ := r10.open
  obtain ⟨c12, f12, z12⟩ := r12.open
  obtain ⟨c14, f14, z14⟩ := r14.open
  conv => arg 2; whnf
  go_upto_if 64 with fail
  go_cut [15, 16] (fun s15 _ wx => s15 = .int .i64 (payC a b c d x y z u).2 ∧ Below w.heap.size w wx ∧ Row wx b4 23 (row4 a b c d) ∧ Row wx b5 23 (row4 x y z u) ∧ Row wx b9 23 (row4 (clampL a) (clampL b) (clampL c) (clampL d)) ∧ Row wx b10 23 (row4 (clampL x) (clampL y) (clampL z) (clampL u)) ∧ Row wx b14 23 (rowT (payC a b c d x y z u).1))
  case first =>
    cases j
    · have hno := payC_no a b c d x y z u (by simpa using hj)
      go_wp2_with fail
      go_meet
      rw [hno]
      refine ⟨rfl, ?_, ?_, ?_, ?_, ?_, ?_⟩
      · (repeat' (first | (with_reducible exact Below.refl _ _) | (with_reducible assumption) | (with_reducible refine Below.alloc ?_ ?_ _) | (with_reducible refine Below.drew ?_) | (with_reducible refine Below.drewN' ?_ _) | (with_reducible refine Below.setCell ?_ ?_ _) | go_size))
      · (apply Row.eq; (repeat (first | (with_reducible assumption) | (with_reducible apply Row.set) | (with_reducible apply Row.drew) | (with_reducible apply Row.drewN) | (with_reducible exact Row.new) | ((with_reducible apply Row.newAt); (focus (first | (with_reducible rfl) | (simp; done)))) | (with_reducible apply Row.alloc) | (with_reducible apply Row.far) | (dsimp only; omega) | rfl)))
      · (apply Row.eq; (repeat (first | (with_reducible assumption) | (with_reducible apply Row.set) | (with_reducible apply Row.drew) | (with_reducible apply Row.drewN) | (with_reducible exact Row.new) | ((with_reducible apply Row.newAt); (focus (first | (with_reducible rfl) | (simp; done)))) | (with_reducible apply Row.alloc) | (with_reducible apply Row.far) | (dsimp only; omega) | rfl)))
      · (apply Row.eq; (repeat (first | (with_reducible assumption) | (with_reducible apply Row.set) | (with_reducible apply Row.drew) | (with_reducible apply Row.drewN) | (with_reducible exact Row.new) | ((with_reducible apply Row.newAt); (focus (first | (with_reducible rfl) | (simp; done)))) | (with_reducible apply Row.alloc) | (with_reducible apply Row.far) | (dsimp only; omega) | rfl)))
      · (apply Row.eq; (repeat (first | (with_reducible assumption) | (with_reducible apply Row.set) | (with_reducible apply Row.drew) | (with_reducible apply Row.drewN) | (with_reducible exact Row.new) | ((with_reducible apply Row.newAt); (focus (first | (with_reducible rfl) | (simp; done)))) | (with_reducible apply Row.alloc) | (with_reducible apply Row.far) | (dsimp only; omega) | rfl)))
      · (apply Row.eq; (repeat (first | (with_reducible assumption) | (with_reducible apply Row.set) | (with_reducible apply Row.drew) | (with_reducible apply Row.drewN) | (with_reducible exact Row.new) | ((with_reducible apply Row.newAt); (focus (first | (with_reducible rfl) | (simp; done)))) | (with_reducible apply Row.alloc) | (with_reducible apply Row.far) | (dsimp only; omega) | rfl)))
    · have hyes := payC_yes a b c d x y z u (by simpa using hj)
      obtain ⟨i1, i2, i3⟩ := hj2 rfl
      clear hj hj2
      have HY : Hid (payC a b c d x y z u = (tk (clampL a - clampL x) (clampL b - clampL y) (clampL c - clampL z) (clampL d) (clampL u), 0)) := hyes
      clear hyes
      have hz := tk_zero _ _ _ _ i1 i2 i3 bD.1
      have HZ : Hid (tk (clampL a - clampL x) (clampL b - clampL y) (clampL c - clampL z) (clampL d) 0 = (clampL a - clampL x, clampL b - clampL y, clampL c - clampL z, clampL d)) := hz
      clear hz
      have ix0 : ∀ w, (Instr.index 22 (.agg (row4 3 0 1 2)) (.int .i64 0)).run Try.prog w = .ok (.int .i64 3) w := fun _ => by kernel_rfl
      have ix1 : ∀ w, (Instr.index 22 (.agg (row4 3 0 1 2)) (.int .i64 1)).run Try.prog w = .ok (.int .i64 0) w := fun _ => by kernel_rfl
      have ix2 : ∀ w, (Instr.index 22 (.agg (row4 3 0 1 2)) (.int .i64 2)).run Try.prog w = .ok (.int .i64 1) w := fun _ => by kernel_rfl
      have ix3 : ∀ w, (Instr.index 22 (.agg (row4 3 0 1 2)) (.int .i64 3)).run Try.prog w = .ok (.int .i64 2) w := fun _ => by kernel_rfl
      go_wp2_with fail
      go_loopw [16] (fun v wr => ∃ t P Q R S : Int, 0 ≤ t ∧ t ≤ clampL u ∧ v = .int .i64 (clampL u - t) ∧ tk (clampL a - clampL x) (clampL b - clampL y) (clampL c - clampL z) (clampL d) t = (P, Q, R, S) ∧
          Below w.heap.size w wr ∧ Row wr b4 23 (row4 a b c d) ∧ Row wr b5 23 (row4 x y z u) ∧ Row wr b9 23 (row4 (clampL a) (clampL b) (clampL c) (clampL d)) ∧ Row wr b10 23 (row4 (clampL x) (clampL y) (clampL z) (clampL u)) ∧ Row wr b12 23 (row4 P Q R S) ∧ Row wr b14 23 (row4 (clampL a) (clampL b) (clampL c) (clampL d))) (fun v _ => (intOf v).toNat)
      case atStart => exact ⟨0, _, _, _, _, by omega, by omega, by simp, HZ.out, hbw, r4, r5, r9, r10, r12, r14⟩
      case round =>
        obtain ⟨t, P, Q, R, S, ht0, htU, rfl, hT, hbw, r4, r5, r9, r10, r12, r14⟩ := hrel
        obtain ⟨p1, p2, q1, q2, t1, t2, s1, s2⟩ := tk_bd hT ht0 i1 i2 i3 bD.1
        have HT : Hid (tk (clampL a - clampL x) (clampL b - clampL y) (clampL c - clampL z) (clampL d) t = (P, Q, R, S)) := hT
        clear hT
        obtain ⟨c12, f12, z12⟩ := r12.open
        obtain ⟨c10, f10, z10⟩ := r10.open
        obtain ⟨c14, f14, z14⟩ := r14.open
        by_cases hlt : t < clampL u
        · go_wp2_with fail
          refine wp_loop_rounds 5 ?_
          repeat any_goals (rw [rounds_succ]; go_wp2_with fail)
          all_goals
            go_roundw
            case rel =>
              refine ⟨t + 1, _, _, _, _, by omega, by omega, ?_, (by first | exact tk_3 HT.out ht0 i1 i2 i3 bD.1 (by omega) | exact tk_0 HT.out ht0 i1 i2 i3 bD.1 (by omega) (by omega) | exact tk_1 HT.out ht0 i1 i2 i3 bD.1 (by omega) (by omega) (by omega) | exact tk_2 HT.out ht0 i1 i2 i3 bD.1 (by omega) (by omega) (by omega) (by omega) | exact tk_no HT.out ht0 i1 i2 i3 bD.1 (by omega) (by omega) (by omega) (by omega)), ?_, ?_, ?_, ?_, ?_, ?_, ?_⟩
              · exact congrArg (Value.int .i64) (by omega)
              · (repeat' (first | (with_reducible exact Below.refl _ _) | (with_reducible assumption) | (with_reducible refine Below.alloc ?_ ?_ _) | (with_reducible refine Below.drew ?_) | (with_reducible refine Below.drewN' ?_ _) | (with_reducible refine Below.setCell ?_ ?_ _) | go_size))
              · (apply Row.eq; (repeat (first | (with_reducible assumption) | (with_reducible apply Row.set) | (with_reducible apply Row.drew) | (with_reducible apply Row.drewN) | (with_reducible exact Row.new) | ((with_reducible apply Row.newAt); (focus (first | (with_reducible rfl) | (simp; done)))) | (with_reducible apply Row.alloc) | (with_reducible apply Row.far) | (dsimp only; omega) | rfl)))
              · (apply Row.eq; (repeat (first | (with_reducible assumption) | (with_reducible apply Row.set) | (with_reducible apply Row.drew) | (with_reducible apply Row.drewN) | (with_reducible exact Row.new) | ((with_reducible apply Row.newAt); (focus (first | (with_reducible rfl) | (simp; done)))) | (with_reducible apply Row.alloc) | (with_reducible apply Row.far) | (dsimp only; omega) | rfl)))
              · (apply Row.eq; (repeat (first | (with_reducible assumption) | (with_reducible apply Row.set) | (with_reducible apply Row.drew) | (with_reducible apply Row.drewN) | (with_reducible exact Row.new) | ((with_reducible apply Row.newAt); (focus (first | (with_reducible rfl) | (simp; done)))) | (with_reducible apply Row.alloc) | (with_reducible apply Row.far) | (dsimp only; omega) | rfl)))
              · (apply Row.eq; (repeat (first | (with_reducible assumption) | (with_reducible apply Row.set) | (with_reducible apply Row.drew) | (with_reducible apply Row.drewN) | (with_reducible exact Row.new) | ((with_reducible apply Row.newAt); (focus (first | (with_reducible rfl) | (simp; done)))) | (with_reducible apply Row.alloc) | (with_reducible apply Row.far) | (dsimp only; omega) | rfl)))
              · (apply Row.eq; (repeat (first | (with_reducible assumption) | (with_reducible apply Row.set) | (with_reducible apply Row.drew) | (with_reducible apply Row.drewN) | (with_reducible exact Row.new) | ((with_reducible apply Row.newAt); (focus (first | (with_reducible rfl) | (simp; done)))) | (with_reducible apply Row.alloc) | (with_reducible apply Row.far) | (dsimp only; omega) | rfl)))
              · (apply Row.eq; (repeat (first | (with_reducible assumption) | (with_reducible apply Row.set) | (with_reducible apply Row.drew) | (with_reducible apply Row.drewN) | (with_reducible exact Row.new) | ((with_reducible apply Row.newAt); (focus (first | (with_reducible rfl) | (simp; done)))) | (with_reducible apply Row.alloc) | (with_reducible apply Row.far) | (dsimp only; omega) | rfl)))
            case measure => simp [intOf]; omega
        · obtain rfl : t = clampL u := by omega
          go_wp2_with fail
          go_meet
          rw [HY.out, HT.out]
          refine ⟨rfl, ?_, ?_, ?_, ?_, ?_, ?_⟩
          · (repeat' (first | (with_reducible exact Below.refl _ _) | (with_reducible assumption) | (with_reducible refine Below.alloc ?_ ?_ _) | (with_reducible refine Below.drew ?_) | (with_reducible refine Below.drewN' ?_ _) | (with_reducible refine Below.setCell ?_ ?_ _) | go_size))
          · (apply Row.eq; (repeat (first | (with_reducible assumption) | (with_reducible apply Row.set) | (with_reducible apply Row.drew) | (with_reducible apply Row.drewN) | (with_reducible exact Row.new) | ((with_reducible apply Row.newAt); (focus (first | (with_reducible rfl) | (simp; done)))) | (with_reducible apply Row.alloc) | (with_reducible apply Row.far) | (dsimp only; omega) | rfl)))
          · (apply Row.eq; (repeat (first | (with_reducible assumption) | (with_reducible apply Row.set) | (with_reducible apply Row.drew) | (with_reducible apply Row.drewN) | (with_reducible exact Row.new) | ((with_reducible apply Row.newAt); (focus (first | (with_reducible rfl) | (simp; done)))) | (with_reducible apply Row.alloc) | (with_reducible apply Row.far) | (dsimp only; omega) | rfl)))
          · (apply Row.eq; (repeat (first | (with_reducible assumption) | (with_reducible apply Row.set) | (with_reducible apply Row.drew) | (with_reducible apply Row.drewN) | (with_reducible exact Row.new) | ((with_reducible apply Row.newAt); (focus (first | (with_reducible rfl) | (simp; done)))) | (with_reducible apply Row.alloc) | (with_reducible apply Row.far) | (dsimp only; omega) | rfl)))
          · (apply Row.eq; (repeat (first | (with_reducible assumption) | (with_reducible apply Row.set) | (with_reducible apply Row.drew) | (with_reducible apply Row.drewN) | (with_reducible exact Row.new) | ((with_reducible apply Row.newAt); (focus (first | (with_reducible rfl) | (simp; done)))) | (with_reducible apply Row.alloc) | (with_reducible apply Row.far) | (dsimp only; omega) | rfl)))
          · (apply Row.eq; (repeat (first | (with_reducible assumption) | (with_reducible apply Row.set) | (with_reducible apply Row.drew) | (with_reducible apply Row.drewN) | (with_reducible exact Row.new) | ((with_reducible apply Row.newAt); (focus (first | (with_reducible rfl) | (simp; done)))) | (with_reducible apply Row.alloc) | (with_reducible apply Row.far) | (dsimp only; omega) | rfl)))
  obtain ⟨rfl, hbw, r4, r5, r9, r10, r14⟩ := hcut
  obtain ⟨c4, f4, z4⟩ := r4.open
  obtain ⟨c5, f5, z5⟩ := r5.open
  obtain ⟨c9, f9, z9⟩ := r9.open
  obtain ⟨c10, f10, z10⟩ := r10.open
  obtain ⟨c14, f14, z14⟩ := r14.open
  have hs1 := payC_sum a b c d x y z u
  have hs2 := payC_bd a b c d x y z u
  have hj' : j = ((payC a b c d x y z u).2 == 0) := by rw [Bool.eq_iff_iff]; simpa using hj
  clear hj hj2
  subst hj'
  generalize hP : payC a b c d x y z u = PC at *
  obtain ⟨⟨g1, g2, g3, g4⟩, E⟩ := PC
  dsimp only at hs1 hs2 r14
  obtain ⟨g1a, g1b, g2a, g2b, g3a, g3b, g4a, g4b⟩ := hs2
  have HP : Hid (payC a b c d x y z u = ((g1, g2, g3, g4), E)) := hP
  clear hP
  go_step
  refine wp_code_eq (c' := fromR 21 body4) (by kernel_rfl) ?_
  go_big_unhide
  exact seg21 (b12 := b12) h4 h5 h9 h10 h910 hbw r4 r5 r9 r10 r14 g1a g1b g2a g2b g3a g3b g4a g4b HP hs1 ⟨by omega, by omega⟩


end Go.Proofs.Ytilnghebkpcblaa
