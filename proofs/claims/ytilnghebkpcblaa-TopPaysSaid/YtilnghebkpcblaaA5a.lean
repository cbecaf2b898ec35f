import Derived.Test.YtilnghebkpcblaaA7
import Derived.Test.YtilnghebkpcblaaA8
namespace Go.Proofs.Ytilnghebkpcblaa
open Go.RowKit
attribute [local go_sem ↓] Go.wp_at_zero Go.wp_at_succ


theorem wp_code_eq {P : Program} {c c' : Code} {Q : Exit → Act → World → Prop} {a : Act} {w : World} (h : c' = c) (hw : c'.wp P Q a w) : c.wp P Q a w := h ▸ hw
theorem payC_ok (a b c d x y z u : Int) : (payC a b c d x y z u).2 = 0 ↔ 0 ≤ clampL a - clampL x ∧ 0 ≤ clampL b - clampL y ∧ 0 ≤ clampL c - clampL z ∧ clampL u ≤ clampL a - clampL x + (clampL b - clampL y) + (clampL c - clampL z) + clampL d := by
  unfold payC payL
  split
  · simp; omega
  split
  · simp; omega
  split
  · simp; omega
  split
  · simp; omega
  · simp; omega
def tk (p q r s t : Int) : Int × Int × Int × Int :=
  (p - min p (t - min s t), q - min q (t - min s t - min p (t - min s t)),
    r - min r (t - min s t - min p (t - min s t) - min q (t - min s t - min p (t - min s t))), s - min s t)
theorem tk_zero (p q r s : Int) (hp : 0 ≤ p) (hq : 0 ≤ q) (hr : 0 ≤ r) (hs : 0 ≤ s) : tk p q r s 0 = (p, q, r, s) := by
  unfold tk
  simp only [Prod.mk.injEq]
  omega
theorem tk_bd {p q r s t P Q R S : Int} (h : tk p q r s t = (P, Q, R, S)) (ht : 0 ≤ t) (hp : 0 ≤ p) (hq : 0 ≤ q) (hr : 0 ≤ r) (hs : 0 ≤ s) :
    0 ≤ P ∧ P ≤ p ∧ 0 ≤ Q ∧ Q ≤ q ∧ 0 ≤ R ∧ R ≤ r ∧ 0 ≤ S ∧ S ≤ s := by
  unfold tk at h
  simp only [Prod.mk.injEq] at h
  omega
theorem tk_3 {p q r s t P Q R S : Int} (h : tk p q r s t = (P, Q, R, S)) (ht : 0 ≤ t) (hp : 0 ≤ p) (hq : 0 ≤ q) (hr : 0 ≤ r) (hs : 0 ≤ s) (h1 : 0 < S) : tk p q r s (t + 1) = (P, Q, R, S - 1) := by
  unfold tk at *
  simp only [Prod.mk.injEq] at *
  omega
theorem tk_0 {p q r s t P Q R S : Int} (h : tk p q r s t = (P, Q, R, S)) (ht : 0 ≤ t) (hp : 0 ≤ p) (hq : 0 ≤ q) (hr : 0 ≤ r) (hs : 0 ≤ s) (h1 : S ≤ 0) (h2 : 0 < P) : tk p q r s (t + 1) = (P - 1, Q, R, S) := by
  unfold tk at *
  simp only [Prod.mk.injEq] at *
  omega
theorem tk_1 {p q r s t P Q R S : Int} (h : tk p q r s t = (P, Q, R, S)) (ht : 0 ≤ t) (hp : 0 ≤ p) (hq : 0 ≤ q) (hr : 0 ≤ r) (hs : 0 ≤ s) (h1 : S ≤ 0) (h2 : P ≤ 0) (h3 : 0 < Q) : tk p q r s (t + 1) = (P, Q - 1, R, S) := by
  unfold tk at *
  simp only [Prod.mk.injEq] at *
  omega
theorem tk_2 {p q r s t P Q R S : Int} (h : tk p q r s t = (P, Q, R, S)) (ht : 0 ≤ t) (hp : 0 ≤ p) (hq : 0 ≤ q) (hr : 0 ≤ r) (hs : 0 ≤ s) (h1 : S ≤ 0) (h2 : P ≤ 0) (h3 : Q ≤ 0) (h4 : 0 < R) : tk p q r s (t + 1) = (P, Q, R - 1, S) := by
  unfold tk at *
  simp only [Prod.mk.injEq] at *
  omega
theorem tk_no {p q r s t P Q R S : Int} (h : tk p q r s t = (P, Q, R, S)) (ht : 0 ≤ t) (hp : 0 ≤ p) (hq : 0 ≤ q) (hr : 0 ≤ r) (hs : 0 ≤ s) (h1 : S ≤ 0) (h2 : P ≤ 0) (h3 : Q ≤ 0) (h4 : R ≤ 0) : tk p q r s (t + 1) = (P, Q, R, S) := by
  unfold tk at *
  simp only [Prod.mk.injEq] at *
  omega
theorem payC_yes (a b c d x y z u : Int) (h : (payC a b c d x y z u).2 = 0) : payC a b c d x y z u = (tk (clampL a - clampL x) (clampL b - clampL y) (clampL c - clampL z) (clampL d) (clampL u), 0) := by
  rw [payC_ok] at h
  unfold payC payL tk
  rw [if_neg (by omega), if_neg (by omega), if_neg (by omega), if_neg (by omega)]
theorem payC_no (a b c d x y z u : Int) (h : ¬ (payC a b c d x y z u).2 = 0) : payC a b c d x y z u = ((clampL a, clampL b, clampL c, clampL d), 13) := by
  rw [payC_ok] at h
  unfold payC payL
  split
  · rfl
  split
  · rfl
  split
  · rfl
  split
  · rfl
  · omega
theorem payC_sum (a b c d x y z u : Int) (h : (payC a b c d x y z u).2 = 0) : (payC a b c d x y z u).1.1 + (payC a b c d x y z u).1.2.1 + (payC a b c d x y z u).1.2.2.1 + (payC a b c d x y z u).1.2.2.2 + clampL x + clampL y + clampL z + clampL u = clampL a + clampL b + clampL c + clampL d := by
  rw [payC_yes a b c d x y z u h]
  rw [payC_ok] at h
  have := clampL_bd u
  simp only [tk]
  omega
theorem payC_bd (a b c d x y z u : Int) : 0 ≤ (payC a b c d x y z u).1.1 ∧ (payC a b c d x y z u).1.1 ≤ 999 ∧ 0 ≤ (payC a b c d x y z u).1.2.1 ∧ (payC a b c d x y z u).1.2.1 ≤ 999 ∧ 0 ≤ (payC a b c d x y z u).1.2.2.1 ∧ (payC a b c d x y z u).1.2.2.1 ≤ 999 ∧ 0 ≤ (payC a b c d x y z u).1.2.2.2 ∧ (payC a b c d x y z u).1.2.2.2 ≤ 999 := by
  have := clampL_bd a
  have := clampL_bd b
  have := clampL_bd c
  have := clampL_bd d
  have := clampL_bd x
  have := clampL_bd y
  have := clampL_bd z
  have := clampL_bd u
  by_cases h : (payC a b c d x y z u).2 = 0
  · rw [payC_yes a b c d x y z u h]
    rw [payC_ok] at h
    simp only [tk]
    omega
  · rw [payC_no a b c d x y z u h]
    simp only
    omega
abbrev rowT (t : Int × Int × Int × Int) : Array Value := row4 t.1 t.2.1 t.2.2.1 t.2.2.2
def addT (a b c d color n : Int) : Int × Int × Int × Int :=
  if color = 0 then (addL a n, clampL b, clampL c, clampL d) else if color = 1 then (clampL a, addL b n, clampL c, clampL d)
  else if color = 2 then (clampL a, clampL b, addL c n, clampL d) else if color = 3 then (clampL a, clampL b, clampL c, addL d n)
  else (clampL a, clampL b, clampL c, clampL d)
theorem addV_T (a b c d color n : Int) : addV a b c d color n = mana4 (addT a b c d color n).1 (addT a b c d color n).2.1 (addT a b c d color n).2.2.1 (addT a b c d color n).2.2.2 := by
  unfold addV addT
  split
  · rfl
  split
  · rfl
  split
  · rfl
  split
  · rfl
  · rfl
theorem clampL_id (a : Int) (h : 0 ≤ a ∧ a ≤ 999) : clampL a = a := by unfold clampL; omega
theorem addL_bd (a n : Int) : 0 ≤ addL a n ∧ addL a n ≤ 999 := by unfold addL; exact clampL_bd _
theorem addL_ge (a n : Int) (h : 0 ≤ n) : clampL a ≤ addL a n := by unfold addL clampL; omega
theorem addT_more (a b c d color n x y z u : Int) (hn : 0 ≤ n) (h : (payC a b c d x y z u).2 = 0) :
    (payC (addT a b c d color n).1 (addT a b c d color n).2.1 (addT a b c d color n).2.2.1 (addT a b c d color n).2.2.2 x y z u).2 = 0 := by
  rw [payC_ok] at *
  have h1 := addL_ge a n hn
  have h2 := addL_ge b n hn
  have h3 := addL_ge c n hn
  have h4 := addL_ge d n hn
  have k1 := clampL_id _ (addL_bd a n)
  have k2 := clampL_id _ (addL_bd b n)
  have k3 := clampL_id _ (addL_bd c n)
  have k4 := clampL_id _ (addL_bd d n)
  have m1 := clampL_id _ (clampL_bd a)
  have m2 := clampL_id _ (clampL_bd b)
  have m3 := clampL_id _ (clampL_bd c)
  have m4 := clampL_id _ (clampL_bd d)
  unfold addT
  split
  · simp only; omega
  split
  · simp only; omega
  split
  · simp only; omega
  split
  · simp only; omega
  · simp only; omega
set_option maxRecDepth 100000 in
set_option maxHeartbeats 4000000 in
theorem seg26 {a b c d x y z u color n : Int} {w wc : World} {b4 b5 b9 b10 : Nat} {g1 g2 g3 g4 E : Int} {u6 u7 u8 u12 u13 u14 u15 u16 u17 u18 u19 u20 u21 u22 u23 u24 u25 u26 u27 u28 u29 u30 u31 u32 u33 u34 u35 u36 u37 u38 u39 u40 u41 u42 u43 u44 u45 u46 u47 u48 u49 u50 u51 u52 u53 u54 u55 u56 u57 u58 u59 u60 u61 u62 u63 u64 u65 u66 u67 u68 u69 u70 u71 u72 u73 u74 u75 u76 u77 u78 u79 u80 u81 u82 u83 u84 u85 u86 u87 u88 u89 u90 u91 u92 u93 u94 u95 u96 u97 u98 u99 u100 u101 u102 u103 u104 u105 u106 u107 u108 u109 u110 u111 u112 u113 u114 u115 u116 u117 u118 u119 u120 u121 u122 u123 u124 u125 u126 u127 u128 u129 u130 u131 u132 u133 u134 u135 u136 u137 u138 u139 u140 u141 u142 u143 u144 u145 u146 u147 u148 u149 u150 u151 u152 u153 u154 u155 u156 u157 u158 u159 u160 u161 u162 u163 u164 u165 u166 u167 u168 u169 u170 u171 u172 u173 u174 u175 u176 u177 u178 u179 u180 : Value}
    (h4 : w.heap.size ≤ b4) (h5 : b4 < b5) (h9 : b5 < b9) (h10 : b5 < b10) (h910 : b9 ≠ b10) (hbw : Below w.heap.size w wc) (r4 : Row wc b4 23 (row4 a b c d)) (r5 : Row wc b5 23 (row4 x y z u)) (r9 : Row wc b9 23 (row4 (clampL a) (clampL b) (clampL c) (clampL d))) (r10 : Row wc b10 23 (row4 (clampL x) (clampL y) (clampL z) (clampL u))) (HP : Hid (payC a b c d x y z u = ((g1, g2, g3, g4), E))) :
    Code.wp Try.prog (fromR 26 body4) (bodyPost Try.prog Try.f4 (fun e w' => e = .returned (.bool true) ∧ Below w.heap.size w w')) ⟨List.toArray (mana4 a b c d :: mana4 x y z u :: .int .i64 color :: .int .i64 n :: .pointer (some ⟨b4, 0, none⟩) :: .pointer (some ⟨b5, 0, none⟩) :: u6 :: u7 :: u8 :: .pointer (some ⟨b9, 0, none⟩) :: .pointer (some ⟨b10, 0, none⟩) :: .bool (E == 0) :: u12 :: u13 :: u14 :: u15 :: u16 :: u17 :: u18 :: u19 :: u20 :: u21 :: u22 :: u23 :: u24 :: u25 :: u26 :: u27 :: u28 :: u29 :: u30 :: u31 :: u32 :: u33 :: u34 :: u35 :: u36 :: u37 :: u38 :: u39 :: u40 :: u41 :: u42 :: u43 :: u44 :: u45 :: u46 :: u47 :: u48 :: u49 :: u50 :: u51 :: u52 :: u53 :: u54 :: u55 :: u56 :: u57 :: u58 :: u59 :: u60 :: u61 :: u62 :: u63 :: u64 :: u65 :: u66 :: u67 :: u68 :: u69 :: u70 :: u71 :: u72 :: u73 :: u74 :: u75 :: u76 :: u77 :: u78 :: u79 :: u80 :: u81 :: u82 :: u83 :: u84 :: u85 :: u86 :: u87 :: u88 :: u89 :: u90 :: u91 :: u92 :: u93 :: u94 :: u95 :: u96 :: u97 :: u98 :: u99 :: u100 :: u101 :: u102 :: u103 :: u104 :: u105 :: u106 :: u107 :: u108 :: u109 :: u110 :: u111 :: u112 :: u113 :: u114 :: u115 :: u116 :: u117 :: u118 :: u119 :: u120 :: u121 :: u122 :: u123 :: u124 :: u125 :: u126 :: u127 :: u128 :: u129 :: u130 :: u131 :: u132 :: u133 :: u134 :: u135 :: u136 :: u137 :: u138 :: u139 :: u140 :: u141 :: u142 :: u143 :: u144 :: u145 :: u146 :: u147 :: u148 :: u149 :: u150 :: u151 :: u152 :: u153 :: u154 :: u155 :: u156 :: u157 :: u158 :: u159 :: u160 :: u161 :: u162 :: u163 :: u164 :: u165 :: u166 :: u167 :: u168 :: u169 :: u170 :: u171 :: u172 :: u173 :: u174 :: u175 :: u176 :: u177 :: u178 :: u179 :: u180 :: []), []⟩ wc := by
  have bA := clampL_bd a
  have bB := clampL_bd b
  have bC := clampL_bd c
  have bD := clampL_bd d
  have bX := clampL_bd x
  have bY := clampL_bd y
  have bZ := clampL_bd z
  have bU := clampL_bd u
  obtain ⟨c4, f4, z4⟩ := r4.open
  obtain ⟨c5, f5, z5⟩ := r5.open
  obtain ⟨c9, f9, z9⟩ := r9.open
  obtain ⟨c10, f10, z10⟩ := r10.open
  conv => arg 2; whnf
  go_upto_region 26 with fail
  go_cut [21] (fun s21 wx => ∃ b21 : Nat, s21 = .pointer (some ⟨b21, 0, none⟩) ∧ b10 < b21 ∧ b5 < b21 ∧ b9 < b21 ∧ Below w.heap.size w wx ∧ Row wx b4 23 (row4 a b c d) ∧ Row wx b5 23 (row4 x y z u) ∧ Row wx b9 23 (row4 (clampL a) (clampL b) (clampL c) (clampL d)) ∧ Row wx b10 23 (row4 (clampL x) (clampL y) (clampL z) (clampL u)) ∧ Row wx b21 23 (row4 (clampL a) (clampL b) (clampL c) (clampL d)))
  case first =>
    go_wp2_with fail
    go_meet
    refine ⟨_, rfl, ?_, ?_, ?_, ?_, ?_, ?_, ?_, ?_, ?_⟩
    · omega
    · omega
    · omega
    · (repeat' (first | (with_reducible exact Below.refl _ _) | (with_reducible assumption) | (with_reducible refine Below.alloc ?_ ?_ _) | (with_reducible refine Below.drew ?_) | (with_reducible refine Below.drewN' ?_ _) | (with_reducible refine Below.setCell ?_ ?_ _) | go_size))
    · (apply Row.eq; (repeat (first | (with_reducible assumption) | (with_reducible apply Row.set) | (with_reducible apply Row.drew) | (with_reducible apply Row.drewN) | (with_reducible exact Row.new) | ((with_reducible apply Row.newAt); (focus (first | (with_reducible rfl) | (simp; done)))) | (with_reducible apply Row.alloc) | (with_reducible apply Row.far) | (dsimp only; omega) | rfl)))
    · (apply Row.eq; (repeat (first | (with_reducible assumption) | (with_reducible apply Row.set) | (with_reducible apply Row.drew) | (with_reducible apply Row.drewN) | (with_reducible exact Row.new) | ((with_reducible apply Row.newAt); (focus (first | (with_reducible rfl) | (simp; done)))) | (with_reducible apply Row.alloc) | (with_reducible apply Row.far) | (dsimp only; omega) | rfl)))
    · (apply Row.eq; (repeat (first | (with_reducible assumption) | (with_reducible apply Row.set) | (with_reducible apply Row.drew) | (with_reducible apply Row.drewN) | (with_reducible exact Row.new) | ((with_reducible apply Row.newAt); (focus (first | (with_reducible rfl) | (simp; done)))) | (with_reducible apply Row.alloc) | (with_reducible apply Row.far) | (dsimp only; omega) | rfl)))
    · (apply Row.eq; (repeat (first | (with_reducible assumption) | (with_reducible apply Row.set) | (with_reducible apply Row.drew) | (with_reducible apply Row.drewN) | (with_reducible exact Row.new) | ((with_reducible apply Row.newAt); (focus (first | (with_reducible rfl) | (simp; done)))) | (with_reducible apply Row.alloc) | (with_reducible apply Row.far) | (dsimp only; omega) | rfl)))
    · (apply Row.eq; (repeat (first | (with_reducible assumption) | (with_reducible apply Row.set) | (with_reducible apply Row.drew) | (with_reducible apply Row.drewN) | (with_reducible exact Row.new) | ((with_reducible apply Row.newAt); (focus (first | (with_reducible rfl) | (simp; done)))) | (with_reducible apply Row.alloc) | (with_reducible apply Row.far) | (dsimp only; omega) | rfl)))
  obtain ⟨b21, rfl, h21, h21', h21'', hbw, r4, r5, r9, r10, r21⟩ := hcut
  clear c4 c5 c9 c10 f4 f5 f9 f10 z4 z5 z9 z10
  obtain ⟨c4, f4, z4⟩ := r4.open
  obtain ⟨c5, f5, z5⟩ := r5.open
  obtain ⟨c9, f9, z9⟩ := r9.open
  obtain ⟨c10, f10, z10⟩ := r10.open
  obtain ⟨c21, f21, z21⟩ := r21.open
  go_upto_if 147 with (go_at_call 9; refine (in32_any _ _ _ _).mono ?_; rintro e w' ⟨rfl, rfl⟩)
  go_cut [] (fun wx => Below w.heap.size w wx ∧ Row wx b4 23 (row4 a b c d) ∧ Row wx b5 23 (row4 x y z u) ∧ Row wx b9 23 (row4 (clampL a) (clampL b) (clampL c) (clampL d)) ∧ Row wx b10 23 (row4 (clampL x) (clampL y) (clampL z) (clampL u)) ∧ Row wx b21 23 (rowT (addT a b c d color n)))
  case first =>
    rcases (show color = 0 ∨ color = 1 ∨ color = 2 ∨ color = 3 ∨ color < 0 ∨ 4 ≤ color by omega) with h | h | h | h | h | h
    · subst h
      have hin : inL 0 0 3 = true := by decide
      have ha : min (max (clampL a + min (max n (-2000)) 2000) 0) 999 = addL a n := by unfold addL clampL; omega
      have HA : Hid (min (max (clampL a + min (max n (-2000)) 2000) 0) 999 = addL a n) := ha
      clear ha
      go_wp2_with fail
      go_meet
      refine ⟨?_, ?_, ?_, ?_, ?_, ?_⟩
      · (repeat' (first | (with_reducible exact Below.refl _ _) | (with_reducible assumption) | (with_reducible refine Below.alloc ?_ ?_ _) | (with_reducible refine Below.drew ?_) | (with_reducible refine Below.drewN' ?_ _) | (with_reducible refine Below.setCell ?_ ?_ _) | go_size))
      · (apply Row.eq; (repeat (first | (with_reducible assumption) | (with_reducible apply Row.set) | (with_reducible apply Row.drew) | (with_reducible apply Row.drewN) | (with_reducible exact Row.new) | ((with_reducible apply Row.newAt); (focus (first | (with_reducible rfl) | (simp; done)))) | (with_reducible apply Row.alloc) | (with_reducible apply Row.far) | (dsimp only; omega) | rfl)))
      · (apply Row.eq; (repeat (first | (with_reducible assumption) | (with_reducible apply Row.set) | (with_reducible apply Row.drew) | (with_reducible apply Row.drewN) | (with_reducible exact Row.new) | ((with_reducible apply Row.newAt); (focus (first | (with_reducible rfl) | (simp; done)))) | (with_reducible apply Row.alloc) | (with_reducible apply Row.far) | (dsimp only; omega) | rfl)))
      · (apply Row.eq; (repeat (first | (with_reducible assumption) | (with_reducible apply Row.set) | (with_reducible apply Row.drew) | (with_reducible apply Row.drewN) | (with_reducible exact Row.new) | ((with_reducible apply Row.newAt); (focus (first | (with_reducible rfl) | (simp; done)))) | (with_reducible apply Row.alloc) | (with_reducible apply Row.far) | (dsimp only; omega) | rfl)))
      · (apply Row.eq; (repeat (first | (with_reducible assumption) | (with_reducible apply Row.set) | (with_reducible apply Row.drew) | (with_reducible apply Row.drewN) | (with_reducible exact Row.new) | ((with_reducible apply Row.newAt); (focus (first | (with_reducible rfl) | (simp; done)))) | (with_reducible apply Row.alloc) | (with_reducible apply Row.far) | (dsimp only; omega) | rfl)))
      · show Row _ _ _ (row4 (addL a n) (clampL b) (clampL c) (clampL d))
        rw [← HA.out]
        (apply Row.eq; (repeat (first | (with_reducible assumption) | (with_reducible apply Row.set) | (with_reducible apply Row.drew) | (with_reducible apply Row.drewN) | (with_reducible exact Row.new) | ((with_reducible apply Row.newAt); (focus (first | (with_reducible rfl) | (simp; done)))) | (with_reducible apply Row.alloc) | (with_reducible apply Row.far) | (dsimp only; omega) | rfl)))
    · subst h
      have hin : inL 1 0 3 = true := by decide
      have ha : min (max (clampL b + min (max n (-2000)) 2000) 0) 999 = addL b n := by unfold addL clampL; omega
      have HA : Hid (min (max (clampL b + min (max n (-2000)) 2000) 0) 999 = addL b n) := ha
      clear ha
      go_wp2_with fail
      go_meet
      refine ⟨?_, ?_, ?_, ?_, ?_, ?_⟩
      · (repeat' (first | (with_reducible exact Below.refl _ _) | (with_reducible assumption) | (with_reducible refine Below.alloc ?_ ?_ _) | (with_reducible refine Below.drew ?_) | (with_reducible refine Below.drewN' ?_ _) | (with_reducible refine Below.setCell ?_ ?_ _) | go_size))
      · (apply Row.eq; (repeat (first | (with_reducible assumption) | (with_reducible apply Row.set) | (with_reducible apply Row.drew) | (with_reducible apply Row.drewN) | (with_reducible exact Row.new) | ((with_reducible apply Row.newAt); (focus (first | (with_reducible rfl) | (simp; done)))) | (with_reducible apply Row.alloc) | (with_reducible apply Row.far) | (dsimp only; omega) | rfl)))
      · (apply Row.eq; (repeat (first | (with_reducible assumption) | (with_reducible apply Row.set) | (with_reducible apply Row.drew) | (with_reducible apply Row.drewN) | (with_reducible exact Row.new) | ((with_reducible apply Row.newAt); (focus (first | (with_reducible rfl) | (simp; done)))) | (with_reducible apply Row.alloc) | (with_reducible apply Row.far) | (dsimp only; omega) | rfl)))
      · (apply Row.eq; (repeat (first | (with_reducible assumption) | (with_reducible apply Row.set) | (with_reducible apply Row.drew) | (with_reducible apply Row.drewN) | (with_reducible exact Row.new) | ((with_reducible apply Row.newAt); (focus (first | (with_reducible rfl) | (simp; done)))) | (with_reducible apply Row.alloc) | (with_reducible apply Row.far) | (dsimp only; omega) | rfl)))
      · (apply Row.eq; (repeat (first | (with_reducible assumption) | (with_reducible apply Row.set) | (with_reducible apply Row.drew) | (with_reducible apply Row.drewN) | (with_reducible exact Row.new) | ((with_reducible apply Row.newAt); (focus (first | (with_reducible rfl) | (simp; done)))) | (with_reducible apply Row.alloc) | (with_reducible apply Row.far) | (dsimp only; omega) | rfl)))
      · show Row _ _ _ (row4 (clampL a) (addL b n) (clampL c) (clampL d))
        rw [← HA.out]
        (apply Row.eq; (repeat (first | (with_reducible assumption) | (with_reducible apply Row.set) | (with_reducible apply Row.drew) | (with_reducible apply Row.drewN) | (with_reducible exact Row.new) | ((with_reducible apply Row.newAt); (focus (first | (with_reducible rfl) | (simp; done)))) | (with_reducible apply Row.alloc) | (with_reducible apply Row.far) | (dsimp only; omega) | rfl)))
    · subst h
      have hin : inL 2 0 3 = true := by decide
      have ha : min (max (clampL c + min (max n (-2000)) 2000) 0) 999 = addL c n := by unfold addL clampL; omega
      have HA : Hid (min (max (clampL c + min (max n (-2000)) 2000) 0) 999 = addL c n) := ha
      clear ha
      go_wp2_with fail
      go_meet
      refine ⟨?_, ?_, ?_, ?_, ?_, ?_⟩
      · (repeat' (first | (with_reducible exact Below.refl _ _) | (with_reducible assumption) | (with_reducible refine Below.alloc ?_ ?_ _) | (with_reducible refine Below.drew ?_) | (with_reducible refine Below.drewN' ?_ _) | (with_reducible refine Below.setCell ?_ ?_ _) | go_size))
      · (apply Row.eq; (repeat (first | (with_reducible assumption) | (with_reducible apply Row.set) | (with_reducible apply Row.drew) | (with_reducible apply Row.drewN) | (with_reducible exact Row.new) | ((with_reducible apply Row.newAt); (focus (first | (with_reducible rfl) | (simp; done)))) | (with_reducible apply Row.alloc) | (with_reducible apply Row.far) | (dsimp only; omega) | rfl)))
      · (apply Row.eq; (repeat (first | (with_reducible assumption) | (with_reducible apply Row.set) | (with_reducible apply Row.drew) | (with_reducible apply Row.drewN) | (with_reducible exact Row.new) | ((with_reducible apply Row.newAt); (focus (first | (with_reducible rfl) | (simp; done)))) | (with_reducible apply Row.alloc) | (with_reducible apply Row.far) | (dsimp only; omega) | rfl)))
      · (apply Row.eq; (repeat (first | (with_reducible assumption) | (with_reducible apply Row.set) | (with_reducible apply Row.drew) | (with_reducible apply Row.drewN) | (with_reducible exact Row.new) | ((with_reducible apply Row.newAt); (focus (first | (with_reducible rfl) | (simp; done)))) | (with_reducible apply Row.alloc) | (with_reducible apply Row.far) | (dsimp only; omega) | rfl)))
      · (apply Row.eq; (repeat (first | (with_reducible assumption) | (with_reducible apply Row.set) | (with_reducible apply Row.drew) | (with_reducible apply Row.drewN) | (with_reducible exact Row.new) | ((with_reducible apply Row.newAt); (focus (first | (with_reducible rfl) | (simp; done)))) | (with_reducible apply Row.alloc) | (with_reducible apply Row.far) | (dsimp only; omega) | rfl)))
      · show Row _ _ _ (row4 (clampL a) (clampL b) (addL c n) (clampL d))
        rw [← HA.out]
        (apply Row.eq; (repeat (first | (with_reducible assumption) | (with_reducible apply Row.set) | (with_reducible apply Row.drew) | (with_reducible apply Row.drewN) | (with_reducible exact Row.new) | ((with_reducible apply Row.newAt); (focus (first | (with_reducible rfl) | (simp; done)))) | (with_reducible apply Row.alloc) | (with_reducible apply Row.far) | (dsimp only; omega) | rfl)))
    · subst h
      have hin : inL 3 0 3 = true := by decide
      have ha : min (max (clampL d + min (max n (-2000)) 2000) 0) 999 = addL d n := by unfold addL clampL; omega
      have HA : Hid (min (max (clampL d + min (max n (-2000)) 2000) 0) 999 = addL d n) := ha
      clear ha
      go_wp2_with fail
      go_meet
      refine ⟨?_, ?_, ?_, ?_, ?_, ?_⟩
      · (repeat' (first | (with_reducible exact Below.refl _ _) | (with_reducible assumption) | (with_reducible refine Below.alloc ?_ ?_ _) | (with_reducible refine Below.drew ?_) | (with_reducible refine Below.drewN' ?_ _) | (with_reducible refine Below.setCell ?_ ?_ _) | go_size))
      · (apply Row.eq; (repeat (first | (with_reducible assumption) | (with_reducible apply Row.set) | (with_reducible apply Row.drew) | (with_reducible apply Row.drewN) | (with_reducible exact Row.new) | ((with_reducible apply Row.newAt); (focus (first | (with_reducible rfl) | (simp; done)))) | (with_reducible apply Row.alloc) | (with_reducible apply Row.far) | (dsimp only; omega) | rfl)))
      · (apply Row.eq; (repeat (first | (with_reducible assumption) | (with_reducible apply Row.set) | (with_reducible apply Row.drew) | (with_reducible apply Row.drewN) | (with_reducible exact Row.new) | ((with_reducible apply Row.newAt); (focus (first | (with_reducible rfl) | (simp; done)))) | (with_reducible apply Row.alloc) | (with_reducible apply Row.far) | (dsimp only; omega) | rfl)))
      · (apply Row.eq; (repeat (first | (with_reducible assumption) | (with_reducible apply Row.set) | (with_reducible apply Row.drew) | (with_reducible apply Row.drewN) | (with_reducible exact Row.new) | ((with_reducible apply Row.newAt); (focus (first | (with_reducible rfl) | (simp; done)))) | (with_reducible apply Row.alloc) | (with_reducible apply Row.far) | (dsimp only; omega) | rfl)))
      · (apply Row.eq; (repeat (first | (with_reducible assumption) | (with_reducible apply Row.set) | (with_reducible apply Row.drew) | (with_reducible apply Row.drewN) | (with_reducible exact Row.new) | ((with_reducible apply Row.newAt); (focus (first | (with_reducible rfl) | (simp; done)))) | (with_reducible apply Row.alloc) | (with_reducible apply Row.far) | (dsimp only; omega) | rfl)))
      · show Row _ _ _ (row4 (clampL a) (clampL b) (clampL c) (addL d n))
        rw [← HA.out]
        (apply Row.eq; (repeat (first | (with_reducible assumption) | (with_reducible apply Row.set) | (with_reducible apply Row.drew) | (with_reducible apply Row.drewN) | (with_reducible exact Row.new) | ((with_reducible apply Row.newAt); (focus (first | (with_reducible rfl) | (simp; done)))) | (with_reducible apply Row.alloc) | (with_reducible apply Row.far) | (dsimp only; omega) | rfl)))
    all_goals
      have hin : inL color 0 3 = false := by unfold inL; simp; omega
      rw [hin]
      go_wp2_with fail
      go_meet
      have hT : addT a b c d color n = (clampL a, clampL b, clampL c, clampL d) := by unfold addT; rw [if_neg (by omega), if_neg (by omega), if_neg (by omega), if_neg (by omega)]
      rw [hT]
      refine ⟨?_, ?_, ?_, ?_, ?_, ?_⟩
      · (repeat' (first | (with_reducible exact Below.refl _ _) | (with_reducible assumption) | (with_reducible refine Below.alloc ?_ ?_ _) | (with_reducible refine Below.drew ?_) | (with_reducible refine Below.drewN' ?_ _) | (with_reducible refine Below.setCell ?_ ?_ _) | go_size))
      · (apply Row.eq; (repeat (first | (with_reducible assumption) | (with_reducible apply Row.set) | (with_reducible apply Row.drew) | (with_reducible apply Row.drewN) | (with_reducible exact Row.new) | ((with_reducible apply Row.newAt); (focus (first | (with_reducible rfl) | (simp; done)))) | (with_reducible apply Row.alloc) | (with_reducible apply Row.far) | (dsimp only; omega) | rfl)))
      · (apply Row.eq; (repeat (first | (with_reducible assumption) | (with_reducible apply Row.set) | (with_reducible apply Row.drew) | (with_reducible apply Row.drewN) | (with_reducible exact Row.new) | ((with_reducible apply Row.newAt); (focus (first | (with_reducible rfl) | (simp; done)))) | (with_reducible apply Row.alloc) | (with_reducible apply Row.far) | (dsimp only; omega) | rfl)))
      · (apply Row.eq; (repeat (first | (with_reducible assumption) | (with_reducible apply Row.set) | (with_reducible apply Row.drew) | (with_reducible apply Row.drewN) | (with_reducible exact Row.new) | ((with_reducible apply Row.newAt); (focus (first | (with_reducible rfl) | (simp; done)))) | (with_reducible apply Row.alloc) | (with_reducible apply Row.far) | (dsimp only; omega) | rfl)))
      · (apply Row.eq; (repeat (first | (with_reducible assumption) | (with_reducible apply Row.set) | (with_reducible apply Row.drew) | (with_reducible apply Row.drewN) | (with_reducible exact Row.new) | ((with_reducible apply Row.newAt); (focus (first | (with_reducible rfl) | (simp; done)))) | (with_reducible apply Row.alloc) | (with_reducible apply Row.far) | (dsimp only; omega) | rfl)))
      · (apply Row.eq; (repeat (first | (with_reducible assumption) | (with_reducible apply Row.set) | (with_reducible apply Row.drew) | (with_reducible apply Row.drewN) | (with_reducible exact Row.new) | ((with_reducible apply Row.newAt); (focus (first | (with_reducible rfl) | (simp; done)))) | (with_reducible apply Row.alloc) | (with_reducible apply Row.far) | (dsimp only; omega) | rfl)))
  clear c4 c5 c9 c10 f4 f5 f9 f10 z4 z5 z9 z10 c21 f21 z21 r4 r5 r9 r10 r21 hbw
  obtain ⟨hbw, r4, r5, r9, r10, r21⟩ := hcut
  obtain ⟨c4, f4, z4⟩ := r4.open
  obtain ⟨c5, f5, z5⟩ := r5.open
  obtain ⟨c21, f21, z21⟩ := r21.open
  go_step
  have hadd := addT_more a b c d color n x y z u
  have hvt := addV_T a b c d color n
  generalize addT a b c d color n = AT at *
  obtain ⟨m1, m2, m3, m4⟩ := AT
  dsimp only at hadd hvt
  have HV : Hid (addV a b c d color n = mana4 m1 m2 m3 m4) := hvt
  clear hvt
  have HA : Hid (0 ≤ n → (payC a b c d x y z u).2 = 0 → (payC m1 m2 m3 m4 x y z u).2 = 0) := hadd
  clear hadd
  by_cases hE : E = 0
  · subst hE
    by_cases hn : n < 0
    · refine wp_code_eq (c' := fromR 29 body4) (by kernel_rfl) ?_
      go_big_unhide
      exact seg29_a hbw r4 r5 r21 HV (decide_eq_true hn)
    · have hc0 : ((payC m1 m2 m3 m4 x y z u).2 == 0) = true := by
        have := HA.out (by omega) (by rw [HP.out])
        simpa using this
      refine wp_code_eq (c' := fromR 29 body4) (by kernel_rfl) ?_
      go_big_unhide
      exact seg29_b hbw r4 r5 r21 HV (decide_eq_false hn) hc0
  · have hE' : (E == 0) = false := by simpa using hE
    rw [hE']
    refine wp_code_eq (c' := fromR 29 body4) (by kernel_rfl) ?_
    go_big_unhide
    exact seg29_c hbw r4 r5 r21 HV


end Go.Proofs.Ytilnghebkpcblaa
