import Derived.Test.YtilnghebkpcblaaA4
import Derived.Test.YtilnghebkpcblaaA2b
import Derived.Deep.CutBlock
namespace Go.Proofs.Ytilnghebkpcblaa
open Go.RowKit
attribute [local go_sem ↓] Go.wp_at_zero Go.wp_at_succ

def headRegion : Code → Option Nat
  | .region id _ _ => some id
  | .seq a _ => headRegion a
  | .block _ b => headRegion b
  | .loop b => headRegion b
  | _ => none
/-- What stands in a body from the statement on that begins with region n. -/
def fromR (n : Nat) : Code → Code
  | .seq a b => if headRegion a = some n then .seq a b else fromR n b
  | c => c
noncomputable def body4 : Code := (Try.f4.body).getD .skip

theorem Row.cells4 {w : World} {b : Nat} {T : TypeId} {p q r s : Value} (h : Row w b T #[p, q, r, s]) : w.cell? ⟨b, 0, none⟩ = some p ∧ w.cell? ⟨b, 1, none⟩ = some q ∧ w.cell? ⟨b, 2, none⟩ = some r ∧ w.cell? ⟨b, 3, none⟩ = some s := by
  obtain ⟨c, _, _⟩ := h.open
  simp [c]

def Inv29 (w : World) (b4 b5 b21 : Nat) (a b c d x y z u m1 m2 m3 m4 : Int) (W : World) : Prop := Below w.heap.size w W ∧ Row W b4 23 (row4 a b c d) ∧ Row W b5 23 (row4 x y z u) ∧ Row W b21 23 (row4 m1 m2 m3 m4)

set_option maxRecDepth 100000 in
set_option maxHeartbeats 1000000 in
theorem seg29_b {a b c d x y z u color n : Int} {w wc : World} {b4 b5 b21 : Nat} {u6 u7 u8 u9 u10 u12 u13 u14 u15 u16 u17 u18 u19 u20 u22 u23 u24 u25 u26 u27 u28 u29 u30 u31 u32 u33 u34 u35 u36 u37 u38 u39 u40 u41 u42 u43 u44 u45 u46 u47 u48 u49 u50 u51 u52 u53 u54 u55 u56 u57 u58 u59 u60 u61 u62 u63 u64 u65 u66 u67 u68 u69 u70 u71 u72 u73 u74 u75 u76 u77 u78 u79 u80 u81 u82 u83 u84 u85 u86 u87 u88 u89 u90 u91 u92 u93 u94 u95 u96 u97 u98 u99 u100 u101 u102 u103 u104 u105 u106 u107 u108 u109 u110 u111 u112 u113 u114 u115 u116 u117 u118 u119 u120 u121 u122 u123 u124 u125 u126 u127 u128 u129 u130 u131 u132 u133 u134 u135 u136 u137 u138 u139 u140 u141 u142 u143 u144 u145 u146 u147 u148 u149 u150 u151 u152 u153 u154 u155 u156 u157 u158 u159 u160 u161 u162 u163 u164 u165 u166 u167 u168 u169 u170 u171 u172 u173 u174 u175 u176 u177 u178 u179 u180 : Value} {m1 m2 m3 m4 : Int}
    (hbw : Below w.heap.size w wc) (r4 : Row wc b4 23 (row4 a b c d)) (r5 : Row wc b5 23 (row4 x y z u)) (r21 : Row wc b21 23 (row4 m1 m2 m3 m4))
    (HV : Hid (addV a b c d color n = mana4 m1 m2 m3 m4)) (hd : decide (n < 0) = false) (HC : Hid (((payC m1 m2 m3 m4 x y z u).2 == 0) = true)) :
    Code.wp Try.prog (fromR 29 body4) (bodyPost Try.prog Try.f4 (fun e w' => e = .returned (.bool true) ∧ Below w.heap.size w w')) ⟨#[mana4 a b c d, mana4 x y z u, .int .i64 color, .int .i64 n, .pointer (some ⟨b4, 0, none⟩), .pointer (some ⟨b5, 0, none⟩), u6, u7, u8, u9, u10, .bool true, u12, u13, u14, u15, u16, u17, u18, u19, u20, .pointer (some ⟨b21, 0, none⟩), u22, u23, u24, u25, u26, u27, u28, u29, u30, u31, u32, u33, u34, u35, u36, u37, u38, u39, u40, u41, u42, u43, u44, u45, u46, u47, u48, u49, u50, u51, u52, u53, u54, u55, u56, u57, u58, u59, u60, u61, u62, u63, u64, u65, u66, u67, u68, u69, u70, u71, u72, u73, u74, u75, u76, u77, u78, u79, u80, u81, u82, u83, u84, u85, u86, u87, u88, u89, u90, u91, u92, u93, u94, u95, u96, u97, u98, u99, u100, u101, u102, u103, u104, u105, u106, u107, u108, u109, u110, u111, u112, u113, u114, u115, u116, u117, u118, u119, u120, u121, u122, u123, u124, u125, u126, u127, u128, u129, u130, u131, u132, u133, u134, u135, u136, u137, u138, u139, u140, u141, u142, u143, u144, u145, u146, u147, u148, u149, u150, u151, u152, u153, u154, u155, u156, u157, u158, u159, u160, u161, u162, u163, u164, u165, u166, u167, u168, u169, u170, u171, u172, u173, u174, u175, u176, u177, u178, u179, u180], []⟩ wc := by
  obtain ⟨c4, f4, z4⟩ := r4.open
  obtain ⟨c5, f5, z5⟩ := r5.open
  obtain ⟨c21, f21, z21⟩ := r21.open
  conv => arg 2; whnf
  go_wp2_with fail
  go_region_held3 (fun w' => (w'.cell? ⟨b4, 0, none⟩ = some (.int .i64 a) ∧ w'.cell? ⟨b4, 1, none⟩ = some (.int .i64 b) ∧ w'.cell? ⟨b4, 2, none⟩ = some (.int .i64 c) ∧ w'.cell? ⟨b4, 3, none⟩ = some (.int .i64 d)) ∧ (w'.cell? ⟨b5, 0, none⟩ = some (.int .i64 x) ∧ w'.cell? ⟨b5, 1, none⟩ = some (.int .i64 y) ∧ w'.cell? ⟨b5, 2, none⟩ = some (.int .i64 z) ∧ w'.cell? ⟨b5, 3, none⟩ = some (.int .i64 u)) ∧ (∀ o, w'.cell? ⟨b21, o, none⟩ = (row4 m1 m2 m3 m4)[o]?))
      (first | go_keep | ((refine ⟨Row.cells4 (T := 23) ?_, Row.cells4 (T := 23) ?_, (Row.open (T := 23) ?_).1⟩); (focus ((apply Row.eq; (repeat (first | (with_reducible assumption) | (with_reducible apply Row.set) | (with_reducible apply Row.drew) | (with_reducible apply Row.drewN) | (with_reducible exact Row.new) | ((with_reducible apply Row.newAt); (focus (first | (with_reducible rfl) | (simp; done)))) | (with_reducible apply Row.alloc) | (with_reducible apply Row.far) | (dsimp only; omega) | rfl))); done)); (focus ((apply Row.eq; (repeat (first | (with_reducible assumption) | (with_reducible apply Row.set) | (with_reducible apply Row.drew) | (with_reducible apply Row.drewN) | (with_reducible exact Row.new) | ((with_reducible apply Row.newAt); (focus (first | (with_reducible rfl) | (simp; done)))) | (with_reducible apply Row.alloc) | (with_reducible apply Row.far) | (dsimp only; omega) | rfl))); done)); (focus ((apply Row.eq; (repeat (first | (with_reducible assumption) | (with_reducible apply Row.set) | (with_reducible apply Row.drew) | (with_reducible apply Row.drewN) | (with_reducible exact Row.new) | ((with_reducible apply Row.newAt); (focus (first | (with_reducible rfl) | (simp; done)))) | (with_reducible apply Row.alloc) | (with_reducible apply Row.far) | (dsimp only; omega) | rfl))); done))))
      (first
        | (go_at_call 10; refine (add_any _ _ _ _ _ _ _).mono ?_; rintro e w1 ⟨rfl, hb1⟩; rw [HV.out]; replace hbw := hbw.after hb1; replace r4 := r4.belowd hb1; replace r5 := r5.belowd hb1; replace r21 := r21.belowd hb1; clear c4 f4 z4 c5 f5 z5 c21 f21 z21; obtain ⟨c4, f4, z4⟩ := r4.open; obtain ⟨c5, f5, z5⟩ := r5.open; obtain ⟨c21, f21, z21⟩ := r21.open; clear hb1)
        | (go_at_call 8; refine (can_any _ _ _ _ _ _ _ _ _).mono ?_; rintro e w1 ⟨rfl, hb1⟩; rw [HC.out]; replace hbw := hbw.after hb1; replace r4 := r4.belowd hb1; replace r5 := r5.belowd hb1; replace r21 := r21.belowd hb1; clear c4 f4 z4 c5 f5 z5 c21 f21 z21; obtain ⟨c4, f4, z4⟩ := r4.open; obtain ⟨c5, f5, z5⟩ := r5.open; obtain ⟨c21, f21, z21⟩ := r21.open; clear hb1))
  all_goals
    go_wp2_with fail
    go_ret
    refine ⟨?_, ?_⟩
    · first | rfl | (simp; done)
    · (repeat' (first | (with_reducible exact Below.refl _ _) | (with_reducible assumption) | (with_reducible refine Below.alloc ?_ ?_ _) | (with_reducible refine Below.drew ?_) | (with_reducible refine Below.drewN' ?_ _) | (with_reducible refine Below.setCell ?_ ?_ _) | go_size))

end Go.Proofs.Ytilnghebkpcblaa
