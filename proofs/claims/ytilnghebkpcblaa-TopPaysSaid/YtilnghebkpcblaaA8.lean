import Derived.Test.YtilnghebkpcblaaA6
import Derived.Test.YtilnghebkpcblaaInv
import Derived.Deep.CutBlock
namespace Go.Proofs.Ytilnghebkpcblaa
open Go.RowKit
attribute [local go_sem ↓] Go.wp_at_zero Go.wp_at_succ


set_option maxRecDepth 100000 in
set_option maxHeartbeats 1000000 in
theorem seg29_c {a b c d x y z u color n : Int} {w wc : World} {b4 b5 b21 : Nat} {u6 u7 u8 u9 u10 u12 u13 u14 u15 u16 u17 u18 u19 u20 u22 u23 u24 u25 u26 u27 u28 u29 u30 u31 u32 u33 u34 u35 u36 u37 u38 u39 u40 u41 u42 u43 u44 u45 u46 u47 u48 u49 u50 u51 u52 u53 u54 u55 u56 u57 u58 u59 u60 u61 u62 u63 u64 u65 u66 u67 u68 u69 u70 u71 u72 u73 u74 u75 u76 u77 u78 u79 u80 u81 u82 u83 u84 u85 u86 u87 u88 u89 u90 u91 u92 u93 u94 u95 u96 u97 u98 u99 u100 u101 u102 u103 u104 u105 u106 u107 u108 u109 u110 u111 u112 u113 u114 u115 u116 u117 u118 u119 u120 u121 u122 u123 u124 u125 u126 u127 u128 u129 u130 u131 u132 u133 u134 u135 u136 u137 u138 u139 u140 u141 u142 u143 u144 u145 u146 u147 u148 u149 u150 u151 u152 u153 u154 u155 u156 u157 u158 u159 u160 u161 u162 u163 u164 u165 u166 u167 u168 u169 u170 u171 u172 u173 u174 u175 u176 u177 u178 u179 u180 : Value} {m1 m2 m3 m4 : Int}
    (hbw : Below w.heap.size w wc) (r4 : Row wc b4 23 (row4 a b c d)) (r5 : Row wc b5 23 (row4 x y z u)) (r21 : Row wc b21 23 (row4 m1 m2 m3 m4))
    (HV : Hid (addV a b c d color n = mana4 m1 m2 m3 m4))  :
    Code.wp Try.prog (fromR 29 body4) (bodyPost Try.prog Try.f4 (fun e w' => e = .returned (.bool true) ∧ Below w.heap.size w w')) ⟨#[mana4 a b c d, mana4 x y z u, .int .i64 color, .int .i64 n, .pointer (some ⟨b4, 0, none⟩), .pointer (some ⟨b5, 0, none⟩), u6, u7, u8, u9, u10, .bool false, u12, u13, u14, u15, u16, u17, u18, u19, u20, .pointer (some ⟨b21, 0, none⟩), u22, u23, u24, u25, u26, u27, u28, u29, u30, u31, u32, u33, u34, u35, u36, u37, u38, u39, u40, u41, u42, u43, u44, u45, u46, u47, u48, u49, u50, u51, u52, u53, u54, u55, u56, u57, u58, u59, u60, u61, u62, u63, u64, u65, u66, u67, u68, u69, u70, u71, u72, u73, u74, u75, u76, u77, u78, u79, u80, u81, u82, u83, u84, u85, u86, u87, u88, u89, u90, u91, u92, u93, u94, u95, u96, u97, u98, u99, u100, u101, u102, u103, u104, u105, u106, u107, u108, u109, u110, u111, u112, u113, u114, u115, u116, u117, u118, u119, u120, u121, u122, u123, u124, u125, u126, u127, u128, u129, u130, u131, u132, u133, u134, u135, u136, u137, u138, u139, u140, u141, u142, u143, u144, u145, u146, u147, u148, u149, u150, u151, u152, u153, u154, u155, u156, u157, u158, u159, u160, u161, u162, u163, u164, u165, u166, u167, u168, u169, u170, u171, u172, u173, u174, u175, u176, u177, u178, u179, u180], []⟩ wc := by
  have c4 := fun X : InW (Inv29 w b4 b5 b21 a b c d x y z u m1 m2 m3 m4) => X.h.2.1.open.1
  have c5 := fun X : InW (Inv29 w b4 b5 b21 a b c d x y z u m1 m2 m3 m4) => X.h.2.2.1.open.1
  have c21 := fun X : InW (Inv29 w b4 b5 b21 a b c d x y z u m1 m2 m3 m4) => X.h.2.2.2.open.1
  have HC : Hid (∀ X : InW (Inv29 w b4 b5 b21 a b c d x y z u m1 m2 m3 m4), Calls Try.prog 10 #[mana4 a b c d, .int .i64 color, .int .i64 n] X.w (fun e w'' => e = .returned (mana4 m1 m2 m3 m4) ∧ ∃ Y : InW (Inv29 w b4 b5 b21 a b c d x y z u m1 m2 m3 m4), w'' = Y.w)) :=
    fun X => Calls.inv (add_any a b c d color n X.w) (fun _ _ h => ⟨by rw [h.1, HV.out], X.h.1.after h.2, X.h.2.1.belowd h.2, X.h.2.2.1.belowd h.2, X.h.2.2.2.belowd h.2⟩)
  conv => arg 2; whnf
  go_wp2_with fail
  refine wp_region_inv (Inv29 w b4 b5 b21 a b c d x y z u m1 m2 m3 m4) (by kernel_rfl) (by kernel_rfl) ⟨hbw.drew, r4.drew, r5.drew, r21.drew⟩ ?_
  intro hne
  clear r4 r5 r21 hbw
  repeat (go_big_quiet_step ((go_at_call 10; exact HC.out _)))
  refine wpQuiet_nil ?_
  rintro _ ⟨X, rfl⟩
  obtain ⟨W, hbw, r4, r5, r21⟩ := X
  go_wp2_with fail
  go_ret
  refine ⟨?_, hbw⟩
  first | rfl | (simp; done)

end Go.Proofs.Ytilnghebkpcblaa
