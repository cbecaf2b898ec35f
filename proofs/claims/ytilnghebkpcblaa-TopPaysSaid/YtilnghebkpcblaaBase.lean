/- Small lemmas that the walks of this claim use: rows of cells, worlds below a number, results. -/
import Derived.Test.YtilnghebkpcblaaRows
import Derived.WalkKit
import Derived.WalkSpells
import Derived.WalkLawsBesides
import Derived.Handy
import Derived.Deep.RegionWith
import Derived.Deep.QuietTactic
import Derived.BigQuiet
import Derived.Deep.RegionHeld3
import Derived.Deep.DeepCutAuto
import Derived.Deep.DrawnRows
namespace Go.Proofs.Ytilnghebkpcblaa
open Go.RowKit

@[go_sem high] theorem run_max_mx {P : Program} {w : World} (ts : Array TypeId) (t : TypeId) (k k' : IntKind) (x y : Int) : (Builtin.max_ ts t #[.int k x, .int k' y]).run P w = .ok (.int k (max x y)) w := by
  simp [Builtin.max_, Builtin.max2]; split <;> omega
@[go_sem high] theorem run_min_mn {P : Program} {w : World} (ts : Array TypeId) (t : TypeId) (k k' : IntKind) (x y : Int) : (Builtin.min_ ts t #[.int k x, .int k' y]).run P w = .ok (.int k (min x y)) w := by
  simp [Builtin.min_, Builtin.min2]; split <;> omega
@[go_sem high] theorem cell_setCell_self (w : World) (b i : Nat) (v : Value) : (w.setCell ⟨b, i, none⟩ v).cell? ⟨b, i, none⟩ = (w.cell? ⟨b, i, none⟩).map (fun _ => v) := by
  simp only [World.cell?, World.setCell, Array.getElem?_modify]
  cases h : w.heap[b]? with
  | none => simp
  | some o =>
    cases o <;> simp
    rename_i c _ _
    by_cases hi : i < c.size
    · simp [hi]
    · simp [hi]
@[go_sem high] theorem setCell_setCell_self (w : World) (b i : Nat) (u v : Value) : (w.setCell ⟨b, i, none⟩ u).setCell ⟨b, i, none⟩ v = w.setCell ⟨b, i, none⟩ v := by
  simp only [World.setCell]
  congr 1
  apply Array.ext_getElem?
  intro j
  simp only [Array.getElem?_modify]
  by_cases hj : b = j
  · subst hj
    simp
    cases h : w.heap[b]? with
    | none => simp
    | some o => cases o <;> simp
  · simp [hj]
theorem ret_int {k : IntKind} {a b : Int} (h : a = b) : Ending.returned (.int k a) = .returned (.int k b) := by rw [h]
theorem ret_bool {a b : Bool} (h : a = b) : Ending.returned (.bool a) = .returned (.bool b) := by rw [h]

theorem bcell {W w1 : World} (hb : Below W.heap.size W w1) : (∀ b o, b < W.heap.size → w1.cell? ⟨b, o, none⟩ = W.cell? ⟨b, o, none⟩) ∧ (∀ b o, b < W.heap.size → w1.frozen? ⟨b, o, none⟩ = W.frozen? ⟨b, o, none⟩) ∧ W.heap.size ≤ w1.heap.size :=
  ⟨fun b o h => hb.cell (p := ⟨b, o, none⟩) h, fun b o h => hb.frozen (p := ⟨b, o, none⟩) h, hb.size⟩

/-- A block that is a row of cells, not frozen. -/
structure Row (w : World) (b : Nat) (T : TypeId) (cs : Array Value) : Prop where
  mk ::
  at_ : w.heap[b]? = some (.cells cs T (0, 0))
theorem Row.open {w : World} {b : Nat} {cs : Array Value} {T : TypeId} (h : Row w b T cs) :
    (∀ o, w.cell? ⟨b, o, none⟩ = cs[o]?) ∧ (∀ o, w.frozen? ⟨b, o, none⟩ = false) ∧ b < w.heap.size := by
  have h := h.at_
  refine ⟨fun o => by simp [World.cell?, h], fun o => ?_, ?_⟩
  · simp [World.frozen?, h]
  · exact (Array.getElem?_eq_some_iff.1 h).1
theorem Row.lt {w : World} {b : Nat} {cs : Array Value} {T : TypeId} (h : Row w b T cs) : b < w.heap.size := h.open.2.2
theorem Row.eq {w : World} {b : Nat} {cs cs' : Array Value} {T : TypeId} (h : Row w b T cs') (e : cs' = cs) : Row w b T cs := e ▸ h
theorem Row.below {B : Nat} {w w' : World} {b : Nat} {cs : Array Value} {T : TypeId} (h : Row w b T cs) (hb : Below B w w') (hB : b < B) : Row w' b T cs := by
  exact ⟨by rw [hb.block b hB]; exact h.at_⟩
theorem Row.belowd {w wd w' : World} {b : Nat} {cs : Array Value} {T : TypeId} (h : Row w b T cs) (hb : Below wd.heap.size wd w') (hd : wd.heap = w.heap := by rfl) : Row w' b T cs := by
  have h' : Row wd b T cs := ⟨by rw [hd]; exact h.at_⟩
  exact h'.below hb h'.lt
theorem _root_.Go.RowKit.Below.drewN' {B : Nat} {a w : World} (h : Below B a w) (n : Nat) : Below B a (w.drewN n) := ⟨h.os, h.tape, h.output, h.size, h.block⟩
/-- One call behind another: what lay below B when this one began still does. -/
theorem _root_.Go.RowKit.Below.after {B : Nat} {w wc wd w1 : World} (h : Below B w wc) (k : Below wd.heap.size wd w1) (hB : B ≤ w.heap.size := by first | exact Nat.le_refl _ | omega) (hd : wd.heap = wc.heap := by rfl) (h1 : wd.os = wc.os := by rfl) (h2 : wd.tape = wc.tape := by rfl) (h3 : wd.output = wc.output := by rfl) : Below B w w1 :=
  have hs : wd.heap.size = wc.heap.size := by rw [hd]
  have := h.size
  ⟨k.os.trans (h1.trans h.os), k.tape.trans (h2.trans h.tape), k.output.trans (h3.trans h.output), by have := k.size; omega, fun i hi => (k.block i (by omega)).trans (by rw [hd]; exact h.block i hi)⟩
theorem Row.below' {W w1 : World} {b : Nat} {cs : Array Value} {T : TypeId} (hb : Below W.heap.size W w1) (h : Row W b T cs) : Row w1 b T cs := h.below hb h.lt
theorem Row.drew {w : World} {b : Nat} {cs : Array Value} {T : TypeId} (h : Row w b T cs) : Row w.drew b T cs := ⟨h.at_⟩
theorem Row.drewN {w : World} {b : Nat} {cs : Array Value} {T : TypeId} (h : Row w b T cs) (n : Nat) : Row (w.drewN n) b T cs := ⟨h.at_⟩
theorem Row.alloc {w : World} {b : Nat} {cs : Array Value} {T : TypeId} (h : Row w b T cs) (o : Obj) : Row (w.alloc o) b T cs := by
  have := h.lt
  exact ⟨by rw [Below.heap_alloc _ _ _ this]; exact h.at_⟩
theorem Row.new {w : World} {cs : Array Value} {T : TypeId} : Row (w.alloc (.cells cs T)) w.heap.size T cs := by
  exact ⟨by unfold World.alloc; simp⟩
theorem Row.newAt {w : World} {b : Nat} {cs : Array Value} {T : TypeId} (hb : b = w.heap.size) : Row (w.alloc (.cells cs T)) b T cs := hb ▸ Row.new
theorem Row.set {w : World} {b : Nat} {cs : Array Value} {T : TypeId} (h : Row w b T cs) (i : Nat) (v : Value) : Row (w.setCell ⟨b, i, none⟩ v) b T (cs.setIfInBounds i v) := by
  exact ⟨by simp [World.setCell, Array.getElem?_modify, h.at_]⟩
theorem Row.far {w : World} {b : Nat} {cs : Array Value} {T : TypeId} (h : Row w b T cs) (p : Addr) (v : Value) (hp : b ≠ p.block) : Row (w.setCell p v) b T cs := by
  exact ⟨by rw [Below.heap_setCell _ _ _ _ hp]; exact h.at_⟩

/-- A return whose one result lies in a row of cells. -/
theorem bodyPost_row {P : Program} {fn : Func} {R : Ending → World → Prop} {a : Act} {W : World} {p : Tmp} {T : TypeId} {b : Nat} {v : Value} (hres : fn.results = #[.cell p T])
    (hp : a.tmps.getD p undef = .pointer (some ⟨b, 0, none⟩)) (hload : (loadVar T ⟨b, 0, none⟩).run P W = .ok v W) (hd : a.defers = []) (hR : R (.returned v) W) : bodyPost P fn R .ret a W := by
  refine bodyPost_ret (v := v) ?_ hd hR
  simp only [Array.getD_eq_getD_getElem?] at hp
  simp [results, hres, hp, Sem.run_bind, asAddr, hload, Result.andThen]
/-- .. whose first result lies in a row of cells, the second in a slot. -/
theorem bodyPost_row_tmp {P : Program} {fn : Func} {R : Ending → World → Prop} {a : Act} {W : World} {p u : Tmp} {T : TypeId} {b : Nat} {v v2 : Value} (hres : fn.results = #[.cell p T, .tmp u])
    (hp : a.tmps.getD p undef = .pointer (some ⟨b, 0, none⟩)) (hload : (loadVar T ⟨b, 0, none⟩).run P W = .ok v W) (hu : a.tmps.getD u undef = v2) (hd : a.defers = []) (hR : R (.returned (.tuple #[v, v2])) W) : bodyPost P fn R .ret a W := by
  refine bodyPost_ret (v := .tuple #[v, v2]) ?_ hd hR
  rw [results_cell_tmp hres, hp, hu]
  simp [asAddr, hload, Result.andThen]

end Go.Proofs.Ytilnghebkpcblaa
