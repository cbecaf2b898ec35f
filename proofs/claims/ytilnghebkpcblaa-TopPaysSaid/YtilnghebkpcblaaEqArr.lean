/- Two arrays of one-cell elements, compared: what '==' on them gives. -/
import Derived.Test.YtilnghebkpcblaaBase
namespace Go.Proofs.Ytilnghebkpcblaa
open Go.RowKit

theorem equal_arr_loop {P : Program} (d : Nat) (E : TypeId) (f : Value → Value → Bool) (xs ys : List Value)
    (hn : ∀ w, (sizeOf E).run P w = .ok 1 w) (hp : ∀ (zs : List Value) (i : Nat) (v : Value) (w : World), zs[i]? = some v → (part E zs.toArray i).run P w = .ok v w)
    (hl : xs.length = ys.length) (hq : ∀ x y w, x ∈ xs → y ∈ ys → (Op.equalIn d E x y).run P w = .ok (f x y) w) :
    ∀ (k i : Nat) (w : World), i + k = xs.length →
      ((forIn (List.range' i k) (none, ()) fun i (__s : Option Bool × Unit) => do
          let a ← part E xs.toArray (i * 1)
          let b ← part E ys.toArray (i * 1)
          let r ← Op.equalIn d E a b
          if (!r) = true then pure (ForInStep.done (some false, ())) else pure (ForInStep.yield (none, ())) : Sem (Option Bool × Unit))).run P w =
      .ok (if ((List.zipWith f (xs.drop i) (ys.drop i)).all id) = true then none else some false, ()) w := by
  intro k
  induction k with
  | zero => intro i w h; simp [show xs.length ≤ i by omega, List.drop_eq_nil_of_le]
  | succ k ih =>
    intro i w h
    have hi : i < xs.length := by omega
    have hi' : i < ys.length := by omega
    rw [List.range'_succ, List.forIn_cons]
    simp only [Nat.mul_one]
    rw [List.drop_eq_getElem_cons hi, List.drop_eq_getElem_cons hi', List.zipWith_cons_cons, List.all_cons]
    have ih := ih (i + 1) w (by omega)
    simp only [Nat.mul_one] at ih
    generalize List.zipWith f (xs.drop (i + 1)) (ys.drop (i + 1)) = Z at *
    simp only [Sem.run_bind, hp xs i xs[i] w (by simp [hi]), Result.andThen_ok, hp ys i ys[i] w (by simp [hi']), hq xs[i] ys[i] w (by simp) (by simp)]
    cases hf : f xs[i] ys[i] with
    | false => simp
    | true =>
      simp only [Bool.not_true, Bool.false_eq_true, if_false, id, Bool.true_and, Sem.run_pure, Result.andThen_ok]
      exact ih

theorem run_equal_arr {P : Program} (d : Nat) (T E : TypeId) (len : Nat) (f : Value → Value → Bool) (xs ys : List Value) (hT : P.underlying T = some (.array len E))
    (hn : ∀ w, (sizeOf E).run P w = .ok 1 w) (hp : ∀ (zs : List Value) (i : Nat) (v : Value) (w : World), zs[i]? = some v → (part E zs.toArray i).run P w = .ok v w)
    (hx : xs.length = len) (hy : ys.length = len) (hq : ∀ x y w, x ∈ xs → y ∈ ys → (Op.equalIn d E x y).run P w = .ok (f x y) w) (w : World) :
    (Op.equalIn (d + 1) T (.agg xs.toArray) (.agg ys.toArray)).run P w = .ok ((List.zipWith f xs ys).all id) w := by
  have h := equal_arr_loop d E f xs ys hn hp (by omega) hq len 0 w (by omega)
  simp only [Op.equalIn, Sem.run_bind, run_underlying hT, Result.andThen_ok, hn]
  rw [Std.Legacy.Range.forIn_eq_forIn_range']
  simp only [Std.Legacy.Range.size, Nat.sub_zero, Nat.add_sub_cancel, Nat.div_one]
  rw [h, Result.andThen_ok]
  simp only [List.drop_zero]
  cases hz : (List.zipWith f xs ys).all id <;> simp
theorem sizeOf_int3 {w : World} : (sizeOf 3).run Try.prog w = .ok 1 w := by simp [go_sem]
theorem part_int3 (zs : List Value) (i : Nat) (v : Value) (w : World) (h : zs[i]? = some v) : (part 3 zs.toArray i).run Try.prog w = .ok v w := by
  simp [go_sem, part, h]
theorem equal_int3 (d : Nat) (k : IntKind) (x y : Int) (w : World) : (Op.equalIn (d + 1) 3 (.int k x) (.int k y)).run Try.prog w = .ok (x == y) w := by
  simp [go_sem, Op.equalIn]
def intEq : Value → Value → Bool
  | .int _ a, .int _ b => a == b
  | _, _ => false
end Go.Proofs.Ytilnghebkpcblaa
