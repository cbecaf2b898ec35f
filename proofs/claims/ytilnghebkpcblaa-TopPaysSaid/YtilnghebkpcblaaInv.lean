/- A region that draws its order, whose operations read and whose calls hand back one value in every world that meets an invariant (and leave a world that meets it): one walk in the order of the text. -/
import Derived.Test.YtilnghebkpcblaaBase
namespace Go.Proofs.Ytilnghebkpcblaa
open Go.RowKit

structure InW (Inv : World → Prop) where
  w : World
  h : Inv w
theorem wp_region_inv {P : Program} {id : Nat} {Q : Exit → Act → World → Prop} {a : Act} {w : World} {l : List Oper} (Inv : World → Prop) (hm : P.follows .mixedOrders = true) (hB : Region.lexB .any l.toArray = true)
    (hC : Inv w.drew)
    (h : Nonempty (InW Inv) → wpQuiet P l.toArray (fun w' => ∃ x : InW Inv, w' = x.w) (fun a' => ∀ w', (∃ x : InW Inv, w' = x.w) → Q .normal a' w') l a) : (Code.region id l.toArray true).wp P Q a w :=
  wp_region_quiet (C := fun w' => ∃ x : InW Inv, w' = x.w) hm hB ⟨⟨_, hC⟩, rfl⟩ (by simpa using h ⟨⟨_, hC⟩⟩)
/-- A call whose contract is met in every world that meets the invariant. -/
theorem Calls.inv {P : Program} {f : FuncId} {args : Array Value} {Inv : World → Prop} {v : Value} {W : World} {R : Ending → World → Prop} (h : Calls P f args W R) (hr : ∀ e w', R e w' → e = .returned v ∧ Inv w') :
    Calls P f args W fun e w'' => e = .returned v ∧ ∃ x : InW Inv, w'' = x.w :=
  h.mono fun e w' r => ⟨(hr e w' r).1, ⟨⟨w', (hr e w' r).2⟩, rfl⟩⟩
end Go.Proofs.Ytilnghebkpcblaa
