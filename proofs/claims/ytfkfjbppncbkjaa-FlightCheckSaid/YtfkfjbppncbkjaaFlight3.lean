/-
  Package flight (layer 20): End.
-/
import Derived.Test.YtfkfjbppncbkjaaFlight
namespace Go.Proofs.Ytfkfjbppncbkjaa
open Go.RowKit
namespace Fl

theorem end_any (r : Int) (c : Bool) (n : Int) (w : World) :
    Calls Try.prog 26 #[v r c n] w fun e w' => e = .returned (v (-1) false (pos n)) ∧ Below w.heap.size w w' := by
  go_enter Try.func26, Try.ntmps26
  go_wp2_with (first | (go_at_call 28; refine (none_any _).grows ?_; rintro _ xg rfl) | (go_at_call 49; refine (refs_any _ _ _ _).grows ?_; rintro _ xg rfl))
  go_returns
  exact ⟨rfl, by (repeat' (first | (with_reducible exact Below.refl _ _) | (with_reducible assumption) | (with_reducible refine Below.ext ?_ ?_ _) | (with_reducible refine Below.alloc ?_ ?_ _) | (with_reducible refine Below.drew ?_) | (with_reducible refine Below.setCell ?_ ?_ _) | go_size | (simp only [World.size_ext, World.size_alloc, World.size_setCell, World.size_drew]; omega)))⟩

end Fl
end Go.Proofs.Ytfkfjbppncbkjaa
