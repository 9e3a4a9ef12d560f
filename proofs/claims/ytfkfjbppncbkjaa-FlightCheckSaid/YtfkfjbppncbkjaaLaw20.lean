/-
  Layer 20, flight: the example of the document holds.
-/
import Derived.Test.YtfkfjbppncbkjaaFlight2
import Derived.Test.YtfkfjbppncbkjaaFlight3
namespace Go.Proofs.Ytfkfjbppncbkjaa
open Go.RowKit
namespace Fl

set_option maxRecDepth 100000 in
set_option maxHeartbeats 1000000 in
theorem wakes_any (w : World) : Calls Try.prog 13 #[] w fun e w' => e = .returned (.bool true) ∧ Below w.heap.size w w' := by
  have p0 : pos 0 = 0 := rfl
  have p1 : pos 1 = 1 := rfl
  have p2 : pos 2 = 2 := rfl
  have n1 : partN 2 1 = 1 := rfl
  have n2 : partN 1 1 = 0 := rfl
  have c1 : cutB 7 false 1 = false := rfl
  have c2 : cutB 7 false 0 = true := rfl
  have s1 : startsB 7 1 = false := rfl
  have s2 : startsB (-1) 1 = true := rfl
  have k1 : chk 7 true 1 = 0 := rfl
  go_enter Try.func13, Try.ntmps13
  go_wp2_with (first
    | (go_at_call 28; refine (none_any _).grows ?_; rintro _ xg rfl)
    | (go_at_call 22; refine (join_any _ _ _ _ _ _ _ (by simp [pos])).grows ?_; rintro _ xg rfl)
    | (go_at_call 16; refine (begin_yes _ _ _ _ _ rfl).grows ?_; rintro _ xg rfl)
    | (go_at_call 14; refine (part_any _ _ _ _ _ (by omega) (by omega)).grows ?_; rintro _ xg rfl)
    | (go_at_call 24; refine (starts_any _ _ _ _).grows ?_; rintro _ xg rfl)
    | (go_at_call 26; refine (end_any _ _ _ _).grows ?_; rintro _ xg rfl)
    | (go_at_call 20; refine (check_any _ _ _ _).grows ?_; rintro _ xg rfl)
    | (go_at_call 18; refine (on_any _ _ _ _).grows ?_; rintro _ xg rfl))
  go_returns
  exact ⟨rfl, by (repeat' (first | (with_reducible exact Below.refl _ _) | (with_reducible assumption) | (with_reducible refine Below.ext ?_ ?_ _) | (with_reducible refine Below.alloc ?_ ?_ _) | (with_reducible refine Below.drew ?_) | (with_reducible refine Below.setCell ?_ ?_ _) | go_size | (simp only [World.size_ext, World.size_alloc, World.size_setCell, World.size_drew]; omega)))⟩

end Fl
end Go.Proofs.Ytfkfjbppncbkjaa
