/- The closed facts of the program that every row's proof asks, each by itself (one kernel run for all of them takes too much memory). -/
import Derived.Test.YtdgejkiackeieaaDoorCards
import Derived.JoinedOf
import Derived.SevenTiedAt
import Derived.Stop.Joined
namespace Go.Proofs.YtdgejkiackeieaaDoor.Facts
open Go
set_option maxRecDepth 100000
theorem laidOut : laidOutB Tryd.prog = true := by kernel_rfl
theorem rowed : mapsRowed Tryd.prog = true := by kernel_rfl
theorem stops : (Tryd.prog.stops == []) = true := by kernel_rfl
theorem knobs : (Tryd.prog.stopKnobs == []) = true := by kernel_rfl
theorem plain : (Rows.digestHexesRow.plainKeys == Tryd.prog.plainKeys) = true := by kernel_rfl
theorem heard : Tryd.prog.stopsHeard = true := by kernel_rfl
theorem enter : Tryd.prog.mayEnter = true := by kernel_rfl
theorem lifted : (Rows.digestHexesRow.lifted == Tryd.prog.liftsFinal) = true := by kernel_rfl
theorem make : (Tryd.prog.make == some Rows.digestHexesRow.make) = true := by kernel_rfl
theorem main : Tryd.prog.mainIs = some (true, "deabea112e40b4d73330d7c5bfa97124504dfc90892305b8c145421c8cac0f81".toList) := by kernel_rfl
theorem looks : false = Tryd.prog.looks [] := by kernel_rfl
end Go.Proofs.YtdgejkiackeieaaDoor.Facts
