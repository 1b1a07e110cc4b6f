/- Calls that make a variable and hand back a pointer to it: none in this seat. -/
import Derived.Test.YtmdefiphdgcijaaDoorVmTab
namespace Go.Proofs.YtmdefiphdgcijaaDoor
def c0y:Nat→List Arg→Option (Vc×e0j):=fun _ _=>none
theorem d8z:∀ f args pre cells,c0y f args=some (pre,cells)→pre.ok→a5p a0k f∧e8t a0k f args cells:=fun _ _ _ _ h=>by cases h
end Go.Proofs.YtmdefiphdgcijaaDoor
