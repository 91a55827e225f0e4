/- Trees, taken up from an argument's reading. -/
import Derived.Test.YtigkkfhpnfjmhaaYB2
import Derived.Test.YtigkkfhpnfjmhaaYH1
namespace Go.Proofs.Ytigkkfhpnfjmhaa.AL
open Go Go.RowKit
theorem rTre : ∀ n, RUp Try.prog n 25 5 Tre.e (fun _ => True)
  | 0 => .zero
  | n + 1 => rstruct (g := fun (y : Int × Int × List Tre × List Prd × Bool) => .mk y.1 y.2.1 y.2.2.1 y.2.2.2.1 y.2.2.2.2) Try.underlying25 (by kernel_rfl) rfl (by kernel_rfl) (fun y => by simp only [Tre.e_eq]; rfl) (fun _ _ => trivial) (fun m hm =>
      rparts_cons (by kernel_rfl) (rint Try.underlying3) (rparts_cons (by kernel_rfl) (rint Try.underlying3)
        (rparts_cons (by kernel_rfl) (RUp.weak ((rslice (b := 72) Try.underlying22 (by decide) (by kernel_rfl) (by kernel_rfl) (rTre n)).le (by omega)) (fun _ _ => trivial))
        (rparts_cons (by kernel_rfl) (RUp.weak ((rslice (b := 128) Try.underlying23 (by decide) (by kernel_rfl) (by kernel_rfl) (rPrd n)).le (by omega)) (fun _ _ => trivial))
        (rparts_one (by kernel_rfl) (rbool Try.underlying4))))))
end Go.Proofs.Ytigkkfhpnfjmhaa.AL
