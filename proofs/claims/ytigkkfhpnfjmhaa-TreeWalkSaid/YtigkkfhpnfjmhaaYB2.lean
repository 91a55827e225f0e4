/- The types of this program, taken up from an argument's reading. -/
import Derived.Test.YtigkkfhpnfjmhaaYB1
import Derived.Test.YtigkkfhpnfjmhaaYF7
namespace Go.Proofs.Ytigkkfhpnfjmhaa.AL
open Go Go.RowKit
theorem rVal : ∀ n, RUp Try.prog n 42 2 Val.e (fun _ => True)
  | 0 => .zero
  | n + 1 => rstruct (g := fun (y : Bool × Int) => ⟨y.1, y.2⟩) Try.underlying42 (by kernel_rfl) rfl (by kernel_rfl) (fun y => rfl) (fun _ _ => trivial) (fun m hm =>
      rparts_cons (by kernel_rfl) (rbool Try.underlying4) (rparts_one (by kernel_rfl) (rint Try.underlying2)))
theorem rTrm : ∀ n, RUp Try.prog n 44 5 Trm.e (fun _ => True)
  | 0 => .zero
  | n + 1 => rstruct (g := fun (y : Int × Int × Int × Val) => ⟨y.1, y.2.1, y.2.2.1, y.2.2.2⟩) Try.underlying44 (by kernel_rfl) rfl (by kernel_rfl) (fun y => rfl) (fun _ _ => trivial) (fun m hm =>
      rparts_cons (by kernel_rfl) (rint Try.underlying3) (rparts_cons (by kernel_rfl) (rint Try.underlying3) (rparts_cons (by kernel_rfl) (rint Try.underlying3) (rparts_one (by kernel_rfl) (rVal m)))))
theorem rPrd : ∀ n, RUp Try.prog n 46 14 Prd.e (fun _ => True)
  | 0 => .zero
  | n + 1 => rstruct (g := fun (y : Int × Int × Int × Trm × Trm × List Prd) => .mk y.1 y.2.1 y.2.2.1 y.2.2.2.1 y.2.2.2.2.1 y.2.2.2.2.2) Try.underlying46 (by kernel_rfl) rfl (by kernel_rfl) (fun y => by simp only [Prd.e_eq]; rfl) (fun _ _ => trivial) (fun m hm =>
      rparts_cons (by kernel_rfl) (rint Try.underlying3) (rparts_cons (by kernel_rfl) (rint Try.underlying3) (rparts_cons (by kernel_rfl) (rint Try.underlying3) (rparts_cons (by kernel_rfl) (rTrm m) (rparts_cons (by kernel_rfl) (rTrm m)
        (rparts_one (by kernel_rfl) (RUp.weak ((rslice (b := 128) Try.underlying23 (by decide) (by kernel_rfl) (by kernel_rfl) (rPrd n)).le (by omega)) (fun _ _ => trivial))))))))
end Go.Proofs.Ytigkkfhpnfjmhaa.AL
