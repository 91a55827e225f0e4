/- The types of this program, taken up from an argument's reading. -/
import Derived.Test.YtekdlkjonihglaaYB1
import Derived.Test.YtekdlkjonihglaaYF7
namespace Go.Proofs.Ytekdlkjonihglaa.AL
open Go Go.RowKit
theorem rVal : ∀ n, RUp Try.prog n 46 2 Val.e (fun _ => True)
  | 0 => .zero
  | n + 1 => rstruct (g := fun (y : Bool × Int) => ⟨y.1, y.2⟩) Try.underlying46 (by kernel_rfl) rfl (by kernel_rfl) (fun y => rfl) (fun _ _ => trivial) (fun m hm =>
      rparts_cons (by kernel_rfl) (rbool Try.underlying4) (rparts_one (by kernel_rfl) (rint Try.underlying2)))
theorem rRow (n : Nat) : RUp Try.prog n 41 1 rowE (fun _ => True) :=
  RUp.weak ((rslice (b := 16) Try.underlying41 (by decide) (by kernel_rfl) (by kernel_rfl) (rVal n)).le (Nat.le_succ n)) (fun _ _ => trivial)
theorem rRows (n : Nat) : RUp Try.prog n 32 1 rowsE (fun _ => True) :=
  RUp.weak ((rslice (b := 24) Try.underlying32 (by decide) (by kernel_rfl) (by kernel_rfl) (rRow n)).le (Nat.le_succ n)) (fun _ _ => trivial)
theorem rTrm : ∀ n, RUp Try.prog n 48 5 Trm.e (fun _ => True)
  | 0 => .zero
  | n + 1 => rstruct (g := fun (y : Int × Int × Int × Val) => ⟨y.1, y.2.1, y.2.2.1, y.2.2.2⟩) Try.underlying48 (by kernel_rfl) rfl (by kernel_rfl) (fun y => rfl) (fun _ _ => trivial) (fun m hm =>
      rparts_cons (by kernel_rfl) (rint Try.underlying3) (rparts_cons (by kernel_rfl) (rint Try.underlying3) (rparts_cons (by kernel_rfl) (rint Try.underlying3) (rparts_one (by kernel_rfl) (rVal m)))))
theorem rPrd : ∀ n, RUp Try.prog n 50 14 Prd.e (fun _ => True)
  | 0 => .zero
  | n + 1 => rstruct (g := fun (y : Int × Int × Int × Trm × Trm × List Prd) => .mk y.1 y.2.1 y.2.2.1 y.2.2.2.1 y.2.2.2.2.1 y.2.2.2.2.2) Try.underlying50 (by kernel_rfl) rfl (by kernel_rfl) (fun y => by simp only [Prd.e_eq]; rfl) (fun _ _ => trivial) (fun m hm =>
      rparts_cons (by kernel_rfl) (rint Try.underlying3) (rparts_cons (by kernel_rfl) (rint Try.underlying3) (rparts_cons (by kernel_rfl) (rint Try.underlying3) (rparts_cons (by kernel_rfl) (rTrm m) (rparts_cons (by kernel_rfl) (rTrm m)
        (rparts_one (by kernel_rfl) (RUp.weak ((rslice (b := 128) Try.underlying22 (by decide) (by kernel_rfl) (by kernel_rfl) (rPrd n)).le (by omega)) (fun _ _ => trivial))))))))
theorem rPrds (n : Nat) : RUp Try.prog n 22 1 prdsE (fun _ => True) :=
  RUp.weak ((rslice (b := 128) Try.underlying22 (by decide) (by kernel_rfl) (by kernel_rfl) (rPrd n)).le (Nat.le_succ n)) (fun _ _ => trivial)
theorem rTups (n : Nat) : RUp Try.prog n 23 1 (fun l : List (List (List Val)) => .sl 1 (l.map rowsE)) (fun _ => True) :=
  RUp.weak ((rslice (b := 24) Try.underlying23 (by decide) (by kernel_rfl) (by kernel_rfl) (rRows n)).le (Nat.le_succ n)) (fun _ _ => trivial)
end Go.Proofs.Ytekdlkjonihglaa.AL
