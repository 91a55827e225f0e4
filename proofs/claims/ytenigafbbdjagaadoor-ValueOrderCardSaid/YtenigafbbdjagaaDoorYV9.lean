/- The arguments of the laws of values, and the listed variables, taken up from their readings. -/
import Derived.Test.YtenigafbbdjagaaDoorYB1
import Derived.Test.YtenigafbbdjagaaDoorYAT
import Derived.Test.YtenigafbbdjagaaDoorYF1
import Derived.Test.YtenigafbbdjagaaDoorYJ2
import Derived.Test.YtenigafbbdjagaaDoorRows
import Derived.LaidMore
import Derived.OpenShut
import Derived.ChangeArms
import Derived.FnData
import Derived.Stop.Joined
import Derived.Lib.LaidTab
namespace Go.Proofs.YtenigafbbdjagaaDoor.AL
open Go Go.RowKit
set_option linter.unusedVariables false
theorem rVal : ∀ n, RUp Tryd.prog n 23 2 Val.e (fun y => (Lit.int .i64 y.n).wf = true)
  | 0 => .zero
  | n + 1 => rstruct (g := fun (y : Bool × Int) => ⟨y.1, y.2⟩) Tryd.underlying23 (by kernel_rfl) rfl (by kernel_rfl) (fun y => rfl) (fun _ h => h.2) (fun m hm =>
      rparts_cons (by kernel_rfl) (rbool Tryd.underlying4) (rparts_one (by kernel_rfl) (rint Tryd.underlying2)))
theorem rTxt (n : Nat) : RUp Tryd.prog n 9 1 AV.str (fun s => s.length ≤ 140737488351232) := rstr Tryd.underlying9
theorem val_of {v : Val} (h : (Lit.int .i64 v.n).wf = true) : -9223372036854775808 ≤ v.n ∧ v.n ≤ 9223372036854775807 := by
  simpa [Lit.wf, IntKind.min, IntKind.max, IntKind.signed, IntKind.bits] using h
theorem iface_cell {H : Type} {enc : TypeId × Value → H} {P : Program} {w : World} {b : Nat} {sp : Nat → Bool} {fuel : Nat} {t : TypeId} {ms : Array (String × TypeId)} {cs : List Value} {nm : String} {x : DataW H} {p : List MemPlace}
    (ht : P.underlying t = some (.interface ms)) (h : DataW.trod enc P w b sp false fuel t cs = some (.iface nm x, p)) : ∃ u v, cs = [.iface u v] := by
  cases fuel with
  | zero => simp [DataW.trod] at h
  | succ n =>
    simp only [DataW.trod, ht] at h
    split at h
    all_goals first | exact ⟨_, _, rfl⟩ | (simp_all; done)
abbrev laidT : List (String × DataW Unit) := [("math/bits.deBruijn32tab", Rows.laid_math_bits_deBruijn32tab), ("math/bits.deBruijn64tab", Rows.laid_math_bits_deBruijn64tab), ("internal/strconv.uint64pow10", Rows.laid_internal_strconv_uint64pow10), ("strconv.ErrRange", Rows.laid_strconv_ErrRange), ("strconv.ErrSyntax", Rows.laid_strconv_ErrSyntax)]
theorem err_cell {W : World} {n : String} {g : Nat} {nm : String} {x : DataW Unit} {g' t' : Nat} {cs : Array Value} {fuel : Nat} {p : List MemPlace} {ms : Array (String × TypeId)}
    (hg0 : Tryd.prog.globalNamed n = some g) (ht0 : (Tryd.prog.globals[g]?).map (·.type) = some 45) (hu : Tryd.prog.underlying 45 = some (.interface ms))
    (hg : Tryd.prog.globalNamed n = some g') (ht : (Tryd.prog.globals[g']?).map (·.type) = some t') (hv : W.var? Tryd.prog n = some cs)
    (hd : DataW.trod (fun _ => ()) Tryd.prog W 0 (fun _ => true) false fuel t' cs.toList = some (.iface nm x, p)) : ∃ t v, MW W g 0 = some (.iface t v) := by
  obtain rfl := Option.some.inj (hg0.symm.trans hg)
  obtain rfl := Option.some.inj (ht0.symm.trans ht)
  obtain ⟨u, v, hc⟩ := iface_cell hu hd
  refine ⟨u, v, MW_some ?_ rfl⟩
  rw [World.var?_cell hg0 hv 0]
  have : cs.toList[0]? = some (.iface u v) := by rw [hc]; rfl
  simpa using this
theorem tab_of_laid {W : World} (h : laidMetH Tryd.prog laidT W) : TabP (MW W) W := by
  rw [MakeChecks.laidMetH_plain _ _ _ (by kernel_rfl)] at h
  obtain ⟨ps, ⟨ga, ta, csa, fa, pa, qa, hga, hta, hva, hda, ⟨gb, tb, csb, fb, pb, qb, hgb, htb, hvb, hdb, ⟨gc, tc, csc, fc, pc, qc, hgc, htc, hvc, hdc, ⟨gd, td, csd, fd, pd, qd, hgd, htd, hvd, hdd, ⟨ge, te, cse, fe, pe, qe, hge, hte, hve, hde, _, _⟩, _⟩, _⟩, _⟩, _⟩, _, _⟩ := h
  have h2 : Tryd.prog.globalNamed "internal/strconv.uint64pow10" = some 2 := by kernel_rfl
  obtain rfl := Option.some.inj (h2.symm.trans hgc)
  obtain rfl := Option.some.inj ((show (Tryd.prog.globals[2]?).map (·.type) = some 75 by kernel_rfl).symm.trans htc)
  have hcs := Lib.cells_of_tab (zs := pow10) (k := .u64) Tryd.underlying75 Tryd.underlying48 (by kernel_rfl) (by kernel_rfl) hdc
  have hW : TabW W := by
    intro p hp
    obtain rfl : p = (2, pow10.map (.int .u64)) := by simpa [tabs] using hp
    have := hvc
    unfold World.var? at this
    rw [h2] at this
    simp only [Option.bind_some] at this
    split at this
    · rename_i cs e fr hh
      refine ⟨e, fr, ?_⟩
      rw [hh]
      obtain rfl := Option.some.inj this
      rw [← hcs]
    · cases this
  refine ⟨fun p hp j v hv => ?_, fun b hb => ?_, hW⟩
  · obtain rfl : p = (2, pow10.map (.int .u64)) := by simpa [tabs] using hp
    refine MW_some ?_ (by
      simp only [List.getElem?_map, Option.map_eq_some_iff] at hv
      obtain ⟨z, _, rfl⟩ := hv
      rfl)
    rw [World.var?_cell h2 hvc j, ← Array.getElem?_toList, hcs]
    exact hv
  · rcases (show b = 0 ∨ b = 1 by simpa [errs] using hb) with rfl | rfl
    · exact err_cell (n := "strconv.ErrSyntax") (by kernel_rfl) (by kernel_rfl) Tryd.underlying45 hge hte hve hde
    · exact err_cell (n := "strconv.ErrRange") (by kernel_rfl) (by kernel_rfl) Tryd.underlying45 hgd htd hvd hdd
end Go.Proofs.YtenigafbbdjagaaDoor.AL
