/- Steps told by what the machine does: is a slice, a function nil. -/
import Derived.Test.YtekdlkjonihglaaYMB
namespace Go.Proofs.Ytekdlkjonihglaa.AL
open Go Go.RowKit
set_option linter.unusedVariables false
set_option linter.unusedSimpArgs false
section
variable {P : Program} {σ : AS} {o : Oper} {d : Nat} {K : AS → Prop}

theorem run_eq_slN {t e : TypeId} (hu : P.underlying t = some (.slice e)) (n : Nat) (b : Option Addr) (l c : Nat) (w : World) : (Op.equalIn (n + 1) t (.slice b l c) (.slice none 0 0)).run P w = .ok b.isNone w := by
  unfold Op.equalIn
  cases b <;> simp [run_underlying hu]
theorem run_eq_fnN {t : TypeId} {ps rs : Array TypeId} {vd : Bool} (hu : P.underlying t = some (.func ps rs vd)) (n : Nat) (f : Fn) (as bs : Array Value) (w : World) : (Op.equalIn (n + 1) t (.func f as bs) .nilFunc).run P w = .ok false w := by
  unfold Op.equalIn
  simp [run_underlying hu]
theorem lead_nil {t yt e : TypeId} {x : Operand} {sz s2 by_ : Nat} {xs : List AV} (ho : o.op = .binOp .eql t x (.const (.slice none 0 0)) yt) (hdst : o.dst = some d) (hd : d < σ.n)
    (hx : (ev σ x).dat = some (.sl sz xs)) (ht : aty P t = .slice e s2 by_) (h : ∀ β : Bool, (β = true → xs = []) → K (σ.put d (.v (.bool β)))) : Leads P σ o K := by
  intro ro n E a w K' Q' hr hK
  obtain ⟨g, h1, h2, h3⟩ := hr
  obtain ⟨hu, _, _⟩ := aty_slice ht
  have hR := datR h2 hx
  have hun : ∀ b l c, (Op.equalIn Op.maxDepth t (.slice b l c) (.slice none 0 0)).run P w = .ok b.isNone w := fun b l c => run_eq_slN hu 9999 b l c w
  have key : ∃ β : Bool, (β = true → xs = []) ∧ (binOp .eql t (a.eval x) (.slice none 0 0)).run P w = .ok (.bool β) w ∧ (eqGuard .eql t x (.const (.slice none 0 0)) (a.eval x) (.slice none 0 0)).run P w = .ok () w := by
    have hg : ∀ v, v = a.eval x → (∃ b l c, v = Value.slice b l c) → (eqGuard .eql t x (.const (.slice none 0 0)) v (.slice none 0 0)).run P w = .ok () w := by
      rintro v hv ⟨b, l, c, rfl⟩
      exact eqGuard_plain (by simp) (by simp)
    rcases sl_inv hR with ⟨rfl, a0, cap, hv, _, _⟩ | ⟨b, off, cap, vs, hv, _⟩
    · cases a0 with
      | none => exact ⟨true, fun _ => rfl, by rw [hv]; simp [binOp, Op.equal, hun], by rw [hv]; exact hg _ hv.symm ⟨_, _, _, rfl⟩⟩
      | some a0 => exact ⟨false, (fun h => (by cases h)), by rw [hv]; simp [binOp, Op.equal, hun], by rw [hv]; exact hg _ hv.symm ⟨_, _, _, rfl⟩⟩
    · exact ⟨false, (fun h => (by cases h)), by rw [hv]; simp [binOp, Op.equal, hun], by rw [hv]; exact hg _ hv.symm ⟨_, _, _, rfl⟩⟩
  obtain ⟨β, hβ, hrun, hgd⟩ := key
  refine goes_wpIn (E := E) (σ' := σ.put d (.v (.bool β))) (by simp [ho]) ⟨.bool β, w, .inl (execBin ho hgd hrun), ?_⟩ fun v w' hr' => hK _ _ _ (h β hβ) hr'
  rw [hdst]
  exact ⟨g, h1, Tmps.cons h2 hd (.v _ _ (.bool β)), h3⟩

theorem lead_fnil {t yt : TypeId} {x : Operand} {ps rs : Array TypeId} {vd : Bool} {f : FuncId} {cs : List AV} (ho : o.op = .binOp .eql t x (.const .nilFunc) yt) (hdst : o.dst = some d) (hd : d < σ.n)
    (hx : (ev σ x).dat = some (.fn f cs)) (hu : P.underlying t = some (.func ps rs vd)) (h : K (σ.put d (.v (.bool false)))) : Leads P σ o K := by
  intro ro n E a w K' Q' hr hK
  obtain ⟨g, h1, h2, h3⟩ := hr
  have hR := datR h2 hx
  have hun : ∀ f as bs, (Op.equalIn Op.maxDepth t (.func f as bs) .nilFunc).run P w = .ok false w := fun f as bs => run_eq_fnN hu 9999 f as bs w
  have key : (binOp .eql t (a.eval x) .nilFunc).run P w = .ok (.bool false) w ∧ (eqGuard .eql t x (.const .nilFunc) (a.eval x) .nilFunc).run P w = .ok () w := by
    generalize a.eval x = v at hR
    cases hR with
    | fn f cs vs hn hh => exact ⟨by simp [binOp, Op.equal, hun], eqGuard_plain (by simp) (by simp)⟩
  refine goes_wpIn (E := E) (σ' := σ.put d (.v (.bool false))) (by simp [ho]) ⟨.bool false, w, .inl (execBin ho key.2 key.1), ?_⟩ fun v w' hr' => hK _ _ _ h hr'
  rw [hdst]
  exact ⟨g, h1, Tmps.cons h2 hd (.v _ _ (.bool false)), h3⟩
end
end Go.Proofs.Ytekdlkjonihglaa.AL
