/- Iterators: how their code is stepped through. -/
import Derived.Test.YtekdlkjonihglaaYA24
namespace Go.Proofs.Ytekdlkjonihglaa.AL
open Go Go.RowKit
set_option linter.unusedVariables false
set_option linter.unusedSimpArgs false

abbrev Hold := Option Nat → (Nat → Prop) → Mem → World → Prop

def RelY (J : Hold) (φ0 : Nat → Option Nat) (y : Option Nat) (σ : AS) (a : Act) (w : World) : Prop :=
  ∃ g U, Wf g w σ.b σ.k ∧ Tmps g w σ a ∧ (∀ b, g.X b → U b) ∧ (∀ b ∈ g.D, U b) ∧ (∀ s b, s ≥ 1000000 → φ0 s = some b → g.φ s = some b) ∧ J y U g.M w

structure TriY (P : Program) (J : Hold) (φ0 : Nat → Option Nat) (c : Code) (y : Option Nat) (σ : AS) (Q : Exit → Option Nat → AS → Prop) : Prop where
  h : ∀ a w, RelY J φ0 y σ a w → c.wpIn (Fw none) 0 P (fun e a' w' => ∃ y' σ', Q e y' σ' ∧ RelY J φ0 y' σ' a' w') a w

def YldOk (P : Program) (J : Hold) (l : Nat) (xs : List (List AV)) : Prop :=
  ∀ k U N W args, (h : k < xs.length) → J (some k) U N W → ArgsR N xs[k] args →
    YieldAt Fence.wide 0 P l args W fun e W' => (∀ b, U b → W'.heap[b]? = W.heap[b]?) ∧ W.heap.size ≤ W'.heap.size ∧ W'.os = W.os ∧ W'.tape = W.tape ∧ W'.output = W.output ∧
      ((e = .returned (.bool true) ∧ J (some (k + 1)) U N W') ∨ (e = .returned (.bool false) ∧ J none U N W'))

section
variable {P : Program} {J : Hold} {φ0 : Nat → Option Nat} {y y' : Option Nat} {σ σ' : AS} {a : Act} {w w' : World} {g g' : GS} {Q : Exit → Option Nat → AS → Prop} {c : Code} {U : Nat → Prop}

/-- A step of the run's own. -/
theorem RelY.step (hJ : Stab J) (hX : ∀ b, g.X b → U b) (hD : ∀ b ∈ g.D, U b) (hφ : ∀ s b, s ≥ 1000000 → φ0 s = some b → g.φ s = some b) (hj : J y U g.M w) (hr : Rel ⟨g, w⟩ σ' a w') : RelY J φ0 y σ' a w' := by
  obtain ⟨g', h1, h2, h3⟩ := hr
  have hs : w.heap.size ≤ w'.heap.size := h3.size
  have hm : MLe g.M g'.M := h3.M
  refine ⟨g', fun b => U b ∨ (w.heap.size ≤ b ∧ b < w'.heap.size), h1, h2, fun b hb => ?_, fun b hb => ?_, fun s b hs' hb => h3.φ s b hs' (hφ s b hs' hb), ?_⟩
  · rcases h3.X hb with h | h
    · exact .inr ⟨h, X_lt h1 hb⟩
    · exact .inl (hX b h)
  · rcases h3.dn b hb with h | h
    · exact .inr ⟨h, (Array.getElem?_eq_some_iff.1 (h1.dfr b hb)).1⟩
    · exact .inl (hD b h)
  · refine hJ.st _ _ _ _ _ _ hj (fun j hj' hu => h3.heap j hj' fun hx => hu (hX j hx)) hs h3.os h3.tape h3.output hm h1.mem fun b o v hv => ?_
    rcases h3.Mn b o v hv with h | h | h
    · exact .inl h
    · exact .inr (.inr h)
    · exact .inr (.inl (hX b h))

theorem ty_lift (hJ : Stab J) {Q' : Exit → AS → Prop} (h : Tri P none 0 c σ Q') (hq : ∀ e s, Q' e s → Q e y s) : TriY P J φ0 c y σ Q := by
  refine ⟨fun a w hr => ?_⟩
  obtain ⟨g, U, h1, h2, h3, h4, h5, h6⟩ := hr
  refine wpIn_mono (h ⟨g, w⟩ (fun l hl => by cases hl) a w ⟨g, h1, h2, Ext.refl _ _⟩) ?_
  rintro e a' w' ⟨σ', hq', hr⟩
  exact ⟨y, σ', hq e σ' hq', RelY.step hJ h3 h4 h5 h6 hr⟩

theorem RelY.le {s : AS} (h : RelY J φ0 y σ a w) (hl : Le s σ) : RelY J φ0 y s a w := by
  obtain ⟨g, U, h1, h2, h3⟩ := h
  obtain ⟨g', q1, q2, q3⟩ := Rel.le (E := ⟨g, w⟩) ⟨g, h1, h2, Ext.refl _ _⟩ hl
  refine ⟨g, U, { h1 with
            box := fun t cs ht => h1.box t cs (hl.b _ (get_mem ht))
            live := fun t ht => h1.live t (memK_mem (hl.k t ht)) }, ⟨h2.1, by rw [hl.n]; exact h2.2.1, fun t y hy => ?_, h2.2.2.2⟩, h3⟩
  have := h2.2.2.1 t y (hl.t _ (get_mem hy))
  rw [hl.n]; exact this

def thenY (K : Option Nat → AS → Prop) (Q : Exit → Option Nat → AS → Prop) : Exit → Option Nat → AS → Prop
  | .normal, y, s => K y s
  | e, y, s => Q e y s
theorem ty_seq {c' : Code} (h : TriY P J φ0 c y σ (thenY (fun y' s => TriY P J φ0 c' y' s Q) Q)) : TriY P J φ0 (.seq c c') y σ Q := by
  refine ⟨fun a w hr => wpIn_seq (wpIn_mono (h.h a w hr) ?_)⟩
  rintro e a' w' ⟨y', σ', q, r⟩
  cases e <;> first | exact q.h a' w' r | exact ⟨y', σ', q, r⟩
def blkY (id : Nat) (Q : Exit → Option Nat → AS → Prop) : Exit → Option Nat → AS → Prop
  | .exit id', y, s => if id' = id then Q .normal y s else Q (.exit id') y s
  | e, y, s => Q e y s
theorem ty_block {id : Nat} (h : TriY P J φ0 c y σ (blkY id Q)) : TriY P J φ0 (.block id c) y σ Q := by
  refine ⟨fun a w hr => wpIn_block (wpIn_mono (h.h a w hr) ?_)⟩
  rintro e a' w' ⟨y', σ', q, r⟩
  cases e with
  | exit id' =>
    simp only [Exit.inBlock, blkY] at q ⊢
    split
    · rename_i hid; rw [if_pos hid] at q; exact ⟨y', σ', q, r⟩
    · rename_i hid; rw [if_neg hid] at q; exact ⟨y', σ', q, r⟩
  | _ => exact ⟨y', σ', q, r⟩
theorem ty_le {s : AS} (hl : Le s σ) (h : TriY P J φ0 c y s Q) : TriY P J φ0 c y σ Q := ⟨fun a w hr => h.h a w (hr.le hl)⟩
theorem ty_cond {o : Operand} {c' : Code} {t : Bool} (hc : ev σ o = .v (.bool t)) (h1 : t = true → TriY P J φ0 c y σ Q) (h2 : t = false → TriY P J φ0 c' y σ Q) : TriY P J φ0 (.cond o c c') y σ Q := by
  refine ⟨fun a w hr => ?_⟩
  have hr' := hr
  obtain ⟨g, U, w1, w2, w3⟩ := hr
  have hv := ev_rt w2 o
  rw [hc] at hv
  have := bool_inv (v_inv hv)
  exact wpIn_cond_split this (fun ht => (h1 ht).h a w hr') (fun ht => (h2 ht).h a w hr')
theorem ty_mono {Q' : Exit → Option Nat → AS → Prop} (h : TriY P J φ0 c y σ Q') (hq : ∀ e y s, Q' e y s → Q e y s) : TriY P J φ0 c y σ Q :=
  ⟨fun a w hr => wpIn_mono (h.h a w hr) fun e a' w' ⟨y', σ', q, r⟩ => ⟨y', σ', hq _ _ _ q, r⟩⟩
theorem ty_skip (h : Q .normal y σ) : TriY P J φ0 .skip y σ Q := ⟨fun a w hr => wpIn_skip ⟨y, σ, h, hr⟩⟩
theorem ty_exit {id : Nat} (h : Q (.exit id) y σ) : TriY P J φ0 (.exit id) y σ Q := ⟨fun a w hr => wpIn_exit ⟨y, σ, h, hr⟩⟩
theorem ty_ret (h : Q .ret y σ) : TriY P J φ0 .ret y σ Q := ⟨fun a w hr => wpIn_ret ⟨y, σ, h, hr⟩⟩
theorem ty_loop (I : Nat → Option Nat → AS → Prop) (m : Nat) (h0 : I m y σ)
    (round : ∀ m y s, I m y s → TriY P J φ0 c y s (thenY (fun y' s' => ∃ m', m' < m ∧ I m' y' s') Q)) : TriY P J φ0 (.loop c) y σ Q := by
  refine ⟨fun a w hr b k cs hro hb hroom => ?_⟩
  have key : ∀ j a w, (∃ y s, I j y s ∧ RelY J φ0 y s a w) →
      ∃ e a' w', (∃ y' σ', Q e y' σ' ∧ RelY J φ0 y' σ' a' w') ∧ ArrivesIn (Machine.fenced P (Fw none)) P (lone (b.atR a (.code c :: .inLoop c :: k)) cs w) b k cs e a' w' := by
    intro j
    induction j using Nat.strongRecOn with
    | _ j ih =>
      rintro a w ⟨y, s, hI, hr⟩
      obtain ⟨e, a₁, w₁, ⟨y', σ', hq, hr'⟩, harr⟩ := (round j y s hI).h a w hr b (.inLoop c :: k) cs hro hb hroom
      cases e with
      | normal =>
        obtain ⟨m', hlt, hI₁⟩ := hq
        obtain ⟨e₂, a₂, w₂, hq₂, harr₂⟩ := ih m' hlt a₁ w₁ ⟨y', σ', hI₁, hr'⟩
        exact ⟨e₂, a₂, w₂, hq₂, .of_steps (StepsIn.trans harr (.one (fenced_calm hb hroom rfl) stepR_inLoop)) harr₂⟩
      | exit id => exact ⟨_, a₁, w₁, ⟨y', σ', hq, hr'⟩, .pass (x := .inLoop c) rfl (fun _ _ => .inl (by simp)) harr⟩
      | goto l => exact ⟨_, a₁, w₁, ⟨y', σ', hq, hr'⟩, .pass (x := .inLoop c) rfl (fun _ _ => .inl (by simp)) harr⟩
      | ret => exact ⟨_, a₁, w₁, ⟨y', σ', hq, hr'⟩, .pass (x := .inLoop c) rfl (fun _ _ => .inl (by simp)) harr⟩
      | panic ch => exact ⟨_, a₁, w₁, ⟨y', σ', hq, hr'⟩, .pass (x := .inLoop c) rfl (fun _ _ => .inl (by simp)) harr⟩
      | outgrown => exact ⟨_, a₁, w₁, ⟨y', σ', hq, hr'⟩, .pass (x := .inLoop c) rfl (fun _ _ => .inl (by simp)) harr⟩
  obtain ⟨e, a', w', hq, harr⟩ := key _ a w ⟨y, σ, h0, hr⟩
  exact ⟨e, a', w', hq, .of_steps (.one (fenced_calm hb hroom rfl) stepR_loop) harr⟩
theorem ty_for {α : Type} (St : α → AS) (Y : α → Option Nat) (Inv : α → Prop) (μ : α → Nat) (x0 : α) (hy : Y x0 = y) (hl : Le (St x0) σ) (h0 : Inv x0)
    (round : ∀ x, Inv x → TriY P J φ0 c (Y x) (St x) (thenY (fun y' s' => ∃ x', Inv x' ∧ μ x' < μ x ∧ Y x' = y' ∧ Le (St x') s') Q)) : TriY P J φ0 (.loop c) y σ Q := by
  refine ty_loop (fun m y s => ∃ x, Inv x ∧ μ x = m ∧ Y x = y ∧ Le (St x) s) (μ x0) ⟨x0, h0, rfl, hy, hl⟩ ?_
  rintro m y s ⟨x, hI, rfl, rfl, hle⟩
  refine ty_le hle (ty_mono (round x hI) ?_)
  intro e y' s' hq
  cases e with
  | normal => obtain ⟨x', h1, h2, h3, h4⟩ := hq; exact ⟨_, h2, x', h1, rfl, h3, h4⟩
  | _ => exact hq

/-! ### Regions -/
structure OpsY (P : Program) (J : Hold) (φ0 : Nat → Option Nat) (ops rest : List Oper) (y : Option Nat) (σ : AS) (Q : Option Nat → AS → Prop) : Prop where
  h : ∀ (Q' : Exit → Act → World → Prop), (∀ y' σ' a' w', Q y' σ' → RelY J φ0 y' σ' a' w' → Q' .normal a' w') → ∀ pre a w, ops = pre ++ rest → RelY J φ0 y σ a w → wpOpsIn (Fw none) 0 P ops.toArray Q' (List.range' pre.length rest.length) a w
theorem ty_region {id : Nat} {ops : List Oper} (h : OpsY P J φ0 ops ops y σ (Q .normal)) : TriY P J φ0 (.region id ops.toArray false) y σ Q := by
  refine ⟨fun a w hr => wpIn_region ?_⟩
  have := h.h (fun e a' w' => ∃ y' σ', Q e y' σ' ∧ RelY J φ0 y' σ' a' w') (fun y' σ' a' w' hq hr' => ⟨y', σ', hq, hr'⟩) [] a w (by simp) hr
  simpa [List.range_eq_range'] using this
variable {ops rest : List Oper} {o : Oper} {K : Option Nat → AS → Prop} {d t : Nat}
theorem oy_nil (h : K y σ) : OpsY P J φ0 ops [] y σ K := ⟨fun Q' hK pre a w _ hr => hK _ _ _ _ h hr⟩
theorem want_y (hr : RelY J φ0 y σ a w) {ops : Array Oper} {b : Bool} (h : wantA ops.toList σ o = some b) : Region.wanted o (yielded ops a.tmps) = b := by
  obtain ⟨g, U, h1, h2, _⟩ := hr
  exact want_ok (E := ⟨g, w⟩) ⟨g, h1, h2, Ext.refl _ _⟩ h
/-- One operation, whatever it is. -/
def StepY (P : Program) (J : Hold) (φ0 : Nat → Option Nat) (o : Oper) (y : Option Nat) (σ : AS) (K : Option Nat → AS → Prop) : Prop :=
  ∀ (K' : Act → World → Prop) (Q' : Exit → Act → World → Prop) a w, RelY J φ0 y σ a w → (∀ y' σ' a' w', K y' σ' → RelY J φ0 y' σ' a' w' → K' a' w') → o.wpIn (Fw none) 0 P a w K' Q'
theorem oy_step (hw : wantA ops σ o = some true) (h : StepY P J φ0 o y σ fun y' s => OpsY P J φ0 ops rest y' s K) : OpsY P J φ0 ops (o :: rest) y σ K := by
  refine ⟨fun Q' hK pre a w he hr => ?_⟩
  have hat : ops.toArray[pre.length]? = some o := by
    have : ops[pre.length]? = some o := by rw [he]; simp
    simpa using this
  have hwt := want_y hr (ops := ops.toArray) (by simpa using hw)
  simp only [List.length_cons, List.range'_succ, wpOpsIn, hat]
  rw [if_pos hwt]
  refine h _ Q' a w hr fun y' σ' a' w' hk hr' => ?_
  have := hk.h Q' hK (pre ++ [o]) a' w' (by rw [he]; simp) hr'
  simpa using this
theorem oy_skip (hw : wantA ops σ o = some false) (hd : o.dst = some d) (hn : d < σ.n) (h : OpsY P J φ0 ops rest y (σ.put d (.tup [])) K) : OpsY P J φ0 ops (o :: rest) y σ K := by
  refine ⟨fun Q' hK pre a w he hr => ?_⟩
  have hat : ops.toArray[pre.length]? = some o := by
    have : ops[pre.length]? = some o := by rw [he]; simp
    simpa using this
  have hwt := want_y hr (ops := ops.toArray) (by simpa using hw)
  simp only [List.length_cons, List.range'_succ, wpOpsIn, hat]
  rw [if_neg (by simp [hwt])]
  refine ⟨fenceW o w _, ?_⟩
  have hr2 : RelY J φ0 y (σ.put d (.tup [])) (a.put o.dst Go.undef) w := by
    obtain ⟨g, U, h1, h2, h3⟩ := hr
    rw [hd]
    exact ⟨g, U, h1, Tmps.cons h2 hn (.tup [] #[] rfl fun j c v hc => by simp at hc), h3⟩
  have := h.h Q' hK (pre ++ [o]) _ w (by rw [he]; simp) hr2
  simpa using this
theorem sy_own (hJ : Stab J) {K' : AS → Prop} (h : StepP P σ o K') (hk : ∀ s, K' s → K y s) : StepY P J φ0 o y σ K := by
  intro K2 Q' a w hr hK
  obtain ⟨g, U, h1, h2, h3, h4, h5, h6⟩ := hr
  exact step_ok (E := ⟨g, w⟩) ⟨g, h1, h2, Ext.refl _ _⟩ h fun σ' a' w' hs hr' => hK _ _ _ _ (hk _ hs) (RelY.step hJ h3 h4 h5 h6 hr')
theorem yld_inv {M : Mem} {l : Nat} {v : Value} (h : R M (.yld l) v) : v = .func (.yield l) #[] #[] := by cases h; rfl
/-- A round is asked for. -/
theorem sy_yield (hJ : Stab J) {l : Nat} {xs : List (List AV)} (hY : YldOk P J l xs) {k : Nat} {args : Array Operand} {ats : Array TypeId} {T : TypeId} {pos : String} {after : Array Edge} {gd : Option (Nat × Bool)} (hk : k < xs.length) (hd : d < σ.n)
    (hf : get t σ.t = some (.v (.yld l))) (ha : datArgs P σ args.toList ats.toList = some xs[k]) (h1 : K (some (k + 1)) (σ.put d (.v (.bool true)))) (h2 : K none (σ.put d (.v (.bool false)))) :
    StepY P J φ0 ⟨some d, .call { callee := .value (.tmp t), args := args, argTypes := ats }, T, pos, after, gd⟩ (some k) σ K := by
  intro K2 Q' a w hr hK
  obtain ⟨g, U, r1, r2, r3, r4, r5, r6⟩ := hr
  have hfv : a.eval (.tmp t) = .func (.yield l) #[] #[] := by
    have := ev_rt r2 (.tmp t)
    simp only [ev, hf, Option.getD_some] at this
    exact yld_inv (v_inv this)
  obtain ⟨han, haR⟩ := datArgs_ok r2 ha
  have hargs : ArgsR g.M xs[k] (args.map a.eval) := ⟨by simpa using han.symm, fun j x v hx hv => haR j x v hx (by simpa using hv)⟩
  obtain ⟨fn, tmps, assign, body, hy, hR⟩ := hY k U g.M w _ hk r6 hargs
  refine ⟨fun _ _ => trivial, ?_⟩
  rw [show Oper.semAt (Fw none).round a.eval _ = execOp a.eval _ from Oper.semAt_eq _ _ _ (by simp)]
  have hrun : (execOp a.eval ⟨some d, .call { callee := .value (.tmp t), args := args, argTypes := ats }, T, pos, after, gd⟩).run P w = .ok (.round l fn tmps assign body) w := by
    simp only [execOp, Sem.run_bind, resolve, hfv]
    simp [Deferred.ofValue, invoke, hy]
  rw [hrun]
  refine ⟨fun hd => by simp [Fw, Fence.wide] at hd, ?_⟩
  refine RoundIn.mono hR ?_
  rintro e W' ⟨hU, hsz, ho, htp, hou, hcase⟩
  have key : ∀ y', J y' U g.M W' → ∀ b : Bool, e = .returned (.bool b) → RelY J φ0 y' (σ.put d (.v (.bool b))) (a.put (some d) (.bool b)) W' := fun y' hj b _ => by
    have hs : ∀ j, j < w.heap.size → g.X j → W'.heap[j]? = w.heap[j]? := fun j _ hx => hU j (r3 j hx)
    have q1 : Wf g W' σ.b σ.k := r1.fgn (M' := g.M) (D' := g.D) hs hsz (MLe.refl _) (fun _ _ _ h => .inl h) (hJ.ok _ _ _ _ hj) (fun j hj' => by rw [hU j (r4 j hj')]; exact r1.dfr j hj') r1.dnd r1.dX
    have q2 : Tmps g W' σ a := r2.fgn (M' := g.M) (D' := g.D) (a' := a) r1 rfl r2.1 hs (MLe.refl _) (fun _ _ _ h => .inl h)
    exact ⟨g, U, q1, Tmps.cons q2 hd (.v _ _ (.bool b)), r3, r4, r5, hj⟩
  rcases hcase with ⟨rfl, hj⟩ | ⟨rfl, hj⟩
  · exact hK _ _ _ _ h1 (key _ hj true rfl)
  · exact hK _ _ _ _ h2 (key _ hj false rfl)

/-- An iterator's contract, from its body. -/
theorem ic_of_body {f : FuncId} {fn : Func} {c : Code} {caps : List AV} {xs : List (List AV)} {nt : Nat} (hf : P.funcs[f]? = some fn) (hb : fn.body = some c) (hnt : fn.ntmps = nt) (hrs : fn.results.toList = []) (hname : (fn.name == "runtime.NumGoroutine") = false) (hn : 1 + caps.length ≤ nt)
    (h : ∀ l J, Stab J → YldOk P J l xs → TriY P J (fun _ => none) c (some 0) ⟨nt, argT 0 (.yld l :: caps), [], []⟩ fun e y s => (e = .normal ∨ e = .ret) ∧ (y = some xs.length ∨ y = none)) : IC P f caps xs := by
  subst hnt
  refine ⟨fun vs w => by have hn' : ¬ fn.name = "runtime.NumGoroutine" := (by simpa using hname); simp [callFunc, hf, hn', hb], fun M w lb hM hlb l J hJ hY h0 => ?_⟩
  refine callsIn_of_wp_marks (F := Fence.wide) (n := 0) hf hb trivial (wpIn_mono ((h l J hJ hY).h _ w ⟨gp M, fun _ => False, ?_, ?_, fun b hb => ?_, (fun b hb => by simp [gp] at hb), (fun s b _ hs => by cases hs), h0⟩) ?_)
  · exact
    { mem := hM
      box := fun t cs ht => by simp [get] at ht
      ij := fun s s' b hs => by simp [gp] at hs
      ik := fun s s' b hs => by simp only [gp] at hs; split at hs <;> cases hs
      ap := fun s s' b hs => by simp [gp] at hs
      ltφ := fun s b hs => by simp [gp] at hs
      ltκ := fun s b hs => by simp only [gp] at hs; split at hs <;> cases hs
      nφ := fun s b o hs => by simp [gp] at hs
      live := fun s hs => by simp at hs
      dfr := fun j hj => by simp [gp] at hj
      dnd := List.nodup_nil
      dX := fun j hj => by simp [gp] at hj }
  · obtain ⟨A, hA⟩ : ∃ A, A = #[Value.func (.yield l) #[] #[]] ++ lb := ⟨_, rfl⟩
    rw [← hA]
    have hl2 : A.size = 1 + caps.length := by rw [hA]; simp [hlb.1] <;> omega
    have hR2 : ∀ (j : Nat) x v, (AV.yld l :: caps)[j]? = some x → A[j]? = some v → R M x v := fun j x v hx hv => by
      rw [hA] at hv
      cases j with
      | zero =>
        rw [Array.getElem?_append_left (by simp)] at hv
        simp at hx hv
        subst hx; subst hv; exact .yld l
      | succ j =>
        rw [List.getElem?_cons_succ] at hx
        rw [Array.getElem?_append_right (by simp)] at hv
        exact hlb.2 j x v hx (by simpa using hv)
    refine ⟨rfl, ?_, fun t y hy => ?_, by simp [gp]⟩
    · show (A ++ Array.replicate (fn.ntmps - A.size) Go.undef).size = fn.ntmps
      rw [Array.size_append, hl2, Array.size_replicate]; omega
    · obtain ⟨_, z, q2, rfl⟩ := get_argT _ 0 t y hy
      simp only [Nat.sub_zero] at q2
      have hlt : t < 1 + caps.length := by have := (List.getElem?_eq_some_iff.1 q2).1; simp at this; omega
      refine ⟨by show t < fn.ntmps; omega, .v _ _ (hR2 t z _ q2 ?_)⟩
      show A[t]? = some ((A ++ Array.replicate (fn.ntmps - A.size) Go.undef).getD t Go.undef)
      rw [Array.getD_eq_getD_getElem?, Array.getElem?_append_left (by rw [hl2]; exact hlt)]
      have : t < A.size := by rw [hl2]; exact hlt
      rw [Array.getElem?_eq_getElem this]; rfl
  · rcases hb with ⟨s, hs⟩ | ⟨s, hs⟩
    · simp [gp] at hs
    · simp only [gp] at hs; split at hs <;> cases hs
  · rintro e a' w1 ⟨y', σ', ⟨he, hy⟩, g, U, h1, h2, h3, h4, h5, h6⟩
    have hres : ∀ w' : World, (results fn a'.tmps).run P w' = .ok (.tuple #[]) w' := fun w' => by
      have := results_run (P := P) (fn := fn) (a := a') (w := w') (us := []) (by rw [hrs]; rfl)
      simpa using this
    have := takes (F := Fence.wide) (n := 0) (P := P) (fn := fn) (tmps := a'.tmps) (R := fun e W' => (∃ v, e = .returned v) ∧ ∃ U N, J (some xs.length) U N W' ∨ J none U N W') g.D w1 h1.dnd h1.dfr fun w' d1 d2 d3 d4 d5 => by
      refine ⟨_, hres w', ⟨_, rfl⟩, ?_⟩
      have hm : MemOk g.M w' := fun b o v hv => by
        obtain ⟨q1, q2⟩ := h1.mem b o v hv
        refine ⟨?_, q2⟩
        have hne : b ∉ g.D := fun hj => by
          have := h1.dfr b hj
          simp [World.cell?, this] at q1
        exact (World.cell?_of_block (d1 b hne)).trans q1
      have hj := hJ.st _ _ _ _ w' g.M h6 (fun j hj hu => d1 j fun hd => hu (h4 j hd)) (by omega) d3 d4 d5 (MLe.refl _) hm (fun _ _ _ h => .inl h)
      rcases hy with rfl | rfl
      · exact ⟨_, _, .inl hj⟩
      · exact ⟨_, _, .inr hj⟩
    rw [← h2.1] at this
    rcases he with rfl | rfl <;> exact this
end
end Go.Proofs.Ytekdlkjonihglaa.AL
