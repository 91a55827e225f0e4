/- Functions that ask for rounds on an iterator's behalf: their contracts. -/
import Derived.Test.YtekdlkjonihglaaYA25
namespace Go.Proofs.Ytekdlkjonihglaa.AL
open Go Go.RowKit
set_option linter.unusedVariables false
set_option linter.unusedSimpArgs false

/-- A function that asks for rounds: from so many rounds on, it asks for these; true, if all were wanted. -/
def YF (P : Program) (J : Hold) (f : FuncId) (args : List AV) (k n : Nat) : Prop :=
  (∀ args w, (callFunc f args).run P w = .ok (.enter f args) w) ∧
  ∀ U N W (vals : Array Value), J (some k) U N W → ArgsR N args vals → CallsIn Fence.wide 0 P f vals W fun e W' =>
    (∀ b, U b → W'.heap[b]? = W.heap[b]?) ∧ W.heap.size ≤ W'.heap.size ∧ W'.os = W.os ∧ W'.tape = W.tape ∧ W'.output = W.output ∧
    ∃ U' N', (∀ b, U b → U' b) ∧ MLe N N' ∧ (∀ b o v, N' b o = some v → N b o = some v ∨ ¬ U b) ∧
      ((e = .returned (.bool true) ∧ J (some (k + n)) U' N' W') ∨ (e = .returned (.bool false) ∧ J none U' N' W'))

section
variable {P : Program} {J : Hold} {φ0 : Nat → Option Nat} {y y' : Option Nat} {σ σ' : AS} {a : Act} {w w' : World} {g g' : GS} {U : Nat → Prop} {K : Option Nat → AS → Prop} {d t : Nat}

/-- The same hold, where the blocks U0 are not one's own. -/
def HoldU (J : Hold) (U0 : Nat → Prop) (N0 : Mem) (w0 : World) : Hold := fun y U N W =>
  J y (fun b => U b ∨ U0 b) N W ∧ (∀ b, U0 b → b < w0.heap.size ∧ W.heap[b]? = w0.heap[b]?) ∧ (∀ b, U b → w0.heap.size ≤ b) ∧ w0.heap.size ≤ W.heap.size ∧ W.os = w0.os ∧ W.tape = w0.tape ∧ W.output = w0.output ∧ MLe N0 N ∧ (∀ b o v, N b o = some v → N0 b o = some v ∨ ¬ U0 b)

theorem holdU_stab (hJ : Stab J) {U0 : Nat → Prop} {N0 : Mem} {w0 : World} : Stab (HoldU J U0 N0 w0) where
  st := fun y U N W W' N' ⟨h1, h2, h3, h4, h5, h6, h7, h8, h9⟩ hs hz ho ht hp hN hok hnew => by
    have hn0 : ∀ b, U0 b → ¬ U b := fun b hb hu => by have := (h2 b hb).1; have := h3 b hu; omega
    refine ⟨?_, fun b hb => ⟨(h2 b hb).1, ?_⟩, fun b hb => ?_, Nat.le_trans h4 hz, ho.trans h5, ht.trans h6, hp.trans h7, h8.trans hN, fun b o v hv => ?_⟩
    · have hj := hJ.st y _ N W W' N' h1 (fun j hj hu => hs j hj fun h => hu (.inl h)) hz ho ht hp hN hok (fun b o v hv => by
        rcases hnew b o v hv with h | h | h
        · exact .inl h
        · exact .inr (.inl (.inl h))
        · exact .inr (.inr h))
      have e : (fun b => (U b ∨ U0 b) ∨ (W.heap.size ≤ b ∧ b < W'.heap.size)) = (fun b => (U b ∨ (W.heap.size ≤ b ∧ b < W'.heap.size)) ∨ U0 b) := by
        funext b; apply propext; constructor
        · rintro ((h | h) | h)
          · exact .inl (.inl h)
          · exact .inr h
          · exact .inl (.inr h)
        · rintro ((h | h) | h)
          · exact .inl (.inl h)
          · exact .inr h
          · exact .inl (.inr h)
      rw [← e]; exact hj
    · have hlt := (h2 b hb).1
      rw [hs b (Nat.lt_of_lt_of_le hlt h4) (hn0 b hb)]; exact (h2 b hb).2
    · rcases hb with hb | ⟨hb, _⟩
      · exact h3 b hb
      · exact Nat.le_trans h4 hb
    · rcases hnew b o v hv with h | h | h
      · exact h9 b o v h
      · exact .inr fun hu => hn0 b hu h
      · exact .inr fun hu => by have := (h2 b hu).1; omega
  lt := fun y U N W b ⟨h1, _⟩ hu => hJ.lt y _ N W b h1 (.inl hu)
  ok := fun y U N W ⟨h1, _⟩ => hJ.ok y _ N W h1

theorem holdU_yld {l : Nat} {xs : List (List AV)} {U0 : Nat → Prop} {N0 : Mem} {w0 : World} (h : YldOk P J l xs) : YldOk P (HoldU J U0 N0 w0) l xs := by
  intro k U N W args hk ⟨h1, h2, h3, h4, h5, h6, h7, h8⟩ ha
  obtain ⟨fn, tmps, assign, body, hy, hR⟩ := h k _ N W args hk h1 ha
  refine ⟨fn, tmps, assign, body, hy, RoundIn.mono hR ?_⟩
  rintro e W' ⟨q1, q2, q3, q4, q5, q6⟩
  have key : ∀ y', J y' (fun b => U b ∨ U0 b) N W' → HoldU J U0 N0 w0 y' U N W' := fun y' hj =>
    ⟨hj, fun b hb => ⟨(h2 b hb).1, by rw [q1 b (.inr hb)]; exact (h2 b hb).2⟩, h3, Nat.le_trans h4 q2, q3.trans h5, q4.trans h6, q5.trans h7, h8⟩
  exact ⟨fun b hb => q1 b (.inl hb), q2, q3, q4, q5, q6.imp (fun ⟨e1, e2⟩ => ⟨e1, key _ e2⟩) fun ⟨e1, e2⟩ => ⟨e1, key _ e2⟩⟩

/-- A call of a function that asks for rounds. -/
theorem sy_yf (hJ : Stab J) {f : FuncId} {caps : Array Value} {as cas : List AV} {k n : Nat} {args : Array Operand} {ats : Array TypeId} {T : TypeId} {pos : String} {after : Array Edge} {gd : Option (Nat × Bool)} (hd : d < σ.n)
    (hf : get t σ.t = some (.v (.val (.func (.func f) #[] caps)))) (ha : datArgs P σ args.toList ats.toList = some as) (hcap : ∀ U N W, J (some k) U N W → ArgsR N cas caps) (hy : YF P J f (as ++ cas) k n)
    (h1 : K (some (k + n)) (σ.put d (.v (.bool true)))) (h2 : K none (σ.put d (.v (.bool false)))) :
    StepY P J φ0 ⟨some d, .call { callee := .value (.tmp t), args := args, argTypes := ats }, T, pos, after, gd⟩ (some k) σ K := by
  intro K2 Q' a w hr hK
  obtain ⟨g, U, r1, r2, r3, r4, r5, r6⟩ := hr
  have hfv : a.eval (.tmp t) = .func (.func f) #[] caps := by
    have := ev_rt r2 (.tmp t)
    simp only [ev, hf, Option.getD_some] at this
    have hv := v_inv this
    generalize a.eval (.tmp t) = u at hv
    cases hv; rfl
  obtain ⟨han, haR⟩ := datArgs_ok r2 ha
  obtain ⟨hcn, hcR⟩ := hcap _ _ _ r6
  have hargs : ArgsR g.M (as ++ cas) (args.map a.eval ++ caps) := by
    have e1 : (args.map a.eval).size = as.length := by simp [← han]
    refine ⟨by simp [← han, hcn], fun j x v hx hv => ?_⟩
    rw [List.getElem?_append] at hx
    rw [Array.getElem?_append, e1] at hv
    split at hx
    · rename_i hj
      rw [if_pos hj] at hv
      exact haR j x v hx (by simpa using hv)
    · rename_i hj
      rw [if_neg hj] at hv
      exact hcR _ x v hx hv
  refine ⟨fun _ _ => trivial, ?_⟩
  rw [show Oper.semAt (Fw none).round a.eval _ = execOp a.eval _ from Oper.semAt_eq _ _ _ (by simp)]
  have hrun : (execOp a.eval ⟨some d, .call { callee := .value (.tmp t), args := args, argTypes := ats }, T, pos, after, gd⟩).run P w = .ok (.enter f (args.map a.eval ++ caps)) w := by
    simp only [execOp, Sem.run_bind, resolve, hfv]
    simp [Deferred.ofValue, invoke, hy.1]
  rw [hrun]
  refine ⟨fun hd => by simp [Fw, Fence.wide] at hd, ?_⟩
  refine CallsIn.mono (hy.2 U g.M w _ r6 hargs) ?_
  rintro e W' ⟨hU, hsz, ho, htp, hou, U', N', hUU, hN, hNn, hcase⟩
  have key : ∀ y', J y' U' N' W' → ∀ b : Bool, e = .returned (.bool b) → RelY J φ0 y' (σ.put d (.v (.bool b))) (a.put (some d) (.bool b)) W' := fun y' hj b _ => by
    have hs : ∀ j, j < w.heap.size → g.X j → W'.heap[j]? = w.heap[j]? := fun j _ hx => hU j (r3 j hx)
    have hn' : ∀ b o v, N' b o = some v → g.M b o = some v ∨ ¬ g.X b := fun b o v hv => (hNn b o v hv).imp id fun h hx => h (r3 b hx)
    have q1 : Wf (g.re N' g.D) W' σ.b σ.k := r1.fgn hs hsz hN hn' (hJ.ok _ _ _ _ hj) (fun j hj' => by rw [hU j (r4 j hj')]; exact r1.dfr j hj') r1.dnd r1.dX
    have q2 : Tmps (g.re N' g.D) W' σ a := r2.fgn (a' := a) r1 rfl r2.1 hs hN hn'
    exact ⟨g.re N' g.D, U', q1, Tmps.cons q2 hd (.v _ _ (.bool b)), fun b hb => hUU b (r3 b hb), fun b hb => hUU b (r4 b hb), r5, hj⟩
  rcases hcase with ⟨rfl, hj⟩ | ⟨rfl, hj⟩
  · exact hK _ _ _ _ h1 (key _ hj true rfl)
  · exact hK _ _ _ _ h2 (key _ hj false rfl)

/-- Such a function's contract, from its body. -/
theorem yf_of_body {f : FuncId} {fn : Func} {c : Code} {args : List AV} {k n nt rt : Nat} (hJ : Stab J) (hf : P.funcs[f]? = some fn) (hb : fn.body = some c) (hnt : fn.ntmps = nt) (hrs : fn.results.toList = [.tmp rt]) (hname : (fn.name == "runtime.NumGoroutine") = false) (hn : args.length ≤ nt)
    (h : ∀ U0 N0 w0, TriY P (HoldU J U0 N0 w0) (fun _ => none) c (some k) ⟨nt, argT 0 args, [], []⟩ fun e y s => (e = .normal ∨ e = .ret) ∧ ∃ b : Bool, get rt s.t = some (.v (.bool b)) ∧ ((b = true ∧ y = some (k + n)) ∨ (b = false ∧ y = none))) : YF P J f args k n := by
  subst hnt
  refine ⟨fun vs w => by have hn' : ¬ fn.name = "runtime.NumGoroutine" := (by simpa using hname); simp [callFunc, hf, hn', hb], fun U0 N0 w0 vals hj0 ha => ?_⟩
  have hJ' : Stab (HoldU J U0 N0 w0) := holdU_stab hJ
  have hM := hJ.ok _ _ _ _ hj0
  have h00 : HoldU J U0 N0 w0 (some k) (fun _ => False) N0 w0 := ⟨by
      have e : (fun b => False ∨ U0 b) = U0 := by funext b; simp
      rw [e]; exact hj0, fun b hb => ⟨hJ.lt _ _ _ _ b hj0 hb, rfl⟩, fun b hb => hb.elim, Nat.le_refl _, rfl, rfl, rfl, MLe.refl _, fun _ _ _ h => .inl h⟩
  refine callsIn_of_wp_marks (F := Fence.wide) (n := 0) hf hb trivial (wpIn_mono ((h U0 N0 w0).h _ w0 ⟨gp N0, fun _ => False, ?_, ?_, fun b hb => ?_, (fun b hb => by simp [gp] at hb), (fun s b _ hs => by cases hs), h00⟩) ?_)
  · exact
    { mem := hM
      box := fun t cs ht => by simp [get] at ht
      ij := fun s s' b hs => by simp [gp] at hs
      ik := fun s s' b hs => by simp only [gp] at hs; split at hs <;> cases hs
      ap := fun s s' b hs => by simp [gp] at hs
      ltφ := fun s b hs => by simp [gp] at hs
      ltκ := fun s b hs => by simp only [gp] at hs; split at hs <;> cases hs
      nφ := fun s b o hs => by simp [gp] at hs
      live := fun s hs => by simp at hs
      dfr := fun j hj => by simp [gp] at hj
      dnd := List.nodup_nil
      dX := fun j hj => by simp [gp] at hj }
  · refine ⟨rfl, ?_, fun t y hy => ?_, by simp [gp]⟩
    · show (vals ++ Array.replicate (fn.ntmps - vals.size) Go.undef).size = fn.ntmps
      have := ha.1; simp; omega
    · obtain ⟨_, z, q2, rfl⟩ := get_argT args 0 t y hy
      simp only [Nat.sub_zero] at q2
      have hlt : t < args.length := (List.getElem?_eq_some_iff.1 q2).1
      have hl := ha.1
      refine ⟨by show t < fn.ntmps; omega, .v _ _ (ha.2 t z _ q2 ?_)⟩
      show vals[t]? = some ((vals ++ Array.replicate (fn.ntmps - vals.size) Go.undef).getD t Go.undef)
      rw [Array.getD_eq_getD_getElem?, Array.getElem?_append_left (by omega)]
      have : t < vals.size := by omega
      simp [this]
  · rcases hb with ⟨s, hs⟩ | ⟨s, hs⟩
    · simp [gp] at hs
    · simp only [gp] at hs; split at hs <;> cases hs
  · rintro e a' w1 ⟨y', σ', ⟨he, bb, hgb, hcase⟩, g, U, h1, h2, h3, h4, h5, h6⟩
    have hbv : a'.tmps.getD rt Go.undef = .bool bb := bool_inv (v_inv (h2.2.2.1 rt _ hgb).2)
    have hres : ∀ w' : World, (results fn a'.tmps).run P w' = .ok (.bool bb) w' := fun w' => by
      have := results_run (P := P) (fn := fn) (a := a') (w := w') (us := [.bool bb]) (by rw [hrs, List.mapM_cons]; simp only [Sem.run_bind, resM, hbv, Sem.run_pure, Result.andThen_ok]; rfl)
      simpa using this
    have := takes (F := Fence.wide) (n := 0) (P := P) (fn := fn) (tmps := a'.tmps) (R := fun e W' => (∀ b, U0 b → W'.heap[b]? = w0.heap[b]?) ∧ w0.heap.size ≤ W'.heap.size ∧ W'.os = w0.os ∧ W'.tape = w0.tape ∧ W'.output = w0.output ∧
      ∃ U' N', (∀ b, U0 b → U' b) ∧ MLe N0 N' ∧ (∀ b o v, N' b o = some v → N0 b o = some v ∨ ¬ U0 b) ∧
        ((e = .returned (.bool true) ∧ J (some (k + n)) U' N' W') ∨ (e = .returned (.bool false) ∧ J none U' N' W'))) g.D w1 h1.dnd h1.dfr fun w' d1 d2 d3 d4 d5 => by
      refine ⟨_, hres w', ?_⟩
      have hm : MemOk g.M w' := fun b o v hv => by
        obtain ⟨q1, q2⟩ := h1.mem b o v hv
        refine ⟨?_, q2⟩
        have hne : b ∉ g.D := fun hj => by
          have := h1.dfr b hj
          simp [World.cell?, this] at q1
        exact (World.cell?_of_block (d1 b hne)).trans q1
      obtain ⟨j1, j2, j3, j4, j5, j6, j7, j8, j9⟩ := hJ'.st _ _ _ _ w' g.M h6 (fun j hj hu => d1 j fun hd => hu (h4 j hd)) (by omega) d3 d4 d5 (MLe.refl _) hm (fun _ _ _ h => .inl h)
      refine ⟨fun b hb => (j2 b hb).2, j4, j5, j6, j7, fun b => (U b ∨ (w1.heap.size ≤ b ∧ b < w'.heap.size)) ∨ U0 b, g.M, fun b hb => .inr hb, j8, j9, ?_⟩
      rcases hcase with ⟨rfl, rfl⟩ | ⟨rfl, rfl⟩
      · exact .inl ⟨rfl, j1⟩
      · exact .inr ⟨rfl, j1⟩
    rw [← h2.1] at this
    rcases he with rfl | rfl <;> exact this
end
end Go.Proofs.Ytekdlkjonihglaa.AL
