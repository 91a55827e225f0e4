/- A function that calls itself by a variable that holds it, and asks for rounds: how the knot is tied. -/
import Derived.Test.YtekdlkjonihglaaYA26
namespace Go.Proofs.Ytekdlkjonihglaa.AL
open Go Go.RowKit
set_option linter.unusedVariables false
set_option linter.unusedSimpArgs false

abbrev kV (f b3 b2 : Nat) : Value := .func (.func f) #[] #[.pointer (some ⟨b3, 0, none⟩), .pointer (some ⟨b2, 0, none⟩)]
abbrev yV (l : Nat) : Value := .func (.yield l) #[] #[]
def KnotM (J : Hold) (f b3 b2 l : Nat) : Prop := ∀ y U N W, J y U N W → N b3 0 = some (kV f b3 b2) ∧ N b2 0 = some (yV l)
theorem knot_caps {J : Hold} {f b3 b2 l : Nat} (h : KnotM J f b3 b2 l) : ∀ y U N W, J y U N W → ArgsR N [.ro [.val (kV f b3 b2)], .ro [.yld l]] #[.pointer (some ⟨b3, 0, none⟩), .pointer (some ⟨b2, 0, none⟩)] := by
  intro y U N W hj
  obtain ⟨h1, h2⟩ := h y U N W hj
  have one : ∀ (a : AV) (v : Value) (b : Nat), N b 0 = some v → R N a v → R N (.ro [a]) (.pointer (some ⟨b, 0, none⟩)) := fun a v b hv hR => by
    refine .ro [a] b 0 (fun _ => v) (fun j c hc => ?_) (fun j c hc => ?_)
    · cases j with
      | zero => exact hv
      | succ j => simp at hc
    · cases j with
      | zero => simp at hc; subst hc; exact hR
      | succ j => simp at hc
  refine ⟨rfl, fun j x v hx hv => ?_⟩
  match j, hx, hv with
  | 0, hx, hv => simp at hx hv; subst hx; subst hv; exact one _ _ _ h1 (.val _ rfl rfl)
  | 1, hx, hv => simp at hx hv; subst hx; subst hv; exact one _ _ _ h2 (.yld l)
  | j + 2, hx, _ => simp at hx
theorem knot_hold {J : Hold} {f b3 b2 l : Nat} {U0 : Nat → Prop} {N0 : Mem} {w0 : World} (h : KnotM J f b3 b2 l) : KnotM (HoldU J U0 N0 w0) f b3 b2 l := fun y U N W hj => h y _ N W hj.1

/-- A hold that knows the knot. -/
def HoldK (J : Hold) (f b3 b2 l : Nat) : Hold := fun y U N W => J y U N W ∧ N b3 0 = some (kV f b3 b2) ∧ N b2 0 = some (yV l)
theorem holdK_stab {J : Hold} {f b3 b2 l : Nat} (hJ : Stab J) : Stab (HoldK J f b3 b2 l) where
  st := fun y U N W W' N' ⟨h1, h2, h3⟩ hs hz ho ht hp hN hok hnew => ⟨hJ.st y U N W W' N' h1 hs hz ho ht hp hN hok hnew, hN _ _ _ h2, hN _ _ _ h3⟩
  lt := fun y U N W b ⟨h1, _⟩ hu => hJ.lt y U N W b h1 hu
  ok := fun y U N W ⟨h1, _⟩ => hJ.ok y U N W h1
theorem holdK_yld {P : Program} {J : Hold} {f b3 b2 l l' : Nat} {xs : List (List AV)} (h : YldOk P J l' xs) : YldOk P (HoldK J f b3 b2 l) l' xs := by
  intro k U N W args hk ⟨h1, h2⟩ ha
  obtain ⟨fn, tmps, assign, body, hy, hR⟩ := h k U N W args hk h1 ha
  refine ⟨fn, tmps, assign, body, hy, RoundIn.mono hR ?_⟩
  rintro e W' ⟨q1, q2, q3, q4, q5, q6⟩
  exact ⟨q1, q2, q3, q4, q5, q6.imp (fun ⟨e1, e2⟩ => ⟨e1, e2, h2⟩) fun ⟨e1, e2⟩ => ⟨e1, e2, h2⟩⟩
theorem holdK_knot {J : Hold} {f b3 b2 l : Nat} : KnotM (HoldK J f b3 b2 l) f b3 b2 l := fun y U N W hj => hj.2

section
variable {P : Program} {J : Hold} {y y' : Option Nat} {σ σ' : AS} {a : Act} {w w' : World} {g g' : GS} {U : Nat → Prop} {K : Option Nat → AS → Prop} {d t : Nat}

theorem sy_knot (hJ : Stab J) {f l k n s3 s2 : Nat} {xs : List (List AV)} (hYl : YldOk P J l xs) {as : List AV} {args : Array Operand} {ats : Array TypeId} {dst : Option Nat} {T : TypeId} {pos : String} {after : Array Edge} {gd : Option (Nat × Bool)}
    (hb3 : get s3 σ.b = some [.fn f [.loc s3 0, .loc s2 0]]) (hb2 : get s2 σ.b = some [.v (.yld l)])
    (hf : get t σ.t = some (.fn f [.loc s3 0, .loc s2 0])) (ha : datArgs P σ args.toList ats.toList = some as)
    (hy : ∀ J' b3 b2, Stab J' → YldOk P J' l xs → KnotM J' f b3 b2 l → YF P J' f (as ++ [.ro [.val (kV f b3 b2)], .ro [.yld l]]) k n)
    (h1 : K (some (k + n)) ⟨σ.n, [], [], []⟩) (h2 : K none ⟨σ.n, [], [], []⟩) :
    StepY P J (fun _ => none) ⟨dst, .call { callee := .value (.tmp t), args := args, argTypes := ats }, T, pos, after, gd⟩ (some k) σ K := by
  intro K2 Q' a w hr hK
  obtain ⟨g, U, r1, r2, r3, r4, r5, r6⟩ := hr
  -- the two variables
  obtain ⟨b3, vs3, e3, p1, p2, p3, p4, p5⟩ := r1.box s3 _ hb3
  obtain ⟨b2, vs2, e2, q1, q2, q3, q4, q5⟩ := r1.box s2 _ hb2
  have hz3 : vs3.size = 1 := by simpa using p3.symm
  have hz2 : vs2.size = 1 := by simpa using q3.symm
  have fnv : ∀ v, RT g w (.fn f [.loc s3 0, .loc s2 0]) v → v = kV f b3 b2 := fun v hv => by
    cases hv with
    | fn f cs vs hn h =>
      have hsz : vs.size = 2 := by simpa using hn.symm
      obtain ⟨b, e, hφ⟩ := loc_inv (h 0 _ vs[0] rfl (by simp [hsz]))
      obtain ⟨b', e', hφ'⟩ := loc_inv (h 1 _ vs[1] rfl (by simp [hsz]))
      rw [p1] at hφ; rw [q1] at hφ'
      cases hφ; cases hφ'
      have : vs = #[.pointer (some ⟨b3, 0, none⟩), .pointer (some ⟨b2, 0, none⟩)] := by
        apply Array.ext
        · simpa using hsz
        · intro i h1 h2
          match i, h1 with
          | 0, _ => exact e
          | 1, _ => exact e'
          | i + 2, h => omega
      rw [this]
  have hv3 : vs3[0]? = some (kV f b3 b2) := by
    have : vs3[0]? = some vs3[0] := by simp [hz3]
    rw [this, fnv _ (p4 0 _ _ rfl this).1]
  have hv2 : vs2[0]? = some (yV l) := by
    have : vs2[0]? = some vs2[0] := by simp [hz2]
    rw [this, yld_inv (v_inv (q4 0 _ _ rfl this).1)]
  have hfv : a.eval (.tmp t) = kV f b3 b2 := by
    have := ev_rt r2 (.tmp t)
    simp only [ev, hf, Option.getD_some] at this
    exact fnv _ this
  -- they never turn from here on
  obtain ⟨N', hN'⟩ : ∃ N' : Mem, N' = fun b o => if b = b3 ∧ o = 0 then some (kV f b3 b2) else if b = b2 ∧ o = 0 then some (yV l) else g.M b o := ⟨_, rfl⟩
  have hne : b2 = b3 → False := fun e => by
    have := r1.ij s2 s3 b3 (by rw [← e]; exact q1) p1
    subst this
    rw [hb3] at hb2; cases hb2
  have hc3 : w.cell? ⟨b3, 0, none⟩ = some (kV f b3 b2) := by simp [World.cell?, p2, hv3]
  have hc2 : w.cell? ⟨b2, 0, none⟩ = some (yV l) := by simp [World.cell?, q2, hv2]
  have hML : MLe g.M N' := fun b o v hv => by
    rw [hN']
    by_cases c1 : b = b3 ∧ o = 0
    · rw [c1.1, p5] at hv; cases hv
    · by_cases c2 : b = b2 ∧ o = 0
      · rw [c2.1, q5] at hv; cases hv
      · simp [c1, c2, hv]
  have hsp : ∀ b o v, N' b o = some v → (b = b3 ∧ o = 0 ∧ v = kV f b3 b2) ∨ (b = b2 ∧ o = 0 ∧ v = yV l) ∨ g.M b o = some v := fun b o v hv => by
    rw [hN'] at hv
    simp only at hv
    by_cases c1 : b = b3 ∧ o = 0
    · simp only [c1, and_self, if_true, Option.some.injEq] at hv; exact .inl ⟨c1.1, c1.2, hv.symm⟩
    · by_cases c2 : b = b2 ∧ o = 0
      · rw [if_neg c1, if_pos c2] at hv; simp only [Option.some.injEq] at hv; exact .inr (.inl ⟨c2.1, c2.2, hv.symm⟩)
      · rw [if_neg c1, if_neg c2] at hv; exact .inr (.inr hv)
  have hok : MemOk N' w := fun b o v hv => by
    rcases hsp b o v hv with ⟨rfl, rfl, rfl⟩ | ⟨rfl, rfl, rfl⟩ | h
    · exact ⟨hc3, rfl⟩
    · exact ⟨hc2, rfl⟩
    · exact r1.mem b o v h
  have hn3 : N' b3 0 = some (kV f b3 b2) := by rw [hN']; simp
  have hn2 : N' b2 0 = some (yV l) := by
    have hne' : b2 ≠ b3 := hne
    rw [hN']; simp [hne']
  have hj := hJ.st _ _ _ _ w N' r6 (fun _ _ _ => rfl) (Nat.le_refl _) rfl rfl rfl hML hok fun b o v hv => by
    rcases hsp b o v hv with ⟨rfl, _⟩ | ⟨rfl, _⟩ | h
    · exact .inr (.inl (r3 _ (.inl ⟨_, p1⟩)))
    · exact .inr (.inl (r3 _ (.inl ⟨_, q1⟩)))
    · exact .inl h
  have hYF := hy (HoldK J f b3 b2 l) b3 b2 (holdK_stab hJ) (holdK_yld hYl) holdK_knot
  obtain ⟨han, haR⟩ := datArgs_ok r2 ha
  obtain ⟨hcn, hcR⟩ := knot_caps (J := HoldK J f b3 b2 l) holdK_knot _ _ _ _ ⟨hj, hn3, hn2⟩
  have hargs : ArgsR N' (as ++ [.ro [.val (kV f b3 b2)], .ro [.yld l]]) (args.map a.eval ++ #[.pointer (some ⟨b3, 0, none⟩), .pointer (some ⟨b2, 0, none⟩)]) := by
    have e1 : (args.map a.eval).size = as.length := by simp [← han]
    refine ⟨by simp [← han], fun j x v hx hv => ?_⟩
    rw [List.getElem?_append] at hx
    rw [Array.getElem?_append, e1] at hv
    split at hx
    · rename_i hj
      rw [if_pos hj] at hv
      exact (haR j x v hx (by simpa using hv)).mono hML
    · rename_i hj
      rw [if_neg hj] at hv
      exact hcR _ x v hx hv
  refine ⟨fun _ _ => trivial, ?_⟩
  rw [show Oper.semAt (Fw none).round a.eval _ = execOp a.eval _ from Oper.semAt_eq _ _ _ (by simp)]
  have hrun : (execOp a.eval ⟨dst, .call { callee := .value (.tmp t), args := args, argTypes := ats }, T, pos, after, gd⟩).run P w = .ok (.enter f (args.map a.eval ++ #[.pointer (some ⟨b3, 0, none⟩), .pointer (some ⟨b2, 0, none⟩)])) w := by
    simp only [execOp, Sem.run_bind, resolve, hfv]
    simp [Deferred.ofValue, invoke, hYF.1]
  rw [hrun]
  refine ⟨fun hd => by simp [Fw, Fence.wide] at hd, ?_⟩
  refine CallsIn.mono (hYF.2 _ N' w _ ⟨hj, hn3, hn2⟩ hargs) ?_
  rintro e W' ⟨hU, hsz, ho, htp, hou, U', N'', hUU, hN, hNn, hcase⟩
  have hDU : ∀ b, b ∈ g.D → W'.heap[b]? = w.heap[b]? := fun b hb => hU b (.inl (r4 b hb))
  have key : ∀ y', J y' U' N'' W' → ∀ v, RelY J (fun _ => none) y' ⟨σ.n, [], [], []⟩ (a.put dst v) W' := fun y' hj v => by
    refine ⟨⟨N'', fun _ => none, fun s => if s = 999999 then some none else none, g.D⟩, U', ?_, ⟨?_, ?_, fun t x hx => by simp [get] at hx, by simp⟩, fun b hb => ?_, fun b hb => hUU b (.inl (r4 b hb)), (fun s b _ hs => by cases hs), hj⟩
    · exact
        { mem := hJ.ok _ _ _ _ hj
          box := fun t cs ht => by simp [get] at ht
          ij := fun s s' b hs => by simp at hs
          ik := fun s s' b hs => by simp only at hs; split at hs <;> cases hs
          ap := fun s s' b hs => by simp at hs
          ltφ := fun s b hs => by simp at hs
          ltκ := fun s b hs => by simp only at hs; split at hs <;> cases hs
          nφ := fun s b o hs => by simp at hs
          live := fun s hs => by simp at hs
          dfr := fun j hj => by rw [hDU j hj]; exact r1.dfr j hj
          dnd := r1.dnd
          dX := fun j hj hx => by
            rcases hx with ⟨s, hs⟩ | ⟨s, hs⟩
            · simp at hs
            · simp only at hs; split at hs <;> cases hs }
    · cases dst <;> exact r2.1
    · cases dst with
      | none => exact r2.2.1
      | some d => simpa [Act.put] using r2.2.1
    · rcases hb with ⟨s, hs⟩ | ⟨s, hs⟩
      · simp at hs
      · simp only at hs; split at hs <;> cases hs
  rcases hcase with ⟨rfl, hj⟩ | ⟨rfl, hj⟩
  · exact hK _ _ _ _ h1 (key _ hj.1 _)
  · exact hK _ _ _ _ h2 (key _ hj.1 _)
end
end Go.Proofs.Ytekdlkjonihglaa.AL
