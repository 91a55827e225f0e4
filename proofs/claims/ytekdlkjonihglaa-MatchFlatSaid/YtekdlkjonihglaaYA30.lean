/- Functions that hand back a slice of their caller's own. -/
import Derived.Test.YtekdlkjonihglaaYA29
namespace Go.Proofs.Ytekdlkjonihglaa.AL
open Go Go.RowKit
set_option linter.unusedVariables false
set_option linter.unusedSimpArgs false
/-- What a call hands back: a slice that nobody else knows. -/
def ResO (M : Mem) (w w' : World) (sz n : Nat) (cells : List AV) (v : Value) : Prop :=
  ∃ b cap vs ty, v = .slice (some ⟨b, 0, none⟩) n cap ∧ n ≤ cap ∧ cap ≤ maxLen ∧ w.heap.size ≤ b ∧ w'.heap[b]? = some (.cells vs ty (0, 0)) ∧ cells.length = vs.size ∧
    (∀ (j : Nat) c v, cells[j]? = some c → vs[j]? = some v → R M c v ∧ v.oneCell' = true) ∧ ∀ o, M b o = none
def FCO (P : Program) (f : FuncId) (args : List AV) (sz n : Nat) (cells : List AV) : Prop :=
  (∀ vs w, (callFunc f vs).run P w = .ok (.enter f vs) w) ∧ ∀ (M : Mem) (w : World) (vals : Array Value), MemOk M w → args.length = vals.size →
    (∀ (j : Nat) x v, args[j]? = some x → vals[j]? = some v → R M x v) →
    Calls P f vals w fun e w' => ∃ v M', e = .returned v ∧ Below w.heap.size w w' ∧ MLe M M' ∧ (∀ b o v, M' b o = some v → M b o = some v ∨ w.heap.size ≤ b) ∧ MemOk M' w' ∧ ResO M' w w' sz n cells v
def FitO (rs : List ResultVar) (s : AS) (sz n : Nat) (cells : List AV) : Prop :=
  ∃ t q cap, rs = [.tmp t] ∧ get t s.t = some (.mp q (some (sz, 0, n, cap))) ∧ get q s.b = some (cells.map .v)
def PostO (rs : List ResultVar) (sz n : Nat) (cells : List AV) (e : Exit) (s : AS) : Prop := (e = .normal ∨ e = .ret) ∧ FitO rs s sz n cells
section
variable {P : Program} {E : E0} {g : GS} {w w' : World} {σ σ' : AS} {a : Act} {o : Oper} {d : Nat} {x : TV} {v : Value} {M M' : Mem} {Q : Exit → AS → Prop} {K : AS → Prop} {sz n cap : Nat} {cells : List AV}
theorem fco_of_body {f : FuncId} {fn : Func} {c : Code} {args : List AV} {sz n : Nat} {cells : List AV} {nt : Nat} {rs : List ResultVar} {ts : List (Nat × TV)} (hf : P.funcs[f]? = some fn) (hb : fn.body = some c) (hnt : fn.ntmps = nt) (hrs : fn.results.toList = rs) (ht : argT 0 args = ts) (hname : (fn.name == "runtime.NumGoroutine") = false) (hn : args.length ≤ nt)
    (h : Tri P none 0 c ⟨nt, ts, [], []⟩ (PostO rs sz n cells)) : FCO P f args sz n cells := by
  subst hnt; subst hrs; subst ht
  refine ⟨fun vs w => by have hn' : ¬ fn.name = "runtime.NumGoroutine" := (by simpa using hname); simp [callFunc, hf, hn', hb], fun M w vals hM hlen hR => ?_⟩
  refine callsIn_wide.1 (callsIn_of_wp_marks (F := Fence.wide) (n := 0) hf hb trivial (wpIn_mono (h ⟨gp M, w⟩ (fun l hl => by cases hl) _ w ⟨gp M, ?_, ?_, Ext.refl _ _⟩) ?_))
  · exact
    { mem := hM
      box := fun t cs ht => by simp [get] at ht
      ij := fun s s' b hs => by simp [gp] at hs
      ik := fun s s' b hs => by simp only [gp] at hs; split at hs <;> cases hs
      ap := fun s s' b hs => by simp [gp] at hs
      ltφ := fun s b hs => by simp [gp] at hs
      ltκ := fun s b hs => by simp only [gp] at hs; split at hs <;> cases hs
      nφ := fun s b o hs => by simp [gp] at hs
      live := fun s hs => by simp at hs
      dfr := fun j hj => by simp [gp] at hj
      dnd := List.nodup_nil
      dX := fun j hj => by simp [gp] at hj }
  · refine ⟨rfl, ?_, fun t y hy => ?_, by simp [gp]⟩
    · show (vals ++ Array.replicate (fn.ntmps - vals.size) Go.undef).size = fn.ntmps
      simp; omega
    · obtain ⟨_, z, q2, rfl⟩ := get_argT args 0 t y hy
      simp only [Nat.sub_zero] at q2
      have hlt : t < args.length := (List.getElem?_eq_some_iff.1 q2).1
      refine ⟨by show t < fn.ntmps; omega, .v _ _ (hR t z _ q2 ?_)⟩
      show vals[t]? = some ((vals ++ Array.replicate (fn.ntmps - vals.size) Go.undef).getD t Go.undef)
      rw [Array.getD_eq_getD_getElem?, Array.getElem?_append_left (by omega)]
      have : t < vals.size := by omega
      simp [this]
  · rintro e a' w1 ⟨σ', ⟨he, hfit⟩, g0, h1', h2', h3'⟩
    suffices hend : ∀ w' : World, (∀ j, j ∉ g0.D → w'.heap[j]? = w1.heap[j]?) → w'.heap.size = w1.heap.size → w'.os = w1.os → w'.tape = w1.tape → w'.output = w1.output →
        ∃ v, (results fn a'.tmps).run P w' = .ok v w' ∧ (∃ v' M', Ending.returned v = .returned v' ∧ Below w.heap.size w w' ∧ MLe M M' ∧ (∀ b o v, M' b o = some v → M b o = some v ∨ w.heap.size ≤ b) ∧ MemOk M' w' ∧ ResO M' w w' sz n cells v') by
      have := takes (F := Fence.wide) (n := 0) (P := P) (fn := fn) (tmps := a'.tmps) (R := fun e w' => ∃ v M', e = .returned v ∧ Below w.heap.size w w' ∧ MLe M M' ∧ (∀ b o v, M' b o = some v → M b o = some v ∨ w.heap.size ≤ b) ∧ MemOk M' w' ∧ ResO M' w w' sz n cells v) g0.D w1 h1'.dnd h1'.dfr hend
      rw [← h2'.1] at this
      rcases he with rfl | rfl <;> exact this
    intro w' d1 d2 d3 d4 d5
    have hXD : ∀ j, g0.X j → j ∉ g0.D := fun j hx hj => h1'.dX j hj hx
    have hMD : ∀ b o v, g0.M b o = some v → b ∉ g0.D := fun b o v hv hj => by
      have hdj := h1'.dfr b hj
      have := (h1'.mem b o v hv).1
      simp [World.cell?, hdj] at this
    have hDw : ∀ j ∈ g0.D, w.heap.size ≤ j := fun j hj => by
      rcases h3'.dn j hj with h | h
      · exact h
      · simp [gp] at h
    obtain ⟨g, hg⟩ : ∃ g, g = g0.re g0.M [] := ⟨_, rfl⟩
    have h1 : Wf g w' σ'.b σ'.k := by
      rw [hg]
      exact h1'.fgn (fun j _ hx => d1 j (hXD j hx)) (by omega) (MLe.refl _) (fun _ _ _ h => .inl h) (fun b o v hv => by
        rw [World.cell?_of_block (d1 b (hMD b o v hv))]; exact h1'.mem b o v hv) (fun j hj => by cases hj) List.nodup_nil (fun j hj => by cases hj)
    have h2 : Tmps g w' σ' { a' with defers := [] } := by
      rw [hg]
      exact h2'.fgn h1' rfl rfl (fun j _ hx => d1 j (hXD j hx)) (MLe.refl _) (fun _ _ _ h => .inl h)
    have h3 : Ext (gp M) w g w' := by
      rw [hg]
      exact h3'.fgn (fun j (hj : j < w.heap.size) _ => d1 j (fun hjd => by have := hDw j hjd; omega)) (by omega) d3 d4 d5 (MLe.refl _) (fun _ _ _ h => .inl h) (fun j hj => by cases hj)
    have hX : ∀ b, ¬ (gp M).X b := by
      rintro b (⟨s, hs⟩ | ⟨s, hs⟩)
      · simp [gp] at hs
      · simp only [gp] at hs; split at hs <;> cases hs
    have hbel : Below w.heap.size w w' := ⟨h3.os, h3.tape, h3.output, h3.size, fun j hj => h3.heap j hj (hX j)⟩
    have hMn : ∀ b o v, g.M b o = some v → M b o = some v ∨ w.heap.size ≤ b := fun b o v hv => by
      rcases h3.Mn b o v hv with q | q | q
      · exact .inl q
      · exact .inr q
      · exact absurd q (hX b)
    obtain ⟨t, q, cap, hrs, hg, hbx⟩ := hfit
    obtain ⟨_, hRT⟩ := h2.2.2.1 t _ hg
    obtain ⟨b, hφ, hv, hnc, hmx⟩ := mp_inv hRT
    obtain ⟨b', vs, ty, q1, q2, q3, q4, q5⟩ := h1.box q _ hbx
    rw [hφ] at q1; cases q1
    have hu : (resM a'.tmps (.tmp t)).run P w' = .ok (a'.tmps.getD t Go.undef) w' := rfl
    have hrun := results_run (P := P) (fn := fn) (a := a') (w := w') (us := [a'.tmps.getD t Go.undef]) (by rw [hrs, List.mapM_cons]; simp only [Sem.run_bind, hu, Result.andThen_ok]; rfl)
    refine ⟨a'.tmps.getD t Go.undef, by simpa using hrun, a'.tmps.getD t Go.undef, g.M, rfl, hbel, h3.M, hMn, h1.mem, b, cap, vs, ty, hv, hnc, hmx, ?_, q2, by simpa using q3, fun j c v hc hvj => ?_, q5⟩
    · rcases h3.φn q b hφ with h | h
      · exact h
      · exact absurd h (hX b)
    · have := q4 j (.v c) v (by rw [List.getElem?_map, hc]; rfl) hvj
      exact ⟨v_inv this.1, this.2⟩

def GS.own (g : GS) (d b : Nat) : GS := { g with φ := fun t => if t = d then some b else g.φ t, κ := fun t => if t = d then none else g.κ t }
theorem own_rel (h1 : Wf g w σ.b σ.k) (h2 : Tmps g w σ a) (h3 : Ext E.g E.w g w) (hd : d < σ.n) (hd' : d < 999999) {b : Nat} {vs : Array Value} {ty : TypeId} (hheap : w.heap[b]? = some (.cells vs ty (0, 0))) (hl : cells.length = vs.size)
    (hc : ∀ (j : Nat) c v, cells[j]? = some c → vs[j]? = some v → R g.M c v ∧ v.oneCell' = true) (hM : ∀ o, g.M b o = none) (hn : n ≤ cap) (hm : cap ≤ maxLen)
    (hob : E.w.heap.size ≤ b ∧ b < w.heap.size ∧ ¬ g.X b ∧ b ∉ g.D) : Rel E (σ.newOwn d sz n cap (cells.map .v)) (a.put (some d) (.slice (some ⟨b, 0, none⟩) n cap)) w := by
  have kφ : ∀ {t c}, (g.own d b).φ t = some c → (t = d ∧ c = b) ∨ (t ≠ d ∧ g.φ t = some c) := fun {t c} ht => by
    simp only [GS.own] at ht; split at ht
    · rename_i h; cases ht; exact .inl ⟨h, rfl⟩
    · rename_i h; exact .inr ⟨h, ht⟩
  have kκ : ∀ {t c}, (g.own d b).κ t = some (some c) → t ≠ d ∧ g.κ t = some (some c) := fun {t c} ht => by simp only [GS.own] at ht; split at ht <;> simp_all
  have keep : ∀ {y : TV} {u : Value}, RT g w y u → RT (g.own d b) w (y.kill d) u := fun {y u} hy =>
    RT.keepK (g := g) (g' := g.own d b) (w := w) (fun _ _ _ h => h) (fun t b ht hb => by simp [GS.own, ht, hb]) (fun t ob ht hob => ⟨by simpa [GS.own, ht] using hob, fun _ _ => ⟨rfl, fun _ h => h⟩⟩) hy
  have hφd : (g.own d b).φ d = some b := by simp [GS.own]
  refine ⟨g.own d b, ?_, ?_, ?_⟩
  · exact
    { mem := h1.mem
      box := fun t cs' ht => by
        simp only [AS.newOwn, get] at ht
        cases htd : t == d
        · simp only [htd, cond_false] at ht
          obtain ⟨e1, cs, e2, rfl⟩ := get_killB d t σ.b cs' ht
          obtain ⟨b', vs', e, q1, q2, q3, q4, q5⟩ := h1.box t cs e2
          refine ⟨b', vs', e, by simp [GS.own, e1, q1], q2, by simpa using q3, fun j c v hc' hv => ?_, q5⟩
          rw [← killL_map] at hc'
          obtain ⟨c0, h0, rfl⟩ := getElem?_killL hc'
          exact ⟨keep (q4 j c0 v h0 hv).1, (q4 j c0 v h0 hv).2⟩
        · simp only [htd, cond_true, Option.some.injEq] at ht
          simp only [beq_iff_eq] at htd
          subst ht; subst htd
          refine ⟨b, vs, ty, hφd, hheap, by simpa using hl, fun j c v hc' hv => ?_, hM⟩
          rw [List.getElem?_map] at hc'
          cases hcj : cells[j]? with
          | none => simp [hcj] at hc'
          | some c0 =>
            simp only [hcj, Option.map_some, Option.some.injEq] at hc'
            subst hc'
            exact ⟨.v _ _ (hc j c0 v hcj hv).1, (hc j c0 v hcj hv).2⟩
      ij := fun t t' c ht ht' => by
        rcases kφ ht with ⟨a1, a2⟩ | ⟨a1, a2⟩ <;> rcases kφ ht' with ⟨c1, c2⟩ | ⟨c1, c2⟩
        · rw [a1, c1]
        · subst a2; exact absurd (.inl ⟨t', c2⟩) hob.2.2.1
        · subst c2; exact absurd (.inl ⟨t, a2⟩) hob.2.2.1
        · exact h1.ij t t' c a2 c2
      ik := fun t t' c ht ht' => h1.ik t t' c (kκ ht).2 (kκ ht').2
      ap := fun t t' c ht ht' => by
        rcases kφ ht with ⟨a1, a2⟩ | ⟨a1, a2⟩
        · subst a2; exact absurd (.inr ⟨t', (kκ ht').2⟩) hob.2.2.1
        · exact h1.ap t t' c a2 (kκ ht').2
      ltφ := fun t c ht => by
        rcases kφ ht with ⟨a1, a2⟩ | ⟨a1, a2⟩
        · subst a2; exact hob.2.1
        · exact h1.ltφ t c a2
      ltκ := fun t c ht => h1.ltκ t c (kκ ht).2
      nφ := fun t c o ht => by
        rcases kφ ht with ⟨a1, a2⟩ | ⟨a1, a2⟩
        · subst a2; exact hM o
        · exact h1.nφ t c o a2
      live := fun t ht => by
        simp only [AS.newOwn] at ht
        obtain ⟨e1, e2⟩ := mem_killK d t σ.k ht
        simpa [GS.own, e1] using h1.live t e2
      dfr := h1.dfr
      dnd := h1.dnd
      dX := fun j hj hx => by
        rcases hx with ⟨t, ht⟩ | ⟨t, ht⟩
        · rcases kφ ht with ⟨a1, a2⟩ | ⟨a1, a2⟩
          · subst a2; exact hob.2.2.2 hj
          · exact h1.dX j hj (.inl ⟨t, a2⟩)
        · exact h1.dX j hj (.inr ⟨t, (kκ ht).2⟩) }
  · refine Tmps.cons (σ := σ) (ts := killT d σ.t) ?_ hd (.mp d _ _ _ hφd (.sl _ _ _ _ hn hm))
    refine ⟨h2.1, h2.2.1, fun t y hy => ?_, by simp only [GS.own]; rw [if_neg (by omega)]; exact h2.2.2.2⟩
    simp only [get_killT] at hy
    cases hg : get t σ.t with
    | none => simp [hg] at hy
    | some z =>
      simp only [hg, Option.map_some, Option.some.injEq] at hy
      subst hy
      exact ⟨(h2.2.2.1 t z hg).1, keep (h2.2.2.1 t z hg).2⟩
  · exact
    { h3 with
      φ := fun t c ht hb => by simp only [GS.own]; rw [if_neg (by omega)]; exact h3.φ t c ht hb
      φn := fun t c hc => by
        rcases kφ hc with ⟨a1, a2⟩ | ⟨a1, a2⟩
        · subst a2; exact .inl hob.1
        · exact h3.φn t c a2
      κn := fun t c hc => h3.κn t c (kκ hc).2 }

theorem lead_callO {fid : FuncId} {args : Array Operand} {ats : Array TypeId} {as : List AV} (ho : o.op = .call { callee := .value (.func fid), args := args, argTypes := ats }) (hdst : o.dst = some d) (hd : d < σ.n) (hd' : d < 999999)
    (ha : datArgs P σ args.toList ats.toList = some as) (hfc : FCO P fid as sz n cells) (h : ∀ cap, n ≤ cap → K (σ.newOwn d sz n cap (cells.map .v))) : Leads P σ o K := by
  intro ro m E a w K' Q' hr hK
  obtain ⟨hent, hfc⟩ := hfc
  obtain ⟨g, h1, h2, h3⟩ := hr
  obtain ⟨vs, hfv, hcn, hcR⟩ := fnOf_ok (f := fid) (cs := []) (ev_rt h2 (.func fid)) rfl
  obtain ⟨han, haR⟩ := datArgs_ok h2 ha
  have hvs : vs = #[] := by
    have : vs.size = 0 := by simpa using hcn.symm
    exact Array.eq_empty_of_size_eq_zero this
  subst hvs
  have hcall := hfc g.M w (args.map a.eval) h1.mem (by simp [← han]) (fun j y v hy hv => haR j y v hy (by simpa using hv))
  refine ⟨fenceW o w _, ?_⟩
  rw [show o.semAt (Fw ro).round a.eval = execOp a.eval o from Oper.semAt_eq _ _ _ (by simp [ho])]
  have hrun : (execOp a.eval o).run P w = .ok (.enter fid (args.map a.eval)) w := by
    simp only [execOp, ho, Sem.run_bind, resolve, hfv]
    simp [Deferred.ofValue, invoke, hent]
  rw [hrun]
  refine ⟨fun hd => by simp [Fw, Fence.wide] at hd, ?_⟩
  show CallsIn Fence.wide (m - 1) P fid _ w _
  refine callsIn_wide.2 (hcall.mono ?_)
  rintro e w' ⟨v, M', rfl, hb, hM, hn, hm, b, cap, us, ty, rfl, q1, q2, q3, q4, q5, q6, q7⟩
  have hsz := h3.size
  refine hK _ _ _ (h cap q1) ?_
  rw [hdst]
  refine own_rel (h1.more hb hM hn hm) (h2.more h1 hb hM hn) (h3.more hb hM hn) hd hd' q4 q5 q6 q7 q1 q2 ⟨by omega, (Array.getElem?_eq_some_iff.1 q4).1, ?_, fun hj => by have := (Array.getElem?_eq_some_iff.1 (h1.dfr b hj)).1; omega⟩
  rintro (⟨s, hs⟩ | ⟨s, hs⟩)
  · have := h1.ltφ s b hs; omega
  · have := h1.ltκ s b hs; omega
end
end Go.Proofs.Ytekdlkjonihglaa.AL
