/- Ranges over functions: the rule. -/
import Derived.Test.YtekdlkjonihglaaYA23
namespace Go.Proofs.Ytekdlkjonihglaa.AL
open Go Go.RowKit
set_option linter.unusedVariables false
set_option linter.unusedSimpArgs false

structure Core (w : World) (gs : GS) (l : Nat) (Dm : List Nat) (t0 : List (Nat × TV)) (tm : Array Value) (U : Nat → Prop) (N : Mem) (W : World) (g : GS) (bx : List (Nat × List TV)) (kx : List Nat) : Prop where
  wf : Wf g W bx kx
  D : g.D = []
  κ9 : g.κ 999999 = some none
  tp : ∀ t x, get t t0 = some x → RT g W x (tm.getD t undef)
  ext : Ext gs w g W
  ul : ∀ b, U b → b < W.heap.size ∧ w.heap.size ≤ b ∧ ¬ g.X b ∧ b ≠ l ∧ b ∉ Dm
  NM : MLe N g.M
  MU : ∀ b o v, g.M b o = some v → U b → N b o = some v
  nok : MemOk N W
  xl : ¬ g.X l
  xD : ∀ j ∈ Dm, ¬ g.X j ∧ W.heap[j]? = some (.deferred (some []))
  ll : l < W.heap.size

def memU (N M : Mem) : Mem := fun b o => match N b o with | some v => some v | none => M b o

section
variable {P : Program} {ro : Option Nat} {E : E0} {g g' gs : GS} {w w' W W' : World} {σ σ' : AS} {a : Act} {x : TV} {v : Value} {M M' N N' : Mem} {bx : List (Nat × List TV)} {kx : List Nat} {l : Nat} {Dm : List Nat} {t0 : List (Nat × TV)} {tm : Array Value} {U : Nat → Prop}

theorem X_lt (hw : Wf g W bx kx) {b : Nat} (h : g.X b) : b < W.heap.size := by
  rcases h with ⟨s, hs⟩ | ⟨s, hs⟩
  · exact hw.ltφ s b hs
  · exact hw.ltκ s b hs
theorem cell_lt {b o : Nat} (h : W.cell? ⟨b, o, none⟩ = some v) : b < W.heap.size := by
  unfold World.cell? at h
  cases hb : W.heap[b]? with
  | none => simp [hb] at h
  | some y => exact (Array.getElem?_eq_some_iff.1 hb).1

theorem Core.st (h : Core w gs l Dm t0 tm U N W g bx kx) (hsame : ∀ j, j < W.heap.size → ¬ U j → W'.heap[j]? = W.heap[j]?) (hz : W.heap.size ≤ W'.heap.size) (ho : W'.os = W.os) (ht : W'.tape = W.tape) (hp : W'.output = W.output)
    (hN : MLe N N') (hok : MemOk N' W') (hnew : ∀ b o v, N' b o = some v → N b o = some v ∨ U b ∨ W.heap.size ≤ b) :
    ∃ g', Core w gs l Dm t0 tm (fun b => U b ∨ (W.heap.size ≤ b ∧ b < W'.heap.size)) N' W' g' bx kx := by
  have key : ∀ b o v, g.M b o = some v → W'.cell? ⟨b, o, none⟩ = some v ∧ v.oneCell' = true := fun b o v hv => by
    by_cases hu : U b
    · exact hok b o v (hN b o v (h.MU b o v hv hu))
    · obtain ⟨h1, h2⟩ := h.wf.mem b o v hv
      exact ⟨by rw [World.cell?_of_block (hsame b (cell_lt h1) hu)]; exact h1, h2⟩
  have hM : MLe g.M (memU N' g.M) := fun b o v hv => by
    unfold memU
    cases hn : N' b o with
    | none => exact hv
    | some v' =>
      have h1 := (hok b o v' hn).1
      rw [(key b o v hv).1] at h1
      exact h1.symm
  have hsp : ∀ b o v, memU N' g.M b o = some v → N' b o = some v ∨ (N' b o = none ∧ g.M b o = some v) := fun b o v hv => by
    unfold memU at hv
    cases hn : N' b o with
    | none => rw [hn] at hv; exact .inr ⟨rfl, hv⟩
    | some v' => rw [hn] at hv; exact .inl hv
  have hUX : ∀ b, g.X b → ¬ U b := fun b hx hu => (h.ul b hu).2.2.1 hx
  have hs : ∀ j, j < W.heap.size → g.X j → W'.heap[j]? = W.heap[j]? := fun j hj hx => hsame j hj (hUX j hx)
  have hn1 : ∀ b o v, memU N' g.M b o = some v → g.M b o = some v ∨ ¬ g.X b := fun b o v hv => by
    rcases hsp b o v hv with h1 | ⟨_, h1⟩
    · rcases hnew b o v h1 with h2 | h2 | h2
      · exact .inl (h.NM b o v h2)
      · exact .inr fun hx => hUX b hx h2
      · exact .inr fun hx => by have := X_lt h.wf hx; omega
    · exact .inl h1
  have hmo : MemOk (memU N' g.M) W' := fun b o v hv => by
    rcases hsp b o v hv with h1 | ⟨_, h1⟩
    · exact hok b o v h1
    · exact key b o v h1
  have hDl : ∀ j ∈ Dm, j < W.heap.size := fun j hj => (Array.getElem?_eq_some_iff.1 (h.xD j hj).2).1
  refine ⟨g.re (memU N' g.M) [], h.wf.fgn hs hz hM hn1 hmo (fun j hj => by cases hj) List.nodup_nil (fun j hj => by cases hj), rfl, h.κ9, fun t x hx => (h.tp t x hx).fgn hs h.wf.ltκ hM hn1, ?_, ?_, ?_, ?_, hok, h.xl, ?_, Nat.lt_of_lt_of_le h.ll hz⟩
  · refine h.ext.fgn (fun j hj _ => hsame j (Nat.lt_of_lt_of_le hj h.ext.size) fun hu => ?_) hz ho ht hp hM (fun b o v hv => ?_) (fun j hj => by cases hj)
    · have := (h.ul j hu).2.1; omega
    · rcases hsp b o v hv with h1 | ⟨_, h1⟩
      · rcases hnew b o v h1 with h2 | h2 | h2
        · exact .inl (h.NM b o v h2)
        · exact .inr (.inl (h.ul b h2).2.1)
        · exact .inr (.inl (Nat.le_trans h.ext.size h2))
      · exact .inl h1
  · rintro b (hu | ⟨h1, h2⟩)
    · obtain ⟨q1, q2, q3, q4, q5⟩ := h.ul b hu
      exact ⟨Nat.lt_of_lt_of_le q1 hz, q2, q3, q4, q5⟩
    · refine ⟨h2, Nat.le_trans h.ext.size h1, fun hx => ?_, fun e => ?_, fun hj => ?_⟩
      · have := X_lt h.wf hx; omega
      · have := h.ll; omega
      · have := hDl b hj; omega
  · intro b o v hv
    unfold memU GS.re
    simp [hv]
  · intro b o v hv hu
    rcases hsp b o v hv with h1 | ⟨hn, h1⟩
    · exact h1
    · rcases hu with hu | ⟨h2, _⟩
      · rw [hN b o v (h.MU b o v h1 hu)] at hn; cases hn
      · have := cell_lt (h.wf.mem b o v h1).1; omega
  · exact fun j hj => ⟨(h.xD j hj).1, by rw [hsame j (hDl j hj) fun hu => (h.ul j hu).2.2.2.2 hj]; exact (h.xD j hj).2⟩

theorem re_φ {D : List Nat} : (g.re M D).φ = g.φ := rfl
theorem up_at (s : Nat) : g.up.φ (s + 1000000) = g.φ s := by simp [GS.up]
theorem down_at (s : Nat) : g.down.φ s = g.φ (s + 1000000) := rfl

/-- The record of a loop turns: nothing that is known hangs on it. -/
theorem Wf.rcd (hw : Wf g W bx kx) (hx : ¬ g.X l) {r : Loop} (hr : W.heap[l]? = some (.loop r)) (o : Obj) : Wf g (W.putObj l o) bx kx ∧ ∀ {x : TV} {v : Value}, RT g W x v → RT g (W.putObj l o) x v := by
  have hs : ∀ j, j < W.heap.size → g.X j → (W.putObj l o).heap[j]? = W.heap[j]? := fun j _ hxj => World.putObj_heap_other fun e => hx (e ▸ hxj)
  have hD : ∀ j ∈ g.D, j ≠ l := fun j hj e => by have := hw.dfr j hj; rw [e, hr] at this; cases this
  have hc : ∀ b o', (W.putObj l o).cell? ⟨b, o', none⟩ = W.cell? ⟨b, o', none⟩ ∨ W.cell? ⟨b, o', none⟩ = none := fun b o' => by
    by_cases e : b = l
    · right; subst e; simp [World.cell?, hr]
    · left; exact World.cell?_of_block (World.putObj_heap_other e)
  have hm : MemOk g.M (W.putObj l o) := fun b o' v hv => by
    obtain ⟨h1, h2⟩ := hw.mem b o' v hv
    rcases hc b o' with h3 | h3
    · exact ⟨h3.trans h1, h2⟩
    · rw [h1] at h3; cases h3
  refine ⟨?_, fun {x v} hv => ?_⟩
  · exact hw.fgn (M' := g.M) (D' := g.D) hs (by simp [World.putObj]) (MLe.refl _) (fun _ _ _ h => .inl h) hm (fun j hj => by rw [World.putObj_heap_other (hD j hj)]; exact hw.dfr j hj) hw.dnd hw.dX
  · exact hv.fgn (M' := g.M) (D' := g.D) hs hw.ltκ (MLe.refl _) (fun _ _ _ h => .inl h)

/-- What a round's end owes. -/
def roundQ (n : Nat) (t0 : List (Nat × TV)) (Nx : List (Nat × List TV) → List Nat → Prop) (Q : Exit → AS → Prop) : Exit → AS → Prop
  | .normal, s => Nx s.b s.k
  | .ret, s => Q .ret (AS.mk n t0 s.b s.k).down
  | .exit id, s => Q (.exit id) (AS.mk n t0 s.b s.k).down
  | .goto t, s => Q (.goto t) (AS.mk n t0 s.b s.k).down
  | _, _ => False

def LeBK (bx : List (Nat × List TV)) (kx : List Nat) (b : List (Nat × List TV)) (k : List Nat) : Prop := LeT bx b ∧ LeK kx k

/-- Entering the statement. -/
theorem enter_range (hE : LoopOk ro E) (h3 : Ext E.g E.w g w) (fn : FuncId) (tm : Array Value) (ps : Array Tmp) (assign body : Code) :
    ∃ (l : Nat) (Dm : List Nat) (w1 : World) (dd : Nat), (Instr.enterLoop fn tm ps assign body ro).run P w = .ok (l, Dm.map mkD) w1 ∧ w.heap.size ≤ l ∧ l < w1.heap.size ∧ (∀ j, j < w.heap.size → w1.heap[j]? = w.heap[j]?) ∧ w.heap.size ≤ w1.heap.size ∧
      w1.os = w.os ∧ w1.tape = w.tape ∧ w1.output = w.output ∧ w1.heap[l]? = some (.loop { state := .ready, pending := none, fn, tmps := tm, params := ps, assign, body, defers := dd }) ∧
      (∀ j ∈ Dm, w.heap.size ≤ j ∧ j ≠ l ∧ w1.heap[j]? = some (.deferred (some []))) ∧ Dm.Nodup := by
  cases ro with
  | none =>
    refine ⟨w.heap.size + 1, [w.heap.size], _, w.heap.size, run_enterLoop_outer _ _ _ _ _, by omega, by simp, fun j hj => ?_, by simp; omega, rfl, rfl, rfl, ?_, fun j hj => ?_, by simp⟩
    · rw [Below.heap_alloc _ _ _ (by simp; omega), Below.heap_alloc _ _ _ hj]
    · have := World.alloc_heap_new (w.alloc (.deferred (some []))) (.loop { state := .ready, pending := none, fn, tmps := tm, params := ps, assign, body, defers := w.heap.size }); rwa [World.size_alloc] at this
    · obtain rfl := List.mem_singleton.1 hj
      exact ⟨Nat.le_refl _, by omega, (Below.heap_alloc _ _ _ (by simp)).trans (World.alloc_heap_new w _)⟩
  | some l0 =>
    obtain ⟨⟨r, hr⟩, hx⟩ := hE l0 rfl
    have hl0 : w.heap[l0]? = some (.loop r) := by rw [h3.heap l0 (Array.getElem?_eq_some_iff.1 hr).1 hx]; exact hr
    refine ⟨w.heap.size, [], _, r.defers, run_enterLoop_inner hl0 _ _ _ _ _, Nat.le_refl _, by simp, fun j hj => Below.heap_alloc _ _ _ hj, by simp, rfl, rfl, rfl, World.alloc_heap_new w _, fun j hj => (by cases hj), List.nodup_nil⟩

theorem tri_range {α : Type} {f : FuncId} {caps : List AV} {xs : List (List AV)} {gop : Operand} {ps : Array Tmp} {assign body : Code} {Q : Exit → AS → Prop}
    (hit : fnOf (ev σ gop) = some (f, caps)) (hic : IC P f caps xs) (hps : ∀ x ∈ xs, x.length = ps.size) (hpn : ∀ p ∈ ps.toList, p < σ.n)
    (t0 : List (Nat × TV)) (hp : persT t0 = true) (st : α → List (Nat × List TV) × List Nat) (inv : Nat → α → Prop) (q0 : α) (hi0 : inv 0 q0)
    (hle : Le ⟨σ.n, t0, (st q0).1, (st q0).2⟩ σ.up)
    (round : ∀ l k (hk : k < xs.length) q, inv k q → Tri P (some l) 0 assign ⟨σ.n, setPs ps.toList xs[k] t0, (st q).1, (st q).2⟩ fun e s => e = .normal ∧
      Tri P (some l) 0 body s (roundQ σ.n t0 (fun b kk => ∃ q', inv (k + 1) q' ∧ LeT (st q').1 b ∧ LeK (st q').2 kk) Q))
    (done : ∀ q, inv xs.length q → Q .normal (AS.mk σ.n t0 (st q).1 (st q).2).down) : Tri P ro 0 (.rangeFunc gop ps assign body) σ Q := by
  intro E hE a w hr
  obtain ⟨g0, h1, h2, h3⟩ := hr
  obtain ⟨lb, hfv, hcn, hcR⟩ := fnOf_ok (ev_rt h2 gop) hit
  refine wpIn_rangeFunc ?_
  intro fn hfn
  obtain ⟨l, Dm, w1, dd, hen, hl1, hl2, hold, hz1, ho1, ht1, hp1, hl0, hD1, hDn⟩ := enter_range (P := P) hE h3 fn a.tmps ps assign body
  obtain ⟨rec, hrec⟩ : ∃ rec : LoopState → Option Code → Loop, rec = fun s pe => { state := s, pending := pe, fn, tmps := a.tmps, params := ps, assign, body, defers := dd } := ⟨_, rfl⟩
  refine ⟨l, Dm.map mkD, w1, { target := .fn (.func f) lb, args := #[.func (.yield l) #[] #[]] }, w1, f, #[.func (.yield l) #[] #[]] ++ lb, w1, hen, ?_, fun f' _ => trivial, ?_, fun hd => by simp [Fw, Fence.wide] at hd, ?_⟩
  · simp only [resolve, hfv]
    simp [go_sem]
  · simp [invoke, go_sem, hic.1]
  -- what holds between rounds
  obtain ⟨gs, hgs⟩ : ∃ gs : GS, gs = (g0.up).re g0.M [] := ⟨_, rfl⟩
  have hupw : Wf g0.up w (upB σ.b) σ.k := h1.up
  have hws : Wf gs w (upB σ.b) σ.k := by
    rw [hgs]
    exact hupw.fgn (M' := g0.M) (D' := []) (fun _ _ _ => rfl) (Nat.le_refl _) (MLe.refl _) (fun _ _ _ h => .inl h) h1.mem (fun j hj => by cases hj) List.nodup_nil (fun j hj => by cases hj)
  have hXs : ∀ b, gs.X b → g0.X b := fun b hb => up_X (by rw [hgs] at hb; exact hb)
  have hXlt : ∀ b, gs.X b → b < w.heap.size := fun b hb => X_lt h1 (hXs b hb)
  let JR : Option Nat → (Nat → Prop) → Mem → World → Prop := fun y U N W =>
    match y with
    | some k => ∃ q g, inv k q ∧ Core w gs l Dm t0 a.tmps U N W g (st q).1 (st q).2 ∧ W.heap[l]? = some (.loop (rec .ready none))
    | none => ∃ c e bx kx g, ((c = .ret ∧ e = .ret) ∨ (∃ id, c = .exit id ∧ e = .exit id) ∨ ∃ t, c = .goto t ∧ e = .goto t) ∧ Q e (AS.mk σ.n t0 bx kx).down ∧ Core w gs l Dm t0 a.tmps U N W g bx kx ∧ W.heap[l]? = some (.loop (rec .done (some c)))
  have hstab : Stab JR := by
    refine ⟨fun y U N W W' N' hj hs hz ho ht hp' hN hok hnew => ?_, fun y U N W b hj hu => ?_, fun y U N W hj => ?_⟩
    · cases y with
      | some k =>
        obtain ⟨q, g, hq, hc, hl⟩ := hj
        obtain ⟨g', hc'⟩ := hc.st hs hz ho ht hp' hN hok hnew
        exact ⟨q, g', hq, hc', by rw [hs l hc.ll fun hu => (hc.ul l hu).2.2.2.1 rfl]; exact hl⟩
      | none =>
        obtain ⟨c, e, bx, kx, g, hce, hq, hc, hl⟩ := hj
        obtain ⟨g', hc'⟩ := hc.st hs hz ho ht hp' hN hok hnew
        exact ⟨c, e, bx, kx, g', hce, hq, hc', by rw [hs l hc.ll fun hu => (hc.ul l hu).2.2.2.1 rfl]; exact hl⟩
    · cases y with
      | some k => obtain ⟨q, g, hq, hc, hl⟩ := hj; exact (hc.ul b hu).1
      | none => obtain ⟨c, e, bx, kx, g, hce, hq, hc, hl⟩ := hj; exact (hc.ul b hu).1
    · cases y with
      | some k => obtain ⟨q, g, hq, hc, hl⟩ := hj; exact hc.nok
      | none => obtain ⟨c, e, bx, kx, g, hce, hq, hc, hl⟩ := hj; exact hc.nok
  -- a world that differs at others' blocks alone
  have lift : ∀ {g : GS} {W W' : World} {bx : List (Nat × List TV)} {kx : List Nat} {M : Mem}, True := trivial
  have hxl : ∀ {g : GS}, (∀ b, g.X b → w.heap.size ≤ b → w1.heap.size ≤ b) → ¬ g.X l := fun h hx => by have := h l hx hl1; omega
  have h0 : JR (some 0) (fun _ => False) g0.M w1 := by
    have hs1 : ∀ j, j < w.heap.size → gs.X j → w1.heap[j]? = w.heap[j]? := fun j hj _ => hold j hj
    have hm1 : MemOk g0.M w1 := fun b o v hv => by
      obtain ⟨q1, q2⟩ := h1.mem b o v hv
      exact ⟨by rw [World.cell?_of_block (hold b (cell_lt q1))]; exact q1, q2⟩
    have hgsM : gs.M = g0.M := by rw [hgs]; rfl
    have hgsD : gs.D = [] := by rw [hgs]; rfl
    have hw1 : Wf (gs.re g0.M []) w1 (upB σ.b) σ.k := hws.fgn hs1 hz1 (by rw [hgsM]; exact MLe.refl _) (fun b o v hv => .inl (by rw [hgsM]; exact hv)) hm1 (fun j hj => by cases hj) List.nodup_nil (fun j hj => by cases hj)
    have hre : gs.re g0.M [] = gs := by rw [hgs]; rfl
    rw [hre] at hw1
    have hw2 : Wf gs w1 (st q0).1 (st q0).2 := { hw1 with
      box := fun s cs ht => hw1.box s cs (hle.b _ (get_mem ht))
      live := fun s hs => hw1.live s (memK_mem (hle.k s hs)) }
    refine ⟨q0, gs, hi0, ⟨hw2, hgsD, ?_, fun t x hx => ?_, ?_, fun b hb => hb.elim, by rw [hgsM]; exact MLe.refl _, fun b o v hv hu => hu.elim, hm1, fun hx => ?_, fun j hj => ⟨fun hx => ?_, (hD1 j hj).2.2⟩, hl2⟩, by rw [hrec]; exact hl0⟩
    · rw [hgs]; exact h2.2.2.2
    · have hx' := hle.t _ (get_mem hx)
      simp only [AS.up, get_upT] at hx'
      cases hy : get t σ.t with
      | none => simp [hy] at hx'
      | some y =>
        simp only [hy, Option.map_some, Option.some.injEq] at hx'
        subst hx'
        have hR := ((h2.2.2.1 t y hy).2).up
        have hpx : y.up.pers = true := persT_get hp hx
        rw [hgs]
        exact RT.pers hR hpx (MLe.refl _) (fun s b _ h => h)
    · exact { M := MLe.refl _, Mn := fun _ _ _ h => .inl h, φ := fun _ _ _ h => h, φn := fun s b h => .inr (.inl ⟨s, h⟩), κn := fun s b h => .inr (.inr ⟨s, h⟩), heap := fun j hj _ => hold j hj, size := hz1, os := ho1, tape := ht1, output := hp1, dn := fun j hj => .inr hj }
    · have := hXlt l hx; omega
    · have := hXlt j hx; have := (hD1 j hj).1; omega
  have hlb : ArgsR g0.M caps lb := ⟨hcn, hcR⟩
  have hm1 : MemOk g0.M w1 := hstab.ok (some 0) (fun _ => False) g0.M w1 h0
  refine (hic.2 g0.M w1 lb hm1 hlb l JR hstab ?_ h0).mono ?_
  · -- one round
    intro k U N W args hk hj hargs
    obtain ⟨q, g, hq, hc, hl⟩ := hj
    have hxk : xs[k].length = ps.size := hps _ (List.getElem_mem hk)
    have hy := run_yield (P := P) (args := args) hl (by rw [hrec]; show args.size = ps.size; rw [← hargs.1, hxk])
    rw [hrec] at hy
    have hsz0 : a.tmps.size = σ.n := h2.2.1
    obtain ⟨hsz, htm⟩ := setPs_ok (g := g) (w := W) (n := σ.n) (ps := ps.toList) (as := xs[k]) (vs := args.toList) (T := t0) (tm := a.tmps) hpn (by simpa using hargs.1) (fun j x v hx hv => (hargs.2 j x v hx (by simpa using hv)).mono hc.NM) hsz0
      (fun t x hx => ⟨by have hx' := hle.t _ (get_mem hx); simp only [AS.up, get_upT] at hx'; cases hy : get t σ.t with
        | none => simp [hy] at hx'
        | some y => exact (h2.2.2.1 t y hy).1, hc.tp t x hx⟩)
    have hfold : (ps.zip args).foldl (fun tmps (t, v) => tmps.setIfInBounds t v) a.tmps = (ps.toList.zip args.toList).foldl (fun t p => t.setIfInBounds p.1 p.2) a.tmps := by
      rw [← Array.foldl_toList, Array.toList_zip]
    have hrel : Rel ⟨g, W⟩ ⟨σ.n, setPs ps.toList xs[k] t0, (st q).1, (st q).2⟩ { tmps := (ps.zip args).foldl (fun tmps (t, v) => tmps.setIfInBounds t v) a.tmps, defers := [] } W := by
      refine ⟨g, hc.wf, ⟨by rw [hc.D]; rfl, ?_, fun t x hx => ?_, hc.κ9⟩, Ext.refl _ _⟩
      · show Array.size _ = _; rw [hfold]; exact hsz
      · show _ ∧ RT g W x (Array.getD _ t undef)
        rw [hfold]; exact htm t x hx
    refine ⟨fn, _, assign, body, hy, roundIn_of_wpIn trivial ?_⟩
    refine wpIn_mono (round l k hk q hq ⟨g, W⟩ (fun l' hl' => by cases hl'; exact ⟨⟨_, hl⟩, hc.xl⟩) _ W hrel) ?_
    rintro e a1 W1 ⟨s1, ⟨rfl, hbody⟩, g1, r1, r2, r3⟩
    have hl1' : W1.heap[l]? = some (.loop (rec .ready none)) := by rw [r3.heap l hc.ll hc.xl]; exact hl
    have hxl1 : ¬ g1.X l := fun hx => by
      rcases r3.X hx with h | h
      · have := hc.ll; exact absurd h (Nat.not_le.2 this)
      · exact hc.xl h
    refine ⟨_, run_beginRound hl1' (by rw [hrec]), ?_⟩
    obtain ⟨hbw, hbr⟩ := r1.rcd hxl1 hl1' (.loop { rec .ready none with state := .busy })
    have hlb2 : (W1.putObj l (.loop { rec .ready none with state := .busy })).heap[l]? = some (.loop { rec .ready none with state := .busy }) := World.putObj_heap_same (Array.getElem?_eq_some_iff.1 hl1').1
    have hrel2 : Rel ⟨g1, W1.putObj l (.loop { rec .ready none with state := .busy })⟩ s1 a1 (W1.putObj l (.loop { rec .ready none with state := .busy })) :=
      ⟨g1, hbw, ⟨r2.1, r2.2.1, fun t x hx => ⟨(r2.2.2.1 t x hx).1, hbr (r2.2.2.1 t x hx).2⟩, r2.2.2.2⟩, Ext.refl _ _⟩
    refine wpIn_mono (hbody ⟨g1, _⟩ (fun l' hl' => by cases hl'; exact ⟨⟨_, hlb2⟩, hxl1⟩) _ _ hrel2) ?_
    rintro e a3 W3 ⟨s3, hq3, g3, v1, v2, v3⟩
    have hsz1 : W.heap.size ≤ W1.heap.size := r3.size
    have hszb : (W1.putObj l (.loop { rec .ready none with state := .busy })).heap.size = W1.heap.size := by simp [World.putObj]
    have hll1 : l < W1.heap.size := Nat.lt_of_lt_of_le hc.ll hsz1
    have hl3 : W3.heap[l]? = some (.loop { rec .ready none with state := .busy }) := by rw [v3.heap l (Nat.lt_of_lt_of_eq hll1 hszb.symm) hxl1]; exact hlb2
    have hsz3 : W1.heap.size ≤ W3.heap.size := by have := v3.size; rw [← hszb]; exact this
    -- blocks that are not the run's stay
    have hX1 : ∀ b, b < W.heap.size → g1.X b → g.X b := fun b hb hx => by
      rcases r3.X hx with h | h
      · exact absurd h (Nat.not_le.2 hb)
      · exact h
    have hX3 : ∀ b, b < W.heap.size → g3.X b → g.X b := fun b hb hx => by
      rcases v3.X hx with h | h
      · have h' : W1.heap.size ≤ b := by rw [← hszb]; exact h
        omega
      · exact hX1 b hb h
    have hstay : ∀ b, b < W.heap.size → ¬ g.X b → b ≠ l → W3.heap[b]? = W.heap[b]? := fun b hb hx hbl => by
      rw [v3.heap b (Nat.lt_of_lt_of_eq (Nat.lt_of_lt_of_le hb hsz1) hszb.symm) (fun h => hx (hX1 b hb h))]
      rw [World.putObj_heap_other hbl]
      exact r3.heap b hb hx
    have core : ∀ (jump : Option Code), Core w gs l Dm t0 a.tmps U N (W3.putObj l (.loop (rec (if jump.isNone then .ready else .done) jump))) (g3.re g3.M []) s3.b s3.k := fun jump => by
      have hxl3 : ¬ g3.X l := fun hx => hc.xl (hX3 l hc.ll hx)
      obtain ⟨c1, c2⟩ := v1.rcd hxl3 hl3 (.loop (rec (if jump.isNone then .ready else .done) jump))
      have c3 : Wf (g3.re g3.M []) (W3.putObj l (.loop (rec (if jump.isNone then .ready else .done) jump))) s3.b s3.k :=
        c1.fgn (M' := g3.M) (D' := []) (fun _ _ _ => rfl) (Nat.le_refl _) (MLe.refl _) (fun _ _ _ h => .inl h) c1.mem (fun j hj => by cases hj) List.nodup_nil (fun j hj => by cases hj)
      have hgM : MLe g.M g3.M := r3.M.trans v3.M
      have hgφ : ∀ s b, s ≥ 1000000 → g.φ s = some b → g3.φ s = some b := fun s b hs h => v3.φ s b hs (r3.φ s b hs h)
      have hne : ∀ b, b ≠ l → (W3.putObj l (.loop (rec (if jump.isNone then .ready else .done) jump))).heap[b]? = W3.heap[b]? := fun b hb => World.putObj_heap_other hb
      refine ⟨c3, rfl, v2.2.2.2, fun t x hx => ?_, ?_, fun b hb => ?_, hc.NM.trans hgM, fun b o v hv hu => ?_, fun b o v hv => ?_, hxl3, fun j hj => ⟨fun hx => (hc.xD j hj).1 (hX3 j (Array.getElem?_eq_some_iff.1 (hc.xD j hj).2).1 hx), ?_⟩, ?_⟩
      · exact (hc.tp t x hx).pers (persT_get hp hx) hgM hgφ
      · have e1 : Ext gs w g1 W1 := hc.ext.trans r3
        refine
          { M := hc.ext.M.trans hgM
            Mn := fun b o v hv => ?_
            φ := fun s b hs h => hgφ s b hs (hc.ext.φ s b hs h)
            φn := fun s b h => ?_
            κn := fun s b h => ?_
            heap := fun j hj hx => ?_
            size := ?_
            os := v3.os.trans (r3.os.trans hc.ext.os)
            tape := v3.tape.trans (r3.tape.trans hc.ext.tape)
            output := v3.output.trans (r3.output.trans hc.ext.output)
            dn := fun j hj => by cases hj }
        · rcases v3.Mn b o v hv with h | h | h
          · exact e1.Mn b o v h
          · exact .inr (.inl (Nat.le_trans e1.size (by rw [← hszb]; exact h)))
          · exact .inr (e1.X h)
        · rcases v3.X (.inl ⟨s, h⟩) with h | h
          · exact .inl (Nat.le_trans e1.size (by rw [← hszb]; exact h))
          · exact e1.X h
        · rcases v3.X (.inr ⟨s, h⟩) with h | h
          · exact .inl (Nat.le_trans e1.size (by rw [← hszb]; exact h))
          · exact e1.X h
        · have hjW : j < W.heap.size := Nat.lt_of_lt_of_le hj hc.ext.size
          rw [hne j (by omega), hstay j hjW (fun h => by
            rcases hc.ext.X h with h' | h'
            · omega
            · exact hx h') (by omega)]
          exact hc.ext.heap j hj hx
        · have := hc.ext.size; simp [World.putObj]; omega
      · obtain ⟨q1, q2, q3, q4, q5⟩ := hc.ul b hb
        exact ⟨by simp [World.putObj]; omega, q2, fun hx => q3 (hX3 b q1 hx), q4, q5⟩
      · obtain ⟨q1, q2, q3, q4, q5⟩ := hc.ul b hu
        rcases v3.Mn b o v hv with h | h | h
        · rcases r3.Mn b o v h with h' | h' | h'
          · exact hc.MU b o v h' hu
          · exact absurd h' (Nat.not_le.2 q1)
          · exact absurd h' q3
        · have h' : W1.heap.size ≤ b := by rw [← hszb]; exact h
          omega
        · exact absurd (hX1 b q1 h) q3
      · exact c3.mem b o v (hgM b o v (hc.NM b o v hv))
      · rw [hne j fun e => ?_, hstay j (Array.getElem?_eq_some_iff.1 (hc.xD j hj).2).1 (hc.xD j hj).1 fun e => ?_]
        · exact (hc.xD j hj).2
        · have := (hc.xD j hj).2; rw [e, hl] at this; cases this
        · have := (hc.xD j hj).2; rw [e, hl] at this; cases this
      · simp [World.putObj]; omega
    have hUl : ∀ b, U b → ∀ jump : Option Code, (W3.putObj l (.loop (rec (if jump.isNone then .ready else .done) jump))).heap[b]? = W.heap[b]? := fun b hb jump => by
      obtain ⟨q1, q2, q3, q4, q5⟩ := hc.ul b hb
      rw [World.putObj_heap_other q4]; exact hstay b q1 q3 q4
    have hend : ∀ jump : Option Code, (Instr.endRound l jump).run P W3 = .ok (.bool jump.isNone) (W3.putObj l (.loop (rec (if jump.isNone then .ready else .done) jump))) ∧
        (W3.putObj l (.loop (rec (if jump.isNone then .ready else .done) jump))).heap[l]? = some (.loop (rec (if jump.isNone then .ready else .done) jump)) := fun jump => by
      have := run_endRound (P := P) jump hl3
      rw [hrec] at this ⊢
      exact ⟨this, World.putObj_heap_same (Array.getElem?_eq_some_iff.1 hl3).1⟩
    have hos : W3.os = W.os := v3.os.trans r3.os
    have htp : W3.tape = W.tape := v3.tape.trans r3.tape
    have hou : W3.output = W.output := v3.output.trans r3.output
    have hszW : ∀ jump : Option Code, W.heap.size ≤ (W3.putObj l (.loop (rec (if jump.isNone then .ready else .done) jump))).heap.size := fun jump => by simp [World.putObj]; omega
    cases e with
    | normal =>
      obtain ⟨q', hq', hb', hk'⟩ := hq3
      obtain ⟨e1, e2⟩ := hend none
      have hcc := core none
      refine ⟨_, _, e1, fun b hb => hUl b hb none, hszW none, hos, htp, hou, ?_⟩
      refine .inl ⟨rfl, ?_⟩
      refine ⟨q', g3.re g3.M [], hq', ?_, e2⟩
      exact { hcc with wf := { hcc.wf with box := fun s cs ht => hcc.wf.box s cs (leT_at hb' _ (get_mem ht)), live := fun s hs => hcc.wf.live s (memK_mem (leK_at hk' s hs)) } }
    | ret =>
      obtain ⟨e1, e2⟩ := hend (some .ret)
      refine ⟨_, _, e1, fun b hb => hUl b hb (some .ret), hszW (some .ret), hos, htp, hou, ?_⟩
      refine .inr ⟨rfl, ?_⟩
      exact ⟨.ret, .ret, s3.b, s3.k, g3.re g3.M [], .inl ⟨rfl, rfl⟩, hq3, core (some .ret), e2⟩
    | exit id =>
      obtain ⟨e1, e2⟩ := hend (some (.exit id))
      refine ⟨_, _, e1, fun b hb => hUl b hb (some (.exit id)), hszW (some (.exit id)), hos, htp, hou, ?_⟩
      refine .inr ⟨rfl, ?_⟩
      exact ⟨(.exit id), (.exit id), s3.b, s3.k, g3.re g3.M [], .inr (.inl ⟨id, rfl, rfl⟩), hq3, core (some (.exit id)), e2⟩
    | goto t =>
      obtain ⟨e1, e2⟩ := hend (some (.goto t))
      refine ⟨_, _, e1, fun b hb => hUl b hb (some (.goto t)), hszW (some (.goto t)), hos, htp, hou, ?_⟩
      refine .inr ⟨rfl, ?_⟩
      exact ⟨(.goto t), (.goto t), s3.b, s3.k, g3.re g3.M [], .inr (.inr ⟨t, rfl, rfl⟩), hq3, core (some (.goto t)), e2⟩
    | panic ch => exact hq3.elim
    | outgrown => exact hq3.elim
  · -- behind the iterator
    rintro e W2 ⟨⟨v, rfl⟩, U, N, hj⟩
    have fin : ∀ {g : GS} {bx : List (Nat × List TV)} {kx : List Nat} {r : Loop}, Core w gs l Dm t0 a.tmps U N W2 g bx kx → W2.heap[l]? = some (.loop r) → ∀ o : Obj, Rel E (AS.mk σ.n t0 bx kx).down { a with defers := Dm.map mkD ++ a.defers } (W2.putObj l o) := fun {g bx kx r} hc hl o => by
      obtain ⟨c1, c2⟩ := hc.wf.rcd hc.xl hl o
      have hgX : ∀ b, g.X b → w.heap.size ≤ b ∨ g0.X b := fun b hb => (hc.ext.X hb).imp id (hXs b)
      have hDg : ∀ j ∈ g0.D, ¬ g.X j ∧ j < w.heap.size := fun j hj => by
        have hlt := (Array.getElem?_eq_some_iff.1 (h1.dfr j hj)).1
        refine ⟨fun hx => ?_, hlt⟩
        rcases hgX j hx with h | h
        · omega
        · exact h1.dX j hj h
      have hdfr : ∀ j ∈ Dm ++ g0.D, (W2.putObj l o).heap[j]? = some (.deferred (some [])) := fun j hj => by
        rcases List.mem_append.1 hj with h | h
        · rw [World.putObj_heap_other fun e => ?_]
          · exact (hc.xD j h).2
          · have := (hc.xD j h).2; rw [e, hl] at this; cases this
        · obtain ⟨_, hlt⟩ := hDg j h
          rw [World.putObj_heap_other (by omega), hc.ext.heap j hlt fun hx => h1.dX j h (hXs j hx)]
          exact h1.dfr j h
      have d1 : Wf (g.re g.M (Dm ++ g0.D)) (W2.putObj l o) bx kx := c1.fgn (M' := g.M) (fun _ _ _ => rfl) (Nat.le_refl _) (MLe.refl _) (fun _ _ _ h => .inl h) c1.mem hdfr
        (by
          refine List.nodup_append.2 ⟨hDn, h1.dnd, fun x hx y hy e => ?_⟩
          have h4 := (hD1 x hx).1
          have h5 := (hDg y hy).2
          omega)
        (fun j hj => by
          rcases List.mem_append.1 hj with h | h
          · exact (hc.xD j h).1
          · exact (hDg j h).1)
      refine ⟨(g.re g.M (Dm ++ g0.D)).down, d1.down, ⟨?_, h2.2.1, fun t x hx => ?_, hc.κ9⟩, ?_⟩
      · show Dm.map mkD ++ a.defers = (Dm ++ g0.D).map mkD
        rw [h2.1, List.map_append]
      · have hx0 : get t (downT t0) = some x := hx
        rw [get_downT] at hx0
        cases hy : get t t0 with
        | none => simp [hy] at hx0
        | some y =>
          simp only [hy, Option.map_some, Option.some.injEq] at hx0
          subst hx0
          refine ⟨?_, ?_⟩
          · have hx' := hle.t _ (get_mem hy)
            simp only [AS.up, get_upT] at hx'
            cases hz : get t σ.t with
            | none => simp [hz] at hx'
            | some z => exact (h2.2.2.1 t z hz).1
          · have := c2 (hc.tp t y hy)
            exact (RT.pers (g' := g.re g.M (Dm ++ g0.D)) (w' := W2.putObj l o) this (persT_get hp hy) (MLe.refl _) (fun s b _ h => h)).down
      · have hMs : gs.M = g0.M := by rw [hgs]; rfl
        exact
          { M := h3.M.trans (by have := hc.ext.M; rw [hMs] at this; exact this)
            Mn := fun b o v hv => by
              rcases hc.ext.Mn b o v hv with h | h | h
              · rw [hMs] at h; exact h3.Mn b o v h
              · exact .inr (.inl (Nat.le_trans h3.size h))
              · exact .inr (h3.X (hXs b h))
            φ := fun s b hs h => by
              rw [down_at, re_φ]
              refine hc.ext.φ _ b (Nat.le_add_left _ _) ?_
              rw [hgs, re_φ, up_at]
              exact h3.φ s b hs h
            φn := fun s b h => by
              rcases hgX b (.inl ⟨_, h⟩) with h' | h'
              · exact .inl (Nat.le_trans h3.size h')
              · exact h3.X h'
            κn := fun s b h => by
              rcases hgX b (.inr ⟨_, h⟩) with h' | h'
              · exact .inl (Nat.le_trans h3.size h')
              · exact h3.X h'
            heap := fun j hj hx => by
              have hsz := h3.size
              rw [World.putObj_heap_other (by omega), hc.ext.heap j (by omega) fun h => by
                rcases h3.X (hXs j h) with h' | h'
                · omega
                · exact hx h']
              exact h3.heap j hj hx
            size := by have := h3.size; have := hc.ext.size; simp [World.putObj]; omega
            os := hc.ext.os.trans h3.os
            tape := hc.ext.tape.trans h3.tape
            output := hc.ext.output.trans h3.output
            dn := fun j hj => by
              rcases List.mem_append.1 hj with h | h
              · exact .inl (Nat.le_trans h3.size (hD1 j h).1)
              · exact h3.dn j h }
    rcases hj with ⟨q, g, hq, hc, hl⟩ | ⟨c, e, bx, kx, g, hce, hq, hc, hl⟩
    · refine ⟨none, _, by have := run_endLoop (P := P) hl (by rw [hrec]; simp); rw [hrec] at this; exact this, ?_⟩
      exact ⟨_, done q hq, fin hc hl _⟩
    · refine ⟨some c, _, by have := run_endLoop (P := P) hl (by rw [hrec]; simp); rw [hrec] at this; exact this, ?_⟩
      have hf := fin hc hl
      rcases hce with ⟨rfl, rfl⟩ | ⟨id, rfl, rfl⟩ | ⟨t, rfl, rfl⟩
      · exact wpIn_ret ⟨_, hq, hf _⟩
      · exact wpIn_exit ⟨_, hq, hf _⟩
      · exact wpIn_goto ⟨_, hq, hf _⟩
end
end Go.Proofs.Ytekdlkjonihglaa.AL
