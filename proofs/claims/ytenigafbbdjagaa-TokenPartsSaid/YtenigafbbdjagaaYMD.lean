/- An abstract program logic: merged texts. -/
import Derived.Test.YtenigafbbdjagaaYMB
/- Ranges over functions: what an iterator promises; what the statement makes. -/
namespace Go.Proofs.Ytenigafbbdjagaa.AL
open Go Go.RowKit
set_option linter.unusedVariables false
set_option linter.unusedSimpArgs false

/-! ### Names of variables from outside -/
mutual
def TV.up : TV → TV
  | .loc s o => .loc (s + 1000000) o
  | .mp s q => .mp (s + 1000000) q
  | .fn f cs => .fn f (upL cs)
  | .tup cs => .tup (upL cs)
  | .undef => .undef
  | .v a => .v a
  | .ap sz xs s => .ap sz xs s
  | .it s str p => .it s str p
def upL : List TV → List TV
  | [] => []
  | x :: l => x.up :: upL l
end
mutual
def TV.down : TV → TV
  | .loc s o => if 1000000 ≤ s then .loc (s - 1000000) o else .undef
  | .mp s q => if 1000000 ≤ s then .mp (s - 1000000) q else .undef
  | .fn f cs => .fn f (downL cs)
  | .tup cs => .tup (downL cs)
  | .undef => .undef
  | .v a => .v a
  | .ap sz xs s => .ap sz xs s
  | .it s str p => .it s str p
def downL : List TV → List TV
  | [] => []
  | x :: l => x.down :: downL l
end
theorem upL_map : ∀ l : List TV, upL l = l.map TV.up
  | [] => rfl
  | x :: l => by simp only [upL, List.map_cons, upL_map l]
theorem downL_map : ∀ l : List TV, downL l = l.map TV.down
  | [] => rfl
  | x :: l => by simp only [downL, List.map_cons, downL_map l]
def upB : List (Nat × List TV) → List (Nat × List TV)
  | [] => []
  | (s, cs) :: l => (s + 1000000, upL cs) :: upB l
def downB : List (Nat × List TV) → List (Nat × List TV)
  | [] => []
  | (s, cs) :: l => bif Nat.ble 1000000 s then (s - 1000000, downL cs) :: downB l else downB l
def upT : List (Nat × TV) → List (Nat × TV)
  | [] => []
  | (t, x) :: l => (t, x.up) :: upT l
def downT : List (Nat × TV) → List (Nat × TV)
  | [] => []
  | (t, x) :: l => (t, x.down) :: downT l
def AS.up (σ : AS) : AS := ⟨σ.n, upT σ.t, upB σ.b, σ.k⟩
def AS.down (σ : AS) : AS := ⟨σ.n, downT σ.t, downB σ.b, σ.k⟩
def GS.up (g : GS) : GS := { g with φ := fun t => if 1000000 ≤ t then g.φ (t - 1000000) else none }
def GS.down (g : GS) : GS := { g with φ := fun t => g.φ (t + 1000000) }

theorem get_upT (t : Nat) : ∀ l : List (Nat × TV), get t (upT l) = (get t l).map TV.up
  | [] => rfl
  | (m, x) :: l => by
    simp only [upT, get]
    cases t == m <;> simp [get_upT t l]
theorem get_downT (t : Nat) : ∀ l : List (Nat × TV), get t (downT l) = (get t l).map TV.down
  | [] => rfl
  | (m, x) :: l => by
    simp only [downT, get]
    cases t == m <;> simp [get_downT t l]
theorem get_upB {s : Nat} {cs : List TV} : ∀ {l : List (Nat × List TV)}, get s (upB l) = some cs → ∃ s' cs', s = s' + 1000000 ∧ cs = cs'.map TV.up ∧ get s' l = some cs'
  | [], h => by simp [upB, get] at h
  | (m, x) :: l, h => by
    simp only [upB, get] at h
    cases hm : s == m + 1000000
    · simp only [hm, cond_false] at h
      obtain ⟨s', cs', h1, h2, h3⟩ := get_upB h
      refine ⟨s', cs', h1, h2, ?_⟩
      have : (s' == m) = false := by simp only [beq_eq_false_iff_ne] at hm ⊢; omega
      simp [get, this, h3]
    · simp only [hm, cond_true, Option.some.injEq] at h
      simp only [beq_iff_eq] at hm
      exact ⟨m, x, hm, by rw [← h, upL_map], by simp [get]⟩
theorem get_downB {s : Nat} {cs : List TV} : ∀ {l : List (Nat × List TV)}, get s (downB l) = some cs → ∃ cs', cs = cs'.map TV.down ∧ get (s + 1000000) l = some cs'
  | [], h => by simp [downB, get] at h
  | (m, x) :: l, h => by
    simp only [downB] at h
    cases hb : Nat.ble 1000000 m
    · simp only [hb, cond_false] at h
      obtain ⟨cs', h2, h3⟩ := get_downB h
      refine ⟨cs', h2, ?_⟩
      have hlt : ¬ 1000000 ≤ m := fun e => by rw [← Nat.ble_eq, hb] at e; cases e
      have : (s + 1000000 == m) = false := by simp only [beq_eq_false_iff_ne]; omega
      simp [get, this, h3]
    · have hle : 1000000 ≤ m := Nat.le_of_ble_eq_true hb
      simp only [hb, cond_true, get] at h
      cases hm : s == m - 1000000
      · simp only [hm, cond_false] at h
        obtain ⟨cs', h2, h3⟩ := get_downB h
        refine ⟨cs', h2, ?_⟩
        have : (s + 1000000 == m) = false := by simp only [beq_eq_false_iff_ne] at hm ⊢; omega
        simp [get, this, h3]
      · simp only [hm, cond_true, Option.some.injEq] at h
        simp only [beq_iff_eq] at hm
        have : s + 1000000 = m := by omega
        exact ⟨x, by rw [← h, downL_map], by simp [get, this]⟩

section
variable {P : Program} {E : E0} {g g' : GS} {w w' : World} {σ σ' : AS} {a : Act} {x : TV} {v : Value} {M M' : Mem} {bx : List (Nat × List TV)} {k : List Nat}

theorem RT.up (h : RT g w x v) : RT g.up w x.up v := by
  induction h with
  | undef x => exact .undef x
  | v a x h => exact .v a x h
  | loc s off b h => exact .loc _ off b (by simp [GS.up, h])
  | ap sz xs s x h hk => exact .ap sz xs s x h hk
  | fn f cs vs hn h ih =>
    simp only [TV.up, upL_map]
    refine .fn f _ vs (by simpa using hn) fun j c v hc hv => ?_
    rw [List.getElem?_map] at hc
    cases hcj : cs[j]? with
    | none => simp [hcj] at hc
    | some c0 => simp only [hcj, Option.map_some, Option.some.injEq] at hc; subst hc; exact ih j c0 v hcj hv
  | tup cs vs hn h ih =>
    simp only [TV.up, upL_map]
    refine .tup _ vs (by simpa using hn) fun j c v hc hv => ?_
    rw [List.getElem?_map] at hc
    cases hcj : cs[j]? with
    | none => simp [hcj] at hc
    | some c0 => simp only [hcj, Option.map_some, Option.some.injEq] at hc; subst hc; exact ih j c0 v hcj hv
  | mp s b q x h hx => exact .mp _ b q x (by simp [GS.up, h]) hx
  | it s str pos x hk => exact .it s str pos x hk
theorem RT.down (h : RT g w x v) : RT g.down w x.down v := by
  induction h with
  | undef x => exact .undef x
  | v a x h => exact .v a x h
  | loc s off b h =>
    simp only [TV.down]
    split
    · rename_i hs; exact .loc _ off b (by simp only [GS.down]; rw [show s - 1000000 + 1000000 = s by omega]; exact h)
    · exact .undef _
  | ap sz xs s x h hk => exact .ap sz xs s x h hk
  | fn f cs vs hn h ih =>
    simp only [TV.down, downL_map]
    refine .fn f _ vs (by simpa using hn) fun j c v hc hv => ?_
    rw [List.getElem?_map] at hc
    cases hcj : cs[j]? with
    | none => simp [hcj] at hc
    | some c0 => simp only [hcj, Option.map_some, Option.some.injEq] at hc; subst hc; exact ih j c0 v hcj hv
  | tup cs vs hn h ih =>
    simp only [TV.down, downL_map]
    refine .tup _ vs (by simpa using hn) fun j c v hc hv => ?_
    rw [List.getElem?_map] at hc
    cases hcj : cs[j]? with
    | none => simp [hcj] at hc
    | some c0 => simp only [hcj, Option.map_some, Option.some.injEq] at hc; subst hc; exact ih j c0 v hcj hv
  | mp s b q x h hx =>
    simp only [TV.down]
    split
    · rename_i hs; exact .mp _ b q x (by simp only [GS.down]; rw [show s - 1000000 + 1000000 = s by omega]; exact h) hx
    · exact .undef _
  | it s str pos x hk => exact .it s str pos x hk

theorem up_φ {t b : Nat} (h : g.up.φ t = some b) : 1000000 ≤ t ∧ g.φ (t - 1000000) = some b := by
  simp only [GS.up] at h
  split at h
  · rename_i ht; exact ⟨ht, h⟩
  · cases h
theorem up_X {b : Nat} (h : g.up.X b) : g.X b := by
  rcases h with ⟨s, hs⟩ | ⟨s, hs⟩
  · exact .inl ⟨_, (up_φ hs).2⟩
  · exact .inr ⟨s, hs⟩
theorem X_up {b : Nat} (h : g.X b) : g.up.X b := by
  rcases h with ⟨s, hs⟩ | ⟨s, hs⟩
  · exact .inl ⟨s + 1000000, by simp [GS.up, hs]⟩
  · exact .inr ⟨s, hs⟩
theorem down_X {b : Nat} (h : g.down.X b) : g.X b := by
  rcases h with ⟨s, hs⟩ | ⟨s, hs⟩
  · exact .inl ⟨_, hs⟩
  · exact .inr ⟨s, hs⟩

theorem Wf.up (hw : Wf g w bx k) : Wf g.up w (upB bx) k where
  mem := hw.mem
  box := fun s cs ht => by
    obtain ⟨s', cs', rfl, rfl, h3⟩ := get_upB ht
    obtain ⟨b, vs, e, q1, q2, q3, q4, q5⟩ := hw.box s' cs' h3
    refine ⟨b, vs, e, by simp [GS.up, q1], q2, by simpa using q3, fun j c v hc hv => ?_, q5⟩
    rw [List.getElem?_map] at hc
    cases hcj : cs'[j]? with
    | none => simp [hcj] at hc
    | some c0 => simp only [hcj, Option.map_some, Option.some.injEq] at hc; subst hc; exact ⟨(q4 j c0 v hcj hv).1.up, (q4 j c0 v hcj hv).2⟩
  ij := fun t t' b ht ht' => by
    obtain ⟨h1, h2⟩ := up_φ ht; obtain ⟨h3, h4⟩ := up_φ ht'
    have := hw.ij _ _ b h2 h4; omega
  ik := hw.ik
  ap := fun t t' b ht ht' => hw.ap _ t' b (up_φ ht).2 ht'
  ltφ := fun t b ht => hw.ltφ _ b (up_φ ht).2
  ltκ := hw.ltκ
  nφ := fun t b o ht => hw.nφ _ b o (up_φ ht).2
  live := hw.live
  dfr := hw.dfr
  dnd := hw.dnd
  dX := fun j hj hx => hw.dX j hj (up_X hx)
theorem Wf.down (hw : Wf g w bx k) : Wf g.down w (downB bx) k where
  mem := hw.mem
  box := fun s cs ht => by
    obtain ⟨cs', rfl, h3⟩ := get_downB ht
    obtain ⟨b, vs, e, q1, q2, q3, q4, q5⟩ := hw.box _ cs' h3
    refine ⟨b, vs, e, q1, q2, by simpa using q3, fun j c v hc hv => ?_, q5⟩
    rw [List.getElem?_map] at hc
    cases hcj : cs'[j]? with
    | none => simp [hcj] at hc
    | some c0 => simp only [hcj, Option.map_some, Option.some.injEq] at hc; subst hc; exact ⟨(q4 j c0 v hcj hv).1.down, (q4 j c0 v hcj hv).2⟩
  ij := fun t t' b ht ht' => by have := hw.ij _ _ b ht ht'; omega
  ik := hw.ik
  ap := fun t t' b ht ht' => hw.ap _ t' b ht ht'
  ltφ := fun t b ht => hw.ltφ _ b ht
  ltκ := hw.ltκ
  nφ := fun t b o ht => hw.nφ _ b o ht
  live := hw.live
  dfr := hw.dfr
  dnd := hw.dnd
  dX := fun j hj hx => hw.dX j hj (down_X hx)

/-- What stays whatever a run makes. -/
def TV.pers : TV → Bool
  | .v _ => true
  | .loc s _ => Nat.ble 1000000 s
  | .undef => true
  | .tup [] => true
  | _ => false
def persT : List (Nat × TV) → Bool
  | [] => true
  | (_, x) :: l => x.pers && persT l
theorem persT_get {x : TV} {t : Nat} : ∀ {l : List (Nat × TV)}, persT l = true → get t l = some x → x.pers = true
  | [], _, h => by simp [get] at h
  | (m, y) :: l, hp, h => by
    simp only [persT, Bool.and_eq_true] at hp
    simp only [get] at h
    cases hm : t == m
    · simp only [hm, cond_false] at h; exact persT_get hp.2 h
    · simp only [hm, cond_true, Option.some.injEq] at h; subst h; exact hp.1
theorem RT.pers (h : RT g w x v) (hp : x.pers = true) (hM : MLe g.M g'.M) (hφ : ∀ s b, s ≥ 1000000 → g.φ s = some b → g'.φ s = some b) : RT g' w' x v := by
  cases h with
  | undef => exact .undef _
  | v a _ h => exact .v a _ (h.mono hM)
  | loc s off b h => exact .loc s off b (hφ s b (Nat.le_of_ble_eq_true hp) h)
  | ap sz xs s x h hk => simp [TV.pers] at hp
  | fn f cs vs hn h => simp [TV.pers] at hp
  | tup cs vs hn h =>
    cases cs with
    | nil => exact .tup [] vs hn fun j c v hc => by simp at hc
    | cons c cs => simp [TV.pers] at hp
  | mp s b q x h hx => simp [TV.pers] at hp
  | it s str pos x hk => simp [TV.pers] at hp

/-- Values, read in line. -/
def ArgsR (M : Mem) (as : List AV) (vs : Array Value) : Prop := as.length = vs.size ∧ ∀ (j : Nat) x v, as[j]? = some x → vs[j]? = some v → R M x v

/-- What the caller of an iterator holds between its rounds: it abides whatever the iterator makes of its own blocks and of new ones. y: how many rounds there were (none: one has left); U: the iterator's own blocks; N: the memory that it knows. -/
structure Stab (J : Option Nat → (Nat → Prop) → Mem → World → Prop) : Prop where
  st : ∀ y U N W W' N', J y U N W → (∀ j, j < W.heap.size → ¬ U j → W'.heap[j]? = W.heap[j]?) → W.heap.size ≤ W'.heap.size → W'.os = W.os → W'.tape = W.tape → W'.output = W.output →
    MLe N N' → MemOk N' W' → (∀ b o v, N' b o = some v → N b o = some v ∨ U b ∨ W.heap.size ≤ b) → J y (fun b => U b ∨ (W.heap.size ≤ b ∧ b < W'.heap.size)) N' W'
  lt : ∀ y U N W b, J y U N W → U b → b < W.heap.size
  ok : ∀ y U N W, J y U N W → MemOk N W
  tab : ∀ y U N W, J y U N W → TabM N

/-- An iterator's contract: it tells these, in order, while it is told to go on. -/
def IC (P : Program) (f : FuncId) (caps : List AV) (xs : List (List AV)) : Prop :=
  (∀ args w, (callFunc f args).run P w = .ok (.enter f args) w) ∧
  ∀ (M : Mem) (w : World) (lb : Array Value), MemOk M w → ArgsR M caps lb →
  ∀ (l : Nat) (J : Option Nat → (Nat → Prop) → Mem → World → Prop), Stab J →
    (∀ k U N W args, (h : k < xs.length) → J (some k) U N W → ArgsR N xs[k] args →
      YieldAt Fence.wide 0 P l args W fun e W' => (∀ b, U b → W'.heap[b]? = W.heap[b]?) ∧ W.heap.size ≤ W'.heap.size ∧ W'.os = W.os ∧ W'.tape = W.tape ∧ W'.output = W.output ∧
        ((e = .returned (.bool true) ∧ J (some (k + 1)) U N W') ∨ (e = .returned (.bool false) ∧ J none U N W'))) →
    J (some 0) (fun _ => False) M w →
    CallsIn Fence.wide 0 P f (#[.func (.yield l) #[] #[]] ++ lb) w fun e W' => (∃ v, e = .returned v) ∧ ∃ U N, J (some xs.length) U N W' ∨ J none U N W'

def setPs : List Tmp → List AV → List (Nat × TV) → List (Nat × TV)
  | p :: ps, x :: xs, t => setPs ps xs ((p, .v x) :: t)
  | _, _, t => t
theorem setPs_ok {n : Nat} : ∀ {ps : List Tmp} {as : List AV} {vs : List Value} {T : List (Nat × TV)} {tm : Array Value}, (∀ p ∈ ps, p < n) → as.length = vs.length → (∀ (j : Nat) x v, as[j]? = some x → vs[j]? = some v → R g.M x v) → tm.size = n →
    (∀ t x, get t T = some x → t < n ∧ RT g w x (tm.getD t undef)) →
    ((ps.zip vs).foldl (fun t p => t.setIfInBounds p.1 p.2) tm).size = n ∧ ∀ t x, get t (setPs ps as T) = some x → t < n ∧ RT g w x (((ps.zip vs).foldl (fun t p => t.setIfInBounds p.1 p.2) tm).getD t undef)
  | [], as, vs, T, tm, _, _, _, hs, h => ⟨hs, by simpa [setPs] using h⟩
  | p :: ps, [], vs, T, tm, _, hl, _, hs, h => by
    have : vs = [] := List.eq_nil_of_length_eq_zero hl.symm
    subst this
    exact ⟨hs, by simpa [setPs] using h⟩
  | p :: ps, x :: as, [], T, tm, _, hl, _, hs, h => by simp at hl
  | p :: ps, x :: as, v :: vs, T, tm, hp, hl, hR, hs, h => by
    simp only [List.zip_cons_cons, List.foldl_cons, setPs]
    refine setPs_ok (fun q hq => hp q (List.mem_cons_of_mem _ hq)) (by simpa using hl) (fun j y u hy hu => hR (j + 1) y u (by simpa using hy) (by simpa using hu)) (by simpa using hs) fun t y ht => ?_
    simp only [get] at ht
    have hpn := hp p (by simp)
    cases hm : t == p
    · simp only [hm, cond_false] at ht
      simp only [beq_eq_false_iff_ne] at hm
      refine ⟨(h t y ht).1, ?_⟩
      have := (h t y ht).2
      rw [Array.getD_eq_getD_getElem?, Array.getElem?_setIfInBounds_ne (by omega), ← Array.getD_eq_getD_getElem?]
      exact this
    · simp only [hm, cond_true, Option.some.injEq] at ht
      simp only [beq_iff_eq] at hm
      subst ht; subst hm
      refine ⟨hpn, ?_⟩
      rw [Array.getD_eq_getD_getElem?, Array.getElem?_setIfInBounds_self_of_lt (by rw [hs]; exact hpn)]
      exact .v _ _ (hR 0 x v rfl rfl)
end
end Go.Proofs.Ytenigafbbdjagaa.AL

/- Ranges over functions: the rule. -/
namespace Go.Proofs.Ytenigafbbdjagaa.AL
open Go Go.RowKit
set_option linter.unusedVariables false
set_option linter.unusedSimpArgs false

structure Core (w : World) (gs : GS) (l : Nat) (Dm : List Nat) (t0 : List (Nat × TV)) (tm : Array Value) (U : Nat → Prop) (N : Mem) (W : World) (g : GS) (bx : List (Nat × List TV)) (kx : List Nat) : Prop where
  wf : Wf g W bx kx
  D : g.D = []
  κ9 : g.κ 999999 = some none
  tp : ∀ t x, get t t0 = some x → RT g W x (tm.getD t undef)
  ext : Ext gs w g W
  ul : ∀ b, U b → b < W.heap.size ∧ w.heap.size ≤ b ∧ ¬ g.X b ∧ b ≠ l ∧ b ∉ Dm
  NM : MLe N g.M
  MU : ∀ b o v, g.M b o = some v → U b → N b o = some v
  nok : MemOk N W
  xl : ¬ g.X l
  xD : ∀ j ∈ Dm, ¬ g.X j ∧ W.heap[j]? = some (.deferred (some []))
  ll : l < W.heap.size
  tN : TabM N

def memU (N M : Mem) : Mem := fun b o => match N b o with | some v => some v | none => M b o

section
variable {P : Program} {ro : Option Nat} {E : E0} {g g' gs : GS} {w w' W W' : World} {σ σ' : AS} {a : Act} {x : TV} {v : Value} {M M' N N' : Mem} {bx : List (Nat × List TV)} {kx : List Nat} {l : Nat} {Dm : List Nat} {t0 : List (Nat × TV)} {tm : Array Value} {U : Nat → Prop}

theorem X_lt (hw : Wf g W bx kx) {b : Nat} (h : g.X b) : b < W.heap.size := by
  rcases h with ⟨s, hs⟩ | ⟨s, hs⟩
  · exact hw.ltφ s b hs
  · exact hw.ltκ s b hs
theorem cell_lt {b o : Nat} (h : W.cell? ⟨b, o, none⟩ = some v) : b < W.heap.size := by
  unfold World.cell? at h
  cases hb : W.heap[b]? with
  | none => simp [hb] at h
  | some y => exact (Array.getElem?_eq_some_iff.1 hb).1

theorem Core.st (h : Core w gs l Dm t0 tm U N W g bx kx) (hsame : ∀ j, j < W.heap.size → ¬ U j → W'.heap[j]? = W.heap[j]?) (hz : W.heap.size ≤ W'.heap.size) (ho : W'.os = W.os) (ht : W'.tape = W.tape) (hp : W'.output = W.output)
    (hN : MLe N N') (hok : MemOk N' W') (hnew : ∀ b o v, N' b o = some v → N b o = some v ∨ U b ∨ W.heap.size ≤ b) :
    ∃ g', Core w gs l Dm t0 tm (fun b => U b ∨ (W.heap.size ≤ b ∧ b < W'.heap.size)) N' W' g' bx kx := by
  have key : ∀ b o v, g.M b o = some v → W'.cell? ⟨b, o, none⟩ = some v ∧ v.oneCell' = true := fun b o v hv => by
    by_cases hu : U b
    · exact hok b o v (hN b o v (h.MU b o v hv hu))
    · obtain ⟨h1, h2⟩ := h.wf.mem b o v hv
      exact ⟨by rw [World.cell?_of_block (hsame b (cell_lt h1) hu)]; exact h1, h2⟩
  have hM : MLe g.M (memU N' g.M) := fun b o v hv => by
    unfold memU
    cases hn : N' b o with
    | none => exact hv
    | some v' =>
      have h1 := (hok b o v' hn).1
      rw [(key b o v hv).1] at h1
      exact h1.symm
  have hsp : ∀ b o v, memU N' g.M b o = some v → N' b o = some v ∨ (N' b o = none ∧ g.M b o = some v) := fun b o v hv => by
    unfold memU at hv
    cases hn : N' b o with
    | none => rw [hn] at hv; exact .inr ⟨rfl, hv⟩
    | some v' => rw [hn] at hv; exact .inl hv
  have hUX : ∀ b, g.X b → ¬ U b := fun b hx hu => (h.ul b hu).2.2.1 hx
  have hs : ∀ j, j < W.heap.size → g.X j → W'.heap[j]? = W.heap[j]? := fun j hj hx => hsame j hj (hUX j hx)
  have hn1 : ∀ b o v, memU N' g.M b o = some v → g.M b o = some v ∨ ¬ g.X b := fun b o v hv => by
    rcases hsp b o v hv with h1 | ⟨_, h1⟩
    · rcases hnew b o v h1 with h2 | h2 | h2
      · exact .inl (h.NM b o v h2)
      · exact .inr fun hx => hUX b hx h2
      · exact .inr fun hx => by have := X_lt h.wf hx; omega
    · exact .inl h1
  have hmo : MemOk (memU N' g.M) W' := fun b o v hv => by
    rcases hsp b o v hv with h1 | ⟨_, h1⟩
    · exact hok b o v h1
    · exact key b o v h1
  have hDl : ∀ j ∈ Dm, j < W.heap.size := fun j hj => (Array.getElem?_eq_some_iff.1 (h.xD j hj).2).1
  refine ⟨g.re (memU N' g.M) [], h.wf.fgn hs hz hM hn1 hmo (fun j hj => by cases hj) List.nodup_nil (fun j hj => by cases hj), rfl, h.κ9, fun t x hx => (h.tp t x hx).fgn hs h.wf.ltκ hM hn1, ?_, ?_, ?_, ?_, hok, h.xl, ?_, Nat.lt_of_lt_of_le h.ll hz, h.tN.mono hN⟩
  · refine h.ext.fgn (fun j hj _ => hsame j (Nat.lt_of_lt_of_le hj h.ext.size) fun hu => ?_) hz ho ht hp hM (fun b o v hv => ?_) (fun j hj => by cases hj)
    · have := (h.ul j hu).2.1; omega
    · rcases hsp b o v hv with h1 | ⟨_, h1⟩
      · rcases hnew b o v h1 with h2 | h2 | h2
        · exact .inl (h.NM b o v h2)
        · exact .inr (.inl (h.ul b h2).2.1)
        · exact .inr (.inl (Nat.le_trans h.ext.size h2))
      · exact .inl h1
  · rintro b (hu | ⟨h1, h2⟩)
    · obtain ⟨q1, q2, q3, q4, q5⟩ := h.ul b hu
      exact ⟨Nat.lt_of_lt_of_le q1 hz, q2, q3, q4, q5⟩
    · refine ⟨h2, Nat.le_trans h.ext.size h1, fun hx => ?_, fun e => ?_, fun hj => ?_⟩
      · have := X_lt h.wf hx; omega
      · have := h.ll; omega
      · have := hDl b hj; omega
  · intro b o v hv
    unfold memU GS.re
    simp [hv]
  · intro b o v hv hu
    rcases hsp b o v hv with h1 | ⟨hn, h1⟩
    · exact h1
    · rcases hu with hu | ⟨h2, _⟩
      · rw [hN b o v (h.MU b o v h1 hu)] at hn; cases hn
      · have := cell_lt (h.wf.mem b o v h1).1; omega
  · exact fun j hj => ⟨(h.xD j hj).1, by rw [hsame j (hDl j hj) fun hu => (h.ul j hu).2.2.2.2 hj]; exact (h.xD j hj).2⟩

theorem re_φ {D : List Nat} : (g.re M D).φ = g.φ := rfl
theorem up_at (s : Nat) : g.up.φ (s + 1000000) = g.φ s := by simp [GS.up]
theorem down_at (s : Nat) : g.down.φ s = g.φ (s + 1000000) := rfl

/-- The record of a loop turns: nothing that is known hangs on it. -/
theorem Wf.rcd (hw : Wf g W bx kx) (hx : ¬ g.X l) {r : Loop} (hr : W.heap[l]? = some (.loop r)) (o : Obj) : Wf g (W.putObj l o) bx kx ∧ ∀ {x : TV} {v : Value}, RT g W x v → RT g (W.putObj l o) x v := by
  have hs : ∀ j, j < W.heap.size → g.X j → (W.putObj l o).heap[j]? = W.heap[j]? := fun j _ hxj => World.putObj_heap_other fun e => hx (e ▸ hxj)
  have hD : ∀ j ∈ g.D, j ≠ l := fun j hj e => by have := hw.dfr j hj; rw [e, hr] at this; cases this
  have hc : ∀ b o', (W.putObj l o).cell? ⟨b, o', none⟩ = W.cell? ⟨b, o', none⟩ ∨ W.cell? ⟨b, o', none⟩ = none := fun b o' => by
    by_cases e : b = l
    · right; subst e; simp [World.cell?, hr]
    · left; exact World.cell?_of_block (World.putObj_heap_other e)
  have hm : MemOk g.M (W.putObj l o) := fun b o' v hv => by
    obtain ⟨h1, h2⟩ := hw.mem b o' v hv
    rcases hc b o' with h3 | h3
    · exact ⟨h3.trans h1, h2⟩
    · rw [h1] at h3; cases h3
  refine ⟨?_, fun {x v} hv => ?_⟩
  · exact hw.fgn (M' := g.M) (D' := g.D) hs (by simp [World.putObj]) (MLe.refl _) (fun _ _ _ h => .inl h) hm (fun j hj => by rw [World.putObj_heap_other (hD j hj)]; exact hw.dfr j hj) hw.dnd hw.dX
  · exact hv.fgn (M' := g.M) (D' := g.D) hs hw.ltκ (MLe.refl _) (fun _ _ _ h => .inl h)

/-- What a round's end owes. -/
def roundQ (n : Nat) (t0 : List (Nat × TV)) (Nx : List (Nat × List TV) → List Nat → Prop) (Q : Exit → AS → Prop) : Exit → AS → Prop
  | .normal, s => Nx s.b s.k
  | .ret, s => Q .ret (AS.mk n t0 s.b s.k).down
  | .exit id, s => Q (.exit id) (AS.mk n t0 s.b s.k).down
  | .goto t, s => Q (.goto t) (AS.mk n t0 s.b s.k).down
  | _, _ => False

def LeBK (bx : List (Nat × List TV)) (kx : List Nat) (b : List (Nat × List TV)) (k : List Nat) : Prop := LeT bx b ∧ LeK kx k

/-- Entering the statement. -/
theorem enter_range (hE : LoopOk ro E) (h3 : Ext E.g E.w g w) (fn : FuncId) (tm : Array Value) (ps : Array Tmp) (assign body : Code) :
    ∃ (l : Nat) (Dm : List Nat) (w1 : World) (dd : Nat), (Instr.enterLoop fn tm ps assign body ro).run P w = .ok (l, Dm.map mkD) w1 ∧ w.heap.size ≤ l ∧ l < w1.heap.size ∧ (∀ j, j < w.heap.size → w1.heap[j]? = w.heap[j]?) ∧ w.heap.size ≤ w1.heap.size ∧
      w1.os = w.os ∧ w1.tape = w.tape ∧ w1.output = w.output ∧ w1.heap[l]? = some (.loop { state := .ready, pending := none, fn, tmps := tm, params := ps, assign, body, defers := dd }) ∧
      (∀ j ∈ Dm, w.heap.size ≤ j ∧ j ≠ l ∧ w1.heap[j]? = some (.deferred (some []))) ∧ Dm.Nodup := by
  cases ro with
  | none =>
    refine ⟨w.heap.size + 1, [w.heap.size], _, w.heap.size, run_enterLoop_outer _ _ _ _ _, by omega, by simp, fun j hj => ?_, by simp; omega, rfl, rfl, rfl, ?_, fun j hj => ?_, by simp⟩
    · rw [Below.heap_alloc _ _ _ (by simp; omega), Below.heap_alloc _ _ _ hj]
    · have := World.alloc_heap_new (w.alloc (.deferred (some []))) (.loop { state := .ready, pending := none, fn, tmps := tm, params := ps, assign, body, defers := w.heap.size }); rwa [World.size_alloc] at this
    · obtain rfl := List.mem_singleton.1 hj
      exact ⟨Nat.le_refl _, by omega, (Below.heap_alloc _ _ _ (by simp)).trans (World.alloc_heap_new w _)⟩
  | some l0 =>
    obtain ⟨⟨r, hr⟩, hx⟩ := hE l0 rfl
    have hl0 : w.heap[l0]? = some (.loop r) := by rw [h3.heap l0 (Array.getElem?_eq_some_iff.1 hr).1 hx]; exact hr
    refine ⟨w.heap.size, [], _, r.defers, run_enterLoop_inner hl0 _ _ _ _ _, Nat.le_refl _, by simp, fun j hj => Below.heap_alloc _ _ _ hj, by simp, rfl, rfl, rfl, World.alloc_heap_new w _, fun j hj => (by cases hj), List.nodup_nil⟩

theorem tri_range {α : Type} {f : FuncId} {caps : List AV} {xs : List (List AV)} {gop : Operand} {ps : Array Tmp} {assign body : Code} {Q : Exit → AS → Prop}
    (hit : fnOf (ev σ gop) = some (f, caps)) (hic : IC P f caps xs) (hps : ∀ x ∈ xs, x.length = ps.size) (hpn : ∀ p ∈ ps.toList, p < σ.n)
    (t0 : List (Nat × TV)) (hp : persT t0 = true) (st : α → List (Nat × List TV) × List Nat) (inv : Nat → α → Prop) (q0 : α) (hi0 : inv 0 q0)
    (hle : Le ⟨σ.n, t0, (st q0).1, (st q0).2⟩ σ.up)
    (round : ∀ l k (hk : k < xs.length) q, inv k q → Tri P (some l) 0 assign ⟨σ.n, setPs ps.toList xs[k] t0, (st q).1, (st q).2⟩ fun e s => e = .normal ∧
      Tri P (some l) 0 body s (roundQ σ.n t0 (fun b kk => ∃ q', inv (k + 1) q' ∧ LeT (st q').1 b ∧ LeK (st q').2 kk) Q))
    (done : ∀ q, inv xs.length q → Q .normal (AS.mk σ.n t0 (st q).1 (st q).2).down) : Tri P ro 0 (.rangeFunc gop ps assign body) σ Q := by
  intro E hE a w hr
  obtain ⟨g0, h1, h2, h3⟩ := hr
  obtain ⟨lb, hfv, hcn, hcR⟩ := fnOf_ok (ev_rt h2 gop) hit
  refine wpIn_rangeFunc ?_
  intro fn hfn
  obtain ⟨l, Dm, w1, dd, hen, hl1, hl2, hold, hz1, ho1, ht1, hp1, hl0, hD1, hDn⟩ := enter_range (P := P) hE h3 fn a.tmps ps assign body
  obtain ⟨rec, hrec⟩ : ∃ rec : LoopState → Option Code → Loop, rec = fun s pe => { state := s, pending := pe, fn, tmps := a.tmps, params := ps, assign, body, defers := dd } := ⟨_, rfl⟩
  refine ⟨l, Dm.map mkD, w1, { target := .fn (.func f) lb, args := #[.func (.yield l) #[] #[]] }, w1, f, #[.func (.yield l) #[] #[]] ++ lb, w1, hen, ?_, fun f' _ => trivial, ?_, fun hd => by simp [Fw, Fence.wide] at hd, ?_⟩
  · simp only [resolve, hfv]
    simp [go_sem]
  · simp [invoke, go_sem, hic.1]
  -- what holds between rounds
  obtain ⟨gs, hgs⟩ : ∃ gs : GS, gs = (g0.up).re g0.M [] := ⟨_, rfl⟩
  have hupw : Wf g0.up w (upB σ.b) σ.k := h1.up
  have hws : Wf gs w (upB σ.b) σ.k := by
    rw [hgs]
    exact hupw.fgn (M' := g0.M) (D' := []) (fun _ _ _ => rfl) (Nat.le_refl _) (MLe.refl _) (fun _ _ _ h => .inl h) h1.mem (fun j hj => by cases hj) List.nodup_nil (fun j hj => by cases hj)
  have hXs : ∀ b, gs.X b → g0.X b := fun b hb => up_X (by rw [hgs] at hb; exact hb)
  have hXlt : ∀ b, gs.X b → b < w.heap.size := fun b hb => X_lt h1 (hXs b hb)
  let JR : Option Nat → (Nat → Prop) → Mem → World → Prop := fun y U N W =>
    match y with
    | some k => ∃ q g, inv k q ∧ Core w gs l Dm t0 a.tmps U N W g (st q).1 (st q).2 ∧ W.heap[l]? = some (.loop (rec .ready none))
    | none => ∃ c e bx kx g, ((c = .ret ∧ e = .ret) ∨ (∃ id, c = .exit id ∧ e = .exit id) ∨ ∃ t, c = .goto t ∧ e = .goto t) ∧ Q e (AS.mk σ.n t0 bx kx).down ∧ Core w gs l Dm t0 a.tmps U N W g bx kx ∧ W.heap[l]? = some (.loop (rec .done (some c)))
  have hstab : Stab JR := by
    refine ⟨fun y U N W W' N' hj hs hz ho ht hp' hN hok hnew => ?_, fun y U N W b hj hu => ?_, fun y U N W hj => ?_, fun y U N W hj => ?_⟩
    · cases y with
      | some k =>
        obtain ⟨q, g, hq, hc, hl⟩ := hj
        obtain ⟨g', hc'⟩ := hc.st hs hz ho ht hp' hN hok hnew
        exact ⟨q, g', hq, hc', by rw [hs l hc.ll fun hu => (hc.ul l hu).2.2.2.1 rfl]; exact hl⟩
      | none =>
        obtain ⟨c, e, bx, kx, g, hce, hq, hc, hl⟩ := hj
        obtain ⟨g', hc'⟩ := hc.st hs hz ho ht hp' hN hok hnew
        exact ⟨c, e, bx, kx, g', hce, hq, hc', by rw [hs l hc.ll fun hu => (hc.ul l hu).2.2.2.1 rfl]; exact hl⟩
    · cases y with
      | some k => obtain ⟨q, g, hq, hc, hl⟩ := hj; exact (hc.ul b hu).1
      | none => obtain ⟨c, e, bx, kx, g, hce, hq, hc, hl⟩ := hj; exact (hc.ul b hu).1
    · cases y with
      | some k => obtain ⟨q, g, hq, hc, hl⟩ := hj; exact hc.nok
      | none => obtain ⟨c, e, bx, kx, g, hce, hq, hc, hl⟩ := hj; exact hc.nok
    · cases y with
      | some k => obtain ⟨q, g, hq, hc, hl⟩ := hj; exact hc.tN
      | none => obtain ⟨c, e, bx, kx, g, hce, hq, hc, hl⟩ := hj; exact hc.tN
  -- a world that differs at others' blocks alone
  have lift : ∀ {g : GS} {W W' : World} {bx : List (Nat × List TV)} {kx : List Nat} {M : Mem}, True := trivial
  have hxl : ∀ {g : GS}, (∀ b, g.X b → w.heap.size ≤ b → w1.heap.size ≤ b) → ¬ g.X l := fun h hx => by have := h l hx hl1; omega
  have h0 : JR (some 0) (fun _ => False) g0.M w1 := by
    have hs1 : ∀ j, j < w.heap.size → gs.X j → w1.heap[j]? = w.heap[j]? := fun j hj _ => hold j hj
    have hm1 : MemOk g0.M w1 := fun b o v hv => by
      obtain ⟨q1, q2⟩ := h1.mem b o v hv
      exact ⟨by rw [World.cell?_of_block (hold b (cell_lt q1))]; exact q1, q2⟩
    have hgsM : gs.M = g0.M := by rw [hgs]; rfl
    have hgsD : gs.D = [] := by rw [hgs]; rfl
    have hw1 : Wf (gs.re g0.M []) w1 (upB σ.b) σ.k := hws.fgn hs1 hz1 (by rw [hgsM]; exact MLe.refl _) (fun b o v hv => .inl (by rw [hgsM]; exact hv)) hm1 (fun j hj => by cases hj) List.nodup_nil (fun j hj => by cases hj)
    have hre : gs.re g0.M [] = gs := by rw [hgs]; rfl
    rw [hre] at hw1
    have hw2 : Wf gs w1 (st q0).1 (st q0).2 := { hw1 with
      box := fun s cs ht => hw1.box s cs (hle.b _ (get_mem ht))
      live := fun s hs => hw1.live s (memK_mem (hle.k s hs)) }
    refine ⟨q0, gs, hi0, ⟨hw2, hgsD, ?_, fun t x hx => ?_, ?_, fun b hb => hb.elim, by rw [hgsM]; exact MLe.refl _, fun b o v hv hu => hu.elim, hm1, fun hx => ?_, fun j hj => ⟨fun hx => ?_, (hD1 j hj).2.2⟩, hl2, E.tab.mono h3.M⟩, by rw [hrec]; exact hl0⟩
    · rw [hgs]; exact h2.2.2.2
    · have hx' := hle.t _ (get_mem hx)
      simp only [AS.up, get_upT] at hx'
      cases hy : get t σ.t with
      | none => simp [hy] at hx'
      | some y =>
        simp only [hy, Option.map_some, Option.some.injEq] at hx'
        subst hx'
        have hR := ((h2.2.2.1 t y hy).2).up
        have hpx : y.up.pers = true := persT_get hp hx
        rw [hgs]
        exact RT.pers hR hpx (MLe.refl _) (fun s b _ h => h)
    · exact { M := MLe.refl _, Mn := fun _ _ _ h => .inl h, φ := fun _ _ _ h => h, φn := fun s b h => .inr (.inl ⟨s, h⟩), κn := fun s b h => .inr (.inr ⟨s, h⟩), heap := fun j hj _ => hold j hj, size := hz1, os := ho1, tape := ht1, output := hp1, dn := fun j hj => .inr hj }
    · have := hXlt l hx; omega
    · have := hXlt j hx; have := (hD1 j hj).1; omega
  have hlb : ArgsR g0.M caps lb := ⟨hcn, hcR⟩
  have hm1 : MemOk g0.M w1 := hstab.ok (some 0) (fun _ => False) g0.M w1 h0
  refine (hic.2 g0.M w1 lb hm1 hlb l JR hstab ?_ h0).mono ?_
  · -- one round
    intro k U N W args hk hj hargs
    obtain ⟨q, g, hq, hc, hl⟩ := hj
    have hxk : xs[k].length = ps.size := hps _ (List.getElem_mem hk)
    have hy := run_yield (P := P) (args := args) hl (by rw [hrec]; show args.size = ps.size; rw [← hargs.1, hxk])
    rw [hrec] at hy
    have hsz0 : a.tmps.size = σ.n := h2.2.1
    obtain ⟨hsz, htm⟩ := setPs_ok (g := g) (w := W) (n := σ.n) (ps := ps.toList) (as := xs[k]) (vs := args.toList) (T := t0) (tm := a.tmps) hpn (by simpa using hargs.1) (fun j x v hx hv => (hargs.2 j x v hx (by simpa using hv)).mono hc.NM) hsz0
      (fun t x hx => ⟨by have hx' := hle.t _ (get_mem hx); simp only [AS.up, get_upT] at hx'; cases hy : get t σ.t with
        | none => simp [hy] at hx'
        | some y => exact (h2.2.2.1 t y hy).1, hc.tp t x hx⟩)
    have hfold : (ps.zip args).foldl (fun tmps (t, v) => tmps.setIfInBounds t v) a.tmps = (ps.toList.zip args.toList).foldl (fun t p => t.setIfInBounds p.1 p.2) a.tmps := by
      rw [← Array.foldl_toList, Array.toList_zip]
    have hrel : Rel ⟨g, W, hc.tN.mono hc.NM⟩ ⟨σ.n, setPs ps.toList xs[k] t0, (st q).1, (st q).2⟩ { tmps := (ps.zip args).foldl (fun tmps (t, v) => tmps.setIfInBounds t v) a.tmps, defers := [] } W := by
      refine ⟨g, hc.wf, ⟨by rw [hc.D]; rfl, ?_, fun t x hx => ?_, hc.κ9⟩, Ext.refl _ _⟩
      · show Array.size _ = _; rw [hfold]; exact hsz
      · show _ ∧ RT g W x (Array.getD _ t undef)
        rw [hfold]; exact htm t x hx
    refine ⟨fn, _, assign, body, hy, roundIn_of_wpIn trivial ?_⟩
    refine wpIn_mono (round l k hk q hq ⟨g, W, hc.tN.mono hc.NM⟩ (fun l' hl' => by cases hl'; exact ⟨⟨_, hl⟩, hc.xl⟩) _ W hrel) ?_
    rintro e a1 W1 ⟨s1, ⟨rfl, hbody⟩, g1, r1, r2, r3⟩
    have hl1' : W1.heap[l]? = some (.loop (rec .ready none)) := by rw [r3.heap l hc.ll hc.xl]; exact hl
    have hxl1 : ¬ g1.X l := fun hx => by
      rcases r3.X hx with h | h
      · have := hc.ll; exact absurd h (Nat.not_le.2 this)
      · exact hc.xl h
    refine ⟨_, run_beginRound hl1' (by rw [hrec]), ?_⟩
    obtain ⟨hbw, hbr⟩ := r1.rcd hxl1 hl1' (.loop { rec .ready none with state := .busy })
    have hlb2 : (W1.putObj l (.loop { rec .ready none with state := .busy })).heap[l]? = some (.loop { rec .ready none with state := .busy }) := World.putObj_heap_same (Array.getElem?_eq_some_iff.1 hl1').1
    have hrel2 : Rel ⟨g1, W1.putObj l (.loop { rec .ready none with state := .busy }), (hc.tN.mono hc.NM).mono r3.M⟩ s1 a1 (W1.putObj l (.loop { rec .ready none with state := .busy })) :=
      ⟨g1, hbw, ⟨r2.1, r2.2.1, fun t x hx => ⟨(r2.2.2.1 t x hx).1, hbr (r2.2.2.1 t x hx).2⟩, r2.2.2.2⟩, Ext.refl _ _⟩
    refine wpIn_mono (hbody ⟨g1, _, (hc.tN.mono hc.NM).mono r3.M⟩ (fun l' hl' => by cases hl'; exact ⟨⟨_, hlb2⟩, hxl1⟩) _ _ hrel2) ?_
    rintro e a3 W3 ⟨s3, hq3, g3, v1, v2, v3⟩
    have hsz1 : W.heap.size ≤ W1.heap.size := r3.size
    have hszb : (W1.putObj l (.loop { rec .ready none with state := .busy })).heap.size = W1.heap.size := by simp [World.putObj]
    have hll1 : l < W1.heap.size := Nat.lt_of_lt_of_le hc.ll hsz1
    have hl3 : W3.heap[l]? = some (.loop { rec .ready none with state := .busy }) := by rw [v3.heap l (Nat.lt_of_lt_of_eq hll1 hszb.symm) hxl1]; exact hlb2
    have hsz3 : W1.heap.size ≤ W3.heap.size := by have := v3.size; rw [← hszb]; exact this
    -- blocks that are not the run's stay
    have hX1 : ∀ b, b < W.heap.size → g1.X b → g.X b := fun b hb hx => by
      rcases r3.X hx with h | h
      · exact absurd h (Nat.not_le.2 hb)
      · exact h
    have hX3 : ∀ b, b < W.heap.size → g3.X b → g.X b := fun b hb hx => by
      rcases v3.X hx with h | h
      · have h' : W1.heap.size ≤ b := by rw [← hszb]; exact h
        omega
      · exact hX1 b hb h
    have hstay : ∀ b, b < W.heap.size → ¬ g.X b → b ≠ l → W3.heap[b]? = W.heap[b]? := fun b hb hx hbl => by
      rw [v3.heap b (Nat.lt_of_lt_of_eq (Nat.lt_of_lt_of_le hb hsz1) hszb.symm) (fun h => hx (hX1 b hb h))]
      rw [World.putObj_heap_other hbl]
      exact r3.heap b hb hx
    have core : ∀ (jump : Option Code), Core w gs l Dm t0 a.tmps U N (W3.putObj l (.loop (rec (if jump.isNone then .ready else .done) jump))) (g3.re g3.M []) s3.b s3.k := fun jump => by
      have hxl3 : ¬ g3.X l := fun hx => hc.xl (hX3 l hc.ll hx)
      obtain ⟨c1, c2⟩ := v1.rcd hxl3 hl3 (.loop (rec (if jump.isNone then .ready else .done) jump))
      have c3 : Wf (g3.re g3.M []) (W3.putObj l (.loop (rec (if jump.isNone then .ready else .done) jump))) s3.b s3.k :=
        c1.fgn (M' := g3.M) (D' := []) (fun _ _ _ => rfl) (Nat.le_refl _) (MLe.refl _) (fun _ _ _ h => .inl h) c1.mem (fun j hj => by cases hj) List.nodup_nil (fun j hj => by cases hj)
      have hgM : MLe g.M g3.M := r3.M.trans v3.M
      have hgφ : ∀ s b, s ≥ 1000000 → g.φ s = some b → g3.φ s = some b := fun s b hs h => v3.φ s b hs (r3.φ s b hs h)
      have hne : ∀ b, b ≠ l → (W3.putObj l (.loop (rec (if jump.isNone then .ready else .done) jump))).heap[b]? = W3.heap[b]? := fun b hb => World.putObj_heap_other hb
      refine ⟨c3, rfl, v2.2.2.2, fun t x hx => ?_, ?_, fun b hb => ?_, hc.NM.trans hgM, fun b o v hv hu => ?_, fun b o v hv => ?_, hxl3, fun j hj => ⟨fun hx => (hc.xD j hj).1 (hX3 j (Array.getElem?_eq_some_iff.1 (hc.xD j hj).2).1 hx), ?_⟩, ?_, hc.tN⟩
      · exact (hc.tp t x hx).pers (persT_get hp hx) hgM hgφ
      · have e1 : Ext gs w g1 W1 := hc.ext.trans r3
        refine
          { M := hc.ext.M.trans hgM
            Mn := fun b o v hv => ?_
            φ := fun s b hs h => hgφ s b hs (hc.ext.φ s b hs h)
            φn := fun s b h => ?_
            κn := fun s b h => ?_
            heap := fun j hj hx => ?_
            size := ?_
            os := v3.os.trans (r3.os.trans hc.ext.os)
            tape := v3.tape.trans (r3.tape.trans hc.ext.tape)
            output := v3.output.trans (r3.output.trans hc.ext.output)
            dn := fun j hj => by cases hj }
        · rcases v3.Mn b o v hv with h | h | h
          · exact e1.Mn b o v h
          · exact .inr (.inl (Nat.le_trans e1.size (by rw [← hszb]; exact h)))
          · exact .inr (e1.X h)
        · rcases v3.X (.inl ⟨s, h⟩) with h | h
          · exact .inl (Nat.le_trans e1.size (by rw [← hszb]; exact h))
          · exact e1.X h
        · rcases v3.X (.inr ⟨s, h⟩) with h | h
          · exact .inl (Nat.le_trans e1.size (by rw [← hszb]; exact h))
          · exact e1.X h
        · have hjW : j < W.heap.size := Nat.lt_of_lt_of_le hj hc.ext.size
          rw [hne j (by omega), hstay j hjW (fun h => by
            rcases hc.ext.X h with h' | h'
            · omega
            · exact hx h') (by omega)]
          exact hc.ext.heap j hj hx
        · have := hc.ext.size; simp [World.putObj]; omega
      · obtain ⟨q1, q2, q3, q4, q5⟩ := hc.ul b hb
        exact ⟨by simp [World.putObj]; omega, q2, fun hx => q3 (hX3 b q1 hx), q4, q5⟩
      · obtain ⟨q1, q2, q3, q4, q5⟩ := hc.ul b hu
        rcases v3.Mn b o v hv with h | h | h
        · rcases r3.Mn b o v h with h' | h' | h'
          · exact hc.MU b o v h' hu
          · exact absurd h' (Nat.not_le.2 q1)
          · exact absurd h' q3
        · have h' : W1.heap.size ≤ b := by rw [← hszb]; exact h
          omega
        · exact absurd (hX1 b q1 h) q3
      · exact c3.mem b o v (hgM b o v (hc.NM b o v hv))
      · rw [hne j fun e => ?_, hstay j (Array.getElem?_eq_some_iff.1 (hc.xD j hj).2).1 (hc.xD j hj).1 fun e => ?_]
        · exact (hc.xD j hj).2
        · have := (hc.xD j hj).2; rw [e, hl] at this; cases this
        · have := (hc.xD j hj).2; rw [e, hl] at this; cases this
      · simp [World.putObj]; omega
    have hUl : ∀ b, U b → ∀ jump : Option Code, (W3.putObj l (.loop (rec (if jump.isNone then .ready else .done) jump))).heap[b]? = W.heap[b]? := fun b hb jump => by
      obtain ⟨q1, q2, q3, q4, q5⟩ := hc.ul b hb
      rw [World.putObj_heap_other q4]; exact hstay b q1 q3 q4
    have hend : ∀ jump : Option Code, (Instr.endRound l jump).run P W3 = .ok (.bool jump.isNone) (W3.putObj l (.loop (rec (if jump.isNone then .ready else .done) jump))) ∧
        (W3.putObj l (.loop (rec (if jump.isNone then .ready else .done) jump))).heap[l]? = some (.loop (rec (if jump.isNone then .ready else .done) jump)) := fun jump => by
      have := run_endRound (P := P) jump hl3
      rw [hrec] at this ⊢
      exact ⟨this, World.putObj_heap_same (Array.getElem?_eq_some_iff.1 hl3).1⟩
    have hos : W3.os = W.os := v3.os.trans r3.os
    have htp : W3.tape = W.tape := v3.tape.trans r3.tape
    have hou : W3.output = W.output := v3.output.trans r3.output
    have hszW : ∀ jump : Option Code, W.heap.size ≤ (W3.putObj l (.loop (rec (if jump.isNone then .ready else .done) jump))).heap.size := fun jump => by simp [World.putObj]; omega
    cases e with
    | normal =>
      obtain ⟨q', hq', hb', hk'⟩ := hq3
      obtain ⟨e1, e2⟩ := hend none
      have hcc := core none
      refine ⟨_, _, e1, fun b hb => hUl b hb none, hszW none, hos, htp, hou, ?_⟩
      refine .inl ⟨rfl, ?_⟩
      refine ⟨q', g3.re g3.M [], hq', ?_, e2⟩
      exact { hcc with wf := { hcc.wf with box := fun s cs ht => hcc.wf.box s cs (leT_at hb' _ (get_mem ht)), live := fun s hs => hcc.wf.live s (memK_mem (leK_at hk' s hs)) } }
    | ret =>
      obtain ⟨e1, e2⟩ := hend (some .ret)
      refine ⟨_, _, e1, fun b hb => hUl b hb (some .ret), hszW (some .ret), hos, htp, hou, ?_⟩
      refine .inr ⟨rfl, ?_⟩
      exact ⟨.ret, .ret, s3.b, s3.k, g3.re g3.M [], .inl ⟨rfl, rfl⟩, hq3, core (some .ret), e2⟩
    | exit id =>
      obtain ⟨e1, e2⟩ := hend (some (.exit id))
      refine ⟨_, _, e1, fun b hb => hUl b hb (some (.exit id)), hszW (some (.exit id)), hos, htp, hou, ?_⟩
      refine .inr ⟨rfl, ?_⟩
      exact ⟨(.exit id), (.exit id), s3.b, s3.k, g3.re g3.M [], .inr (.inl ⟨id, rfl, rfl⟩), hq3, core (some (.exit id)), e2⟩
    | goto t =>
      obtain ⟨e1, e2⟩ := hend (some (.goto t))
      refine ⟨_, _, e1, fun b hb => hUl b hb (some (.goto t)), hszW (some (.goto t)), hos, htp, hou, ?_⟩
      refine .inr ⟨rfl, ?_⟩
      exact ⟨(.goto t), (.goto t), s3.b, s3.k, g3.re g3.M [], .inr (.inr ⟨t, rfl, rfl⟩), hq3, core (some (.goto t)), e2⟩
    | panic ch => exact hq3.elim
    | outgrown => exact hq3.elim
  · -- behind the iterator
    rintro e W2 ⟨⟨v, rfl⟩, U, N, hj⟩
    have fin : ∀ {g : GS} {bx : List (Nat × List TV)} {kx : List Nat} {r : Loop}, Core w gs l Dm t0 a.tmps U N W2 g bx kx → W2.heap[l]? = some (.loop r) → ∀ o : Obj, Rel E (AS.mk σ.n t0 bx kx).down { a with defers := Dm.map mkD ++ a.defers } (W2.putObj l o) := fun {g bx kx r} hc hl o => by
      obtain ⟨c1, c2⟩ := hc.wf.rcd hc.xl hl o
      have hgX : ∀ b, g.X b → w.heap.size ≤ b ∨ g0.X b := fun b hb => (hc.ext.X hb).imp id (hXs b)
      have hDg : ∀ j ∈ g0.D, ¬ g.X j ∧ j < w.heap.size := fun j hj => by
        have hlt := (Array.getElem?_eq_some_iff.1 (h1.dfr j hj)).1
        refine ⟨fun hx => ?_, hlt⟩
        rcases hgX j hx with h | h
        · omega
        · exact h1.dX j hj h
      have hdfr : ∀ j ∈ Dm ++ g0.D, (W2.putObj l o).heap[j]? = some (.deferred (some [])) := fun j hj => by
        rcases List.mem_append.1 hj with h | h
        · rw [World.putObj_heap_other fun e => ?_]
          · exact (hc.xD j h).2
          · have := (hc.xD j h).2; rw [e, hl] at this; cases this
        · obtain ⟨_, hlt⟩ := hDg j h
          rw [World.putObj_heap_other (by omega), hc.ext.heap j hlt fun hx => h1.dX j h (hXs j hx)]
          exact h1.dfr j h
      have d1 : Wf (g.re g.M (Dm ++ g0.D)) (W2.putObj l o) bx kx := c1.fgn (M' := g.M) (fun _ _ _ => rfl) (Nat.le_refl _) (MLe.refl _) (fun _ _ _ h => .inl h) c1.mem hdfr
        (by
          refine List.nodup_append.2 ⟨hDn, h1.dnd, fun x hx y hy e => ?_⟩
          have h4 := (hD1 x hx).1
          have h5 := (hDg y hy).2
          omega)
        (fun j hj => by
          rcases List.mem_append.1 hj with h | h
          · exact (hc.xD j h).1
          · exact (hDg j h).1)
      refine ⟨(g.re g.M (Dm ++ g0.D)).down, d1.down, ⟨?_, h2.2.1, fun t x hx => ?_, hc.κ9⟩, ?_⟩
      · show Dm.map mkD ++ a.defers = (Dm ++ g0.D).map mkD
        rw [h2.1, List.map_append]
      · have hx0 : get t (downT t0) = some x := hx
        rw [get_downT] at hx0
        cases hy : get t t0 with
        | none => simp [hy] at hx0
        | some y =>
          simp only [hy, Option.map_some, Option.some.injEq] at hx0
          subst hx0
          refine ⟨?_, ?_⟩
          · have hx' := hle.t _ (get_mem hy)
            simp only [AS.up, get_upT] at hx'
            cases hz : get t σ.t with
            | none => simp [hz] at hx'
            | some z => exact (h2.2.2.1 t z hz).1
          · have := c2 (hc.tp t y hy)
            exact (RT.pers (g' := g.re g.M (Dm ++ g0.D)) (w' := W2.putObj l o) this (persT_get hp hy) (MLe.refl _) (fun s b _ h => h)).down
      · have hMs : gs.M = g0.M := by rw [hgs]; rfl
        exact
          { M := h3.M.trans (by have := hc.ext.M; rw [hMs] at this; exact this)
            Mn := fun b o v hv => by
              rcases hc.ext.Mn b o v hv with h | h | h
              · rw [hMs] at h; exact h3.Mn b o v h
              · exact .inr (.inl (Nat.le_trans h3.size h))
              · exact .inr (h3.X (hXs b h))
            φ := fun s b hs h => by
              rw [down_at, re_φ]
              refine hc.ext.φ _ b (Nat.le_add_left _ _) ?_
              rw [hgs, re_φ, up_at]
              exact h3.φ s b hs h
            φn := fun s b h => by
              rcases hgX b (.inl ⟨_, h⟩) with h' | h'
              · exact .inl (Nat.le_trans h3.size h')
              · exact h3.X h'
            κn := fun s b h => by
              rcases hgX b (.inr ⟨_, h⟩) with h' | h'
              · exact .inl (Nat.le_trans h3.size h')
              · exact h3.X h'
            heap := fun j hj hx => by
              have hsz := h3.size
              rw [World.putObj_heap_other (by omega), hc.ext.heap j (by omega) fun h => by
                rcases h3.X (hXs j h) with h' | h'
                · omega
                · exact hx h']
              exact h3.heap j hj hx
            size := by have := h3.size; have := hc.ext.size; simp [World.putObj]; omega
            os := hc.ext.os.trans h3.os
            tape := hc.ext.tape.trans h3.tape
            output := hc.ext.output.trans h3.output
            dn := fun j hj => by
              rcases List.mem_append.1 hj with h | h
              · exact .inl (Nat.le_trans h3.size (hD1 j h).1)
              · exact h3.dn j h }
    rcases hj with ⟨q, g, hq, hc, hl⟩ | ⟨c, e, bx, kx, g, hce, hq, hc, hl⟩
    · refine ⟨none, _, by have := run_endLoop (P := P) hl (by rw [hrec]; simp); rw [hrec] at this; exact this, ?_⟩
      exact ⟨_, done q hq, fin hc hl _⟩
    · refine ⟨some c, _, by have := run_endLoop (P := P) hl (by rw [hrec]; simp); rw [hrec] at this; exact this, ?_⟩
      have hf := fin hc hl
      rcases hce with ⟨rfl, rfl⟩ | ⟨id, rfl, rfl⟩ | ⟨t, rfl, rfl⟩
      · exact wpIn_ret ⟨_, hq, hf _⟩
      · exact wpIn_exit ⟨_, hq, hf _⟩
      · exact wpIn_goto ⟨_, hq, hf _⟩
end
end Go.Proofs.Ytenigafbbdjagaa.AL

/- Iterators: how their code is stepped through. -/
namespace Go.Proofs.Ytenigafbbdjagaa.AL
open Go Go.RowKit
set_option linter.unusedVariables false
set_option linter.unusedSimpArgs false

abbrev Hold := Option Nat → (Nat → Prop) → Mem → World → Prop

def RelY (J : Hold) (φ0 : Nat → Option Nat) (y : Option Nat) (σ : AS) (a : Act) (w : World) : Prop :=
  ∃ g U, Wf g w σ.b σ.k ∧ Tmps g w σ a ∧ (∀ b, g.X b → U b) ∧ (∀ b ∈ g.D, U b) ∧ (∀ s b, s ≥ 1000000 → φ0 s = some b → g.φ s = some b) ∧ J y U g.M w

structure TriY (P : Program) (J : Hold) (φ0 : Nat → Option Nat) (c : Code) (y : Option Nat) (σ : AS) (Q : Exit → Option Nat → AS → Prop) : Prop where
  h : ∀ a w, RelY J φ0 y σ a w → c.wpIn (Fw none) 0 P (fun e a' w' => ∃ y' σ', Q e y' σ' ∧ RelY J φ0 y' σ' a' w') a w

def YldOk (P : Program) (J : Hold) (l : Nat) (xs : List (List AV)) : Prop :=
  ∀ k U N W args, (h : k < xs.length) → J (some k) U N W → ArgsR N xs[k] args →
    YieldAt Fence.wide 0 P l args W fun e W' => (∀ b, U b → W'.heap[b]? = W.heap[b]?) ∧ W.heap.size ≤ W'.heap.size ∧ W'.os = W.os ∧ W'.tape = W.tape ∧ W'.output = W.output ∧
      ((e = .returned (.bool true) ∧ J (some (k + 1)) U N W') ∨ (e = .returned (.bool false) ∧ J none U N W'))

section
variable {P : Program} {J : Hold} {φ0 : Nat → Option Nat} {y y' : Option Nat} {σ σ' : AS} {a : Act} {w w' : World} {g g' : GS} {Q : Exit → Option Nat → AS → Prop} {c : Code} {U : Nat → Prop}

/-- A step of the run's own. -/
theorem RelY.step (hJ : Stab J) (hX : ∀ b, g.X b → U b) (hD : ∀ b ∈ g.D, U b) (hφ : ∀ s b, s ≥ 1000000 → φ0 s = some b → g.φ s = some b) (hj : J y U g.M w) (hr : Rel ⟨g, w, hJ.tab _ _ _ _ hj⟩ σ' a w') : RelY J φ0 y σ' a w' := by
  obtain ⟨g', h1, h2, h3⟩ := hr
  have hs : w.heap.size ≤ w'.heap.size := h3.size
  have hm : MLe g.M g'.M := h3.M
  refine ⟨g', fun b => U b ∨ (w.heap.size ≤ b ∧ b < w'.heap.size), h1, h2, fun b hb => ?_, fun b hb => ?_, fun s b hs' hb => h3.φ s b hs' (hφ s b hs' hb), ?_⟩
  · rcases h3.X hb with h | h
    · exact .inr ⟨h, X_lt h1 hb⟩
    · exact .inl (hX b h)
  · rcases h3.dn b hb with h | h
    · exact .inr ⟨h, (Array.getElem?_eq_some_iff.1 (h1.dfr b hb)).1⟩
    · exact .inl (hD b h)
  · refine hJ.st _ _ _ _ _ _ hj (fun j hj' hu => h3.heap j hj' fun hx => hu (hX j hx)) hs h3.os h3.tape h3.output hm h1.mem fun b o v hv => ?_
    rcases h3.Mn b o v hv with h | h | h
    · exact .inl h
    · exact .inr (.inr h)
    · exact .inr (.inl (hX b h))

theorem ty_lift (hJ : Stab J) {Q' : Exit → AS → Prop} (h : Tri P none 0 c σ Q') (hq : ∀ e s, Q' e s → Q e y s) : TriY P J φ0 c y σ Q := by
  refine ⟨fun a w hr => ?_⟩
  obtain ⟨g, U, h1, h2, h3, h4, h5, h6⟩ := hr
  refine wpIn_mono (h ⟨g, w, hJ.tab _ _ _ _ h6⟩ (fun l hl => by cases hl) a w ⟨g, h1, h2, Ext.refl _ _⟩) ?_
  rintro e a' w' ⟨σ', hq', hr⟩
  exact ⟨y, σ', hq e σ' hq', RelY.step hJ h3 h4 h5 h6 hr⟩

theorem RelY.le {s : AS} (h : RelY J φ0 y σ a w) (hl : Le s σ) : RelY J φ0 y s a w := by
  obtain ⟨g, U, h1, h2, h3⟩ := h
  refine ⟨g, U, { h1 with
            box := fun t cs ht => h1.box t cs (hl.b _ (get_mem ht))
            live := fun t ht => h1.live t (memK_mem (hl.k t ht)) }, ⟨h2.1, by rw [hl.n]; exact h2.2.1, fun t y hy => ?_, h2.2.2.2⟩, h3⟩
  have := h2.2.2.1 t y (hl.t _ (get_mem hy))
  rw [hl.n]; exact this

def thenY (K : Option Nat → AS → Prop) (Q : Exit → Option Nat → AS → Prop) : Exit → Option Nat → AS → Prop
  | .normal, y, s => K y s
  | e, y, s => Q e y s
theorem ty_seq {c' : Code} (h : TriY P J φ0 c y σ (thenY (fun y' s => TriY P J φ0 c' y' s Q) Q)) : TriY P J φ0 (.seq c c') y σ Q := by
  refine ⟨fun a w hr => wpIn_seq (wpIn_mono (h.h a w hr) ?_)⟩
  rintro e a' w' ⟨y', σ', q, r⟩
  cases e <;> first | exact q.h a' w' r | exact ⟨y', σ', q, r⟩
def blkY (id : Nat) (Q : Exit → Option Nat → AS → Prop) : Exit → Option Nat → AS → Prop
  | .exit id', y, s => if id' = id then Q .normal y s else Q (.exit id') y s
  | e, y, s => Q e y s
theorem ty_block {id : Nat} (h : TriY P J φ0 c y σ (blkY id Q)) : TriY P J φ0 (.block id c) y σ Q := by
  refine ⟨fun a w hr => wpIn_block (wpIn_mono (h.h a w hr) ?_)⟩
  rintro e a' w' ⟨y', σ', q, r⟩
  cases e with
  | exit id' =>
    simp only [Exit.inBlock, blkY] at q ⊢
    split
    · rename_i hid; rw [if_pos hid] at q; exact ⟨y', σ', q, r⟩
    · rename_i hid; rw [if_neg hid] at q; exact ⟨y', σ', q, r⟩
  | _ => exact ⟨y', σ', q, r⟩
theorem ty_le {s : AS} (hl : Le s σ) (h : TriY P J φ0 c y s Q) : TriY P J φ0 c y σ Q := ⟨fun a w hr => h.h a w (hr.le hl)⟩
theorem ty_cond {o : Operand} {c' : Code} {t : Bool} (hc : ev σ o = .v (.bool t)) (h1 : t = true → TriY P J φ0 c y σ Q) (h2 : t = false → TriY P J φ0 c' y σ Q) : TriY P J φ0 (.cond o c c') y σ Q := by
  refine ⟨fun a w hr => ?_⟩
  have hr' := hr
  obtain ⟨g, U, w1, w2, w3⟩ := hr
  have hv := ev_rt w2 o
  rw [hc] at hv
  have := bool_inv (v_inv hv)
  exact wpIn_cond_split this (fun ht => (h1 ht).h a w hr') (fun ht => (h2 ht).h a w hr')
theorem ty_mono {Q' : Exit → Option Nat → AS → Prop} (h : TriY P J φ0 c y σ Q') (hq : ∀ e y s, Q' e y s → Q e y s) : TriY P J φ0 c y σ Q :=
  ⟨fun a w hr => wpIn_mono (h.h a w hr) fun e a' w' ⟨y', σ', q, r⟩ => ⟨y', σ', hq _ _ _ q, r⟩⟩
theorem ty_skip (h : Q .normal y σ) : TriY P J φ0 .skip y σ Q := ⟨fun a w hr => wpIn_skip ⟨y, σ, h, hr⟩⟩
theorem ty_exit {id : Nat} (h : Q (.exit id) y σ) : TriY P J φ0 (.exit id) y σ Q := ⟨fun a w hr => wpIn_exit ⟨y, σ, h, hr⟩⟩
theorem ty_ret (h : Q .ret y σ) : TriY P J φ0 .ret y σ Q := ⟨fun a w hr => wpIn_ret ⟨y, σ, h, hr⟩⟩
theorem ty_loop (I : Nat → Option Nat → AS → Prop) (m : Nat) (h0 : I m y σ)
    (round : ∀ m y s, I m y s → TriY P J φ0 c y s (thenY (fun y' s' => ∃ m', m' < m ∧ I m' y' s') Q)) : TriY P J φ0 (.loop c) y σ Q := by
  refine ⟨fun a w hr b k cs hro hb hroom => ?_⟩
  have key : ∀ j a w, (∃ y s, I j y s ∧ RelY J φ0 y s a w) →
      ∃ e a' w', (∃ y' σ', Q e y' σ' ∧ RelY J φ0 y' σ' a' w') ∧ ArrivesIn (Machine.fenced P (Fw none)) P (lone (b.atR a (.code c :: .inLoop c :: k)) cs w) b k cs e a' w' := by
    intro j
    induction j using Nat.strongRecOn with
    | _ j ih =>
      rintro a w ⟨y, s, hI, hr⟩
      obtain ⟨e, a₁, w₁, ⟨y', σ', hq, hr'⟩, harr⟩ := (round j y s hI).h a w hr b (.inLoop c :: k) cs hro hb hroom
      cases e with
      | normal =>
        obtain ⟨m', hlt, hI₁⟩ := hq
        obtain ⟨e₂, a₂, w₂, hq₂, harr₂⟩ := ih m' hlt a₁ w₁ ⟨y', σ', hI₁, hr'⟩
        exact ⟨e₂, a₂, w₂, hq₂, .of_steps (StepsIn.trans harr (.one (fenced_calm hb hroom rfl) stepR_inLoop)) harr₂⟩
      | exit id => exact ⟨_, a₁, w₁, ⟨y', σ', hq, hr'⟩, .pass (x := .inLoop c) rfl (fun _ _ => .inl (by simp)) harr⟩
      | goto l => exact ⟨_, a₁, w₁, ⟨y', σ', hq, hr'⟩, .pass (x := .inLoop c) rfl (fun _ _ => .inl (by simp)) harr⟩
      | ret => exact ⟨_, a₁, w₁, ⟨y', σ', hq, hr'⟩, .pass (x := .inLoop c) rfl (fun _ _ => .inl (by simp)) harr⟩
      | panic ch => exact ⟨_, a₁, w₁, ⟨y', σ', hq, hr'⟩, .pass (x := .inLoop c) rfl (fun _ _ => .inl (by simp)) harr⟩
      | outgrown => exact ⟨_, a₁, w₁, ⟨y', σ', hq, hr'⟩, .pass (x := .inLoop c) rfl (fun _ _ => .inl (by simp)) harr⟩
  obtain ⟨e, a', w', hq, harr⟩ := key _ a w ⟨y, σ, h0, hr⟩
  exact ⟨e, a', w', hq, .of_steps (.one (fenced_calm hb hroom rfl) stepR_loop) harr⟩
theorem ty_for {α : Type} (St : α → AS) (Y : α → Option Nat) (Inv : α → Prop) (μ : α → Nat) (x0 : α) (hy : Y x0 = y) (hl : Le (St x0) σ) (h0 : Inv x0)
    (round : ∀ x, Inv x → TriY P J φ0 c (Y x) (St x) (thenY (fun y' s' => ∃ x', Inv x' ∧ μ x' < μ x ∧ Y x' = y' ∧ Le (St x') s') Q)) : TriY P J φ0 (.loop c) y σ Q := by
  refine ty_loop (fun m y s => ∃ x, Inv x ∧ μ x = m ∧ Y x = y ∧ Le (St x) s) (μ x0) ⟨x0, h0, rfl, hy, hl⟩ ?_
  rintro m y s ⟨x, hI, rfl, rfl, hle⟩
  refine ty_le hle (ty_mono (round x hI) ?_)
  intro e y' s' hq
  cases e with
  | normal => obtain ⟨x', h1, h2, h3, h4⟩ := hq; exact ⟨_, h2, x', h1, rfl, h3, h4⟩
  | _ => exact hq

/-! ### Regions -/
structure OpsY (P : Program) (J : Hold) (φ0 : Nat → Option Nat) (ops rest : List Oper) (y : Option Nat) (σ : AS) (Q : Option Nat → AS → Prop) : Prop where
  h : ∀ (Q' : Exit → Act → World → Prop), (∀ y' σ' a' w', Q y' σ' → RelY J φ0 y' σ' a' w' → Q' .normal a' w') → ∀ pre a w, ops = pre ++ rest → RelY J φ0 y σ a w → wpOpsIn (Fw none) 0 P ops.toArray Q' (List.range' pre.length rest.length) a w
theorem ty_region {id : Nat} {ops : List Oper} (h : OpsY P J φ0 ops ops y σ (Q .normal)) : TriY P J φ0 (.region id ops.toArray false) y σ Q := by
  refine ⟨fun a w hr => wpIn_region ?_⟩
  have := h.h (fun e a' w' => ∃ y' σ', Q e y' σ' ∧ RelY J φ0 y' σ' a' w') (fun y' σ' a' w' hq hr' => ⟨y', σ', hq, hr'⟩) [] a w (by simp) hr
  simpa [List.range_eq_range'] using this
variable {ops rest : List Oper} {o : Oper} {K : Option Nat → AS → Prop} {d t : Nat}
theorem oy_nil (h : K y σ) : OpsY P J φ0 ops [] y σ K := ⟨fun Q' hK pre a w _ hr => hK _ _ _ _ h hr⟩
theorem want_y (hr : RelY J φ0 y σ a w) {ops : Array Oper} {b : Bool} (h : wantA ops.toList σ o = some b) : Region.wanted o (yielded ops a.tmps) = b := by
  obtain ⟨g, U, h1, h2, _⟩ := hr
  exact want_okT h2 h
/-- One operation, whatever it is. -/
def StepY (P : Program) (J : Hold) (φ0 : Nat → Option Nat) (o : Oper) (y : Option Nat) (σ : AS) (K : Option Nat → AS → Prop) : Prop :=
  ∀ (K' : Act → World → Prop) (Q' : Exit → Act → World → Prop) a w, RelY J φ0 y σ a w → (∀ y' σ' a' w', K y' σ' → RelY J φ0 y' σ' a' w' → K' a' w') → o.wpIn (Fw none) 0 P a w K' Q'
theorem oy_step (hw : wantA ops σ o = some true) (h : StepY P J φ0 o y σ fun y' s => OpsY P J φ0 ops rest y' s K) : OpsY P J φ0 ops (o :: rest) y σ K := by
  refine ⟨fun Q' hK pre a w he hr => ?_⟩
  have hat : ops.toArray[pre.length]? = some o := by
    have : ops[pre.length]? = some o := by rw [he]; simp
    simpa using this
  have hwt := want_y hr (ops := ops.toArray) (by simpa using hw)
  simp only [List.length_cons, List.range'_succ, wpOpsIn, hat]
  rw [if_pos hwt]
  refine h _ Q' a w hr fun y' σ' a' w' hk hr' => ?_
  have := hk.h Q' hK (pre ++ [o]) a' w' (by rw [he]; simp) hr'
  simpa using this
theorem oy_skip (hw : wantA ops σ o = some false) (hd : o.dst = some d) (hn : d < σ.n) (h : OpsY P J φ0 ops rest y (σ.put d (.tup [])) K) : OpsY P J φ0 ops (o :: rest) y σ K := by
  refine ⟨fun Q' hK pre a w he hr => ?_⟩
  have hat : ops.toArray[pre.length]? = some o := by
    have : ops[pre.length]? = some o := by rw [he]; simp
    simpa using this
  have hwt := want_y hr (ops := ops.toArray) (by simpa using hw)
  simp only [List.length_cons, List.range'_succ, wpOpsIn, hat]
  rw [if_neg (by simp [hwt])]
  refine ⟨fenceW o w _, ?_⟩
  have hr2 : RelY J φ0 y (σ.put d (.tup [])) (a.put o.dst Go.undef) w := by
    obtain ⟨g, U, h1, h2, h3⟩ := hr
    rw [hd]
    exact ⟨g, U, h1, Tmps.cons h2 hn (.tup [] #[] rfl fun j c v hc => by simp at hc), h3⟩
  have := h.h Q' hK (pre ++ [o]) _ w (by rw [he]; simp) hr2
  simpa using this
theorem sy_own (hJ : Stab J) {K' : AS → Prop} (h : StepP P σ o K') (hk : ∀ s, K' s → K y s) : StepY P J φ0 o y σ K := by
  intro K2 Q' a w hr hK
  obtain ⟨g, U, h1, h2, h3, h4, h5, h6⟩ := hr
  exact step_ok (E := ⟨g, w, hJ.tab _ _ _ _ h6⟩) ⟨g, h1, h2, Ext.refl _ _⟩ h fun σ' a' w' hs hr' => hK _ _ _ _ (hk _ hs) (RelY.step hJ h3 h4 h5 h6 hr')
theorem yld_inv {M : Mem} {l : Nat} {v : Value} (h : R M (.yld l) v) : v = .func (.yield l) #[] #[] := by cases h; rfl
/-- A round is asked for. -/
theorem sy_yield (hJ : Stab J) {l : Nat} {xs : List (List AV)} (hY : YldOk P J l xs) {k : Nat} {args : Array Operand} {ats : Array TypeId} {T : TypeId} {pos : String} {after : Array Edge} {gd : Option (Nat × Bool)} (hk : k < xs.length) (hd : d < σ.n)
    (hf : get t σ.t = some (.v (.yld l))) (ha : datArgs P σ args.toList ats.toList = some xs[k]) (h1 : K (some (k + 1)) (σ.put d (.v (.bool true)))) (h2 : K none (σ.put d (.v (.bool false)))) :
    StepY P J φ0 ⟨some d, .call { callee := .value (.tmp t), args := args, argTypes := ats }, T, pos, after, gd⟩ (some k) σ K := by
  intro K2 Q' a w hr hK
  obtain ⟨g, U, r1, r2, r3, r4, r5, r6⟩ := hr
  have hfv : a.eval (.tmp t) = .func (.yield l) #[] #[] := by
    have := ev_rt r2 (.tmp t)
    simp only [ev, hf, Option.getD_some] at this
    exact yld_inv (v_inv this)
  obtain ⟨han, haR⟩ := datArgs_ok r2 ha
  have hargs : ArgsR g.M xs[k] (args.map a.eval) := ⟨by simpa using han.symm, fun j x v hx hv => haR j x v hx (by simpa using hv)⟩
  obtain ⟨fn, tmps, assign, body, hy, hR⟩ := hY k U g.M w _ hk r6 hargs
  refine ⟨fun _ _ => trivial, ?_⟩
  rw [show Oper.semAt (Fw none).round a.eval _ = execOp a.eval _ from Oper.semAt_eq _ _ _ (by simp)]
  have hrun : (execOp a.eval ⟨some d, .call { callee := .value (.tmp t), args := args, argTypes := ats }, T, pos, after, gd⟩).run P w = .ok (.round l fn tmps assign body) w := by
    simp only [execOp, Sem.run_bind, resolve, hfv]
    simp [Deferred.ofValue, invoke, hy]
  rw [hrun]
  refine ⟨fun hd => by simp [Fw, Fence.wide] at hd, ?_⟩
  refine RoundIn.mono hR ?_
  rintro e W' ⟨hU, hsz, ho, htp, hou, hcase⟩
  have key : ∀ y', J y' U g.M W' → ∀ b : Bool, e = .returned (.bool b) → RelY J φ0 y' (σ.put d (.v (.bool b))) (a.put (some d) (.bool b)) W' := fun y' hj b _ => by
    have hs : ∀ j, j < w.heap.size → g.X j → W'.heap[j]? = w.heap[j]? := fun j _ hx => hU j (r3 j hx)
    have q1 : Wf g W' σ.b σ.k := r1.fgn (M' := g.M) (D' := g.D) hs hsz (MLe.refl _) (fun _ _ _ h => .inl h) (hJ.ok _ _ _ _ hj) (fun j hj' => by rw [hU j (r4 j hj')]; exact r1.dfr j hj') r1.dnd r1.dX
    have q2 : Tmps g W' σ a := r2.fgn (M' := g.M) (D' := g.D) (a' := a) r1 rfl r2.1 hs (MLe.refl _) (fun _ _ _ h => .inl h)
    exact ⟨g, U, q1, Tmps.cons q2 hd (.v _ _ (.bool b)), r3, r4, r5, hj⟩
  rcases hcase with ⟨rfl, hj⟩ | ⟨rfl, hj⟩
  · exact hK _ _ _ _ h1 (key _ hj true rfl)
  · exact hK _ _ _ _ h2 (key _ hj false rfl)

/-- An iterator's contract, from its body. -/
theorem ic_of_body {f : FuncId} {fn : Func} {c : Code} {caps : List AV} {xs : List (List AV)} {nt : Nat} (hf : P.funcs[f]? = some fn) (hb : fn.body = some c) (hnt : fn.ntmps = nt) (hrs : fn.results.toList = []) (hname : (fn.name == "runtime.NumGoroutine") = false) (hn : 1 + caps.length ≤ nt)
    (h : ∀ l J, Stab J → YldOk P J l xs → TriY P J (fun _ => none) c (some 0) ⟨nt, argT 0 (.yld l :: caps), [], []⟩ fun e y s => (e = .normal ∨ e = .ret) ∧ (y = some xs.length ∨ y = none)) : IC P f caps xs := by
  subst hnt
  refine ⟨fun vs w => by have hn' : ¬ fn.name = "runtime.NumGoroutine" := (by simpa using hname); simp [callFunc, hf, hn', hb], fun M w lb hM hlb l J hJ hY h0 => ?_⟩
  refine callsIn_of_wp_marks (F := Fence.wide) (n := 0) hf hb trivial (wpIn_mono ((h l J hJ hY).h _ w ⟨gp M, fun _ => False, ?_, ?_, fun b hb => ?_, (fun b hb => by simp [gp] at hb), (fun s b _ hs => by cases hs), h0⟩) ?_)
  · exact
    { mem := hM
      box := fun t cs ht => by simp [get] at ht
      ij := fun s s' b hs => by simp [gp] at hs
      ik := fun s s' b hs => by simp only [gp] at hs; split at hs <;> cases hs
      ap := fun s s' b hs => by simp [gp] at hs
      ltφ := fun s b hs => by simp [gp] at hs
      ltκ := fun s b hs => by simp only [gp] at hs; split at hs <;> cases hs
      nφ := fun s b o hs => by simp [gp] at hs
      live := fun s hs => by simp at hs
      dfr := fun j hj => by simp [gp] at hj
      dnd := List.nodup_nil
      dX := fun j hj => by simp [gp] at hj }
  · obtain ⟨A, hA⟩ : ∃ A, A = #[Value.func (.yield l) #[] #[]] ++ lb := ⟨_, rfl⟩
    rw [← hA]
    have hl2 : A.size = 1 + caps.length := by rw [hA]; simp [hlb.1] <;> omega
    have hR2 : ∀ (j : Nat) x v, (AV.yld l :: caps)[j]? = some x → A[j]? = some v → R M x v := fun j x v hx hv => by
      rw [hA] at hv
      cases j with
      | zero =>
        rw [Array.getElem?_append_left (by simp)] at hv
        simp at hx hv
        subst hx; subst hv; exact .yld l
      | succ j =>
        rw [List.getElem?_cons_succ] at hx
        rw [Array.getElem?_append_right (by simp)] at hv
        exact hlb.2 j x v hx (by simpa using hv)
    refine ⟨rfl, ?_, fun t y hy => ?_, by simp [gp]⟩
    · show (A ++ Array.replicate (fn.ntmps - A.size) Go.undef).size = fn.ntmps
      rw [Array.size_append, hl2, Array.size_replicate]; omega
    · obtain ⟨_, z, q2, rfl⟩ := get_argT _ 0 t y hy
      simp only [Nat.sub_zero] at q2
      have hlt : t < 1 + caps.length := by have := (List.getElem?_eq_some_iff.1 q2).1; simp at this; omega
      refine ⟨by show t < fn.ntmps; omega, .v _ _ (hR2 t z _ q2 ?_)⟩
      show A[t]? = some ((A ++ Array.replicate (fn.ntmps - A.size) Go.undef).getD t Go.undef)
      rw [Array.getD_eq_getD_getElem?, Array.getElem?_append_left (by rw [hl2]; exact hlt)]
      have : t < A.size := by rw [hl2]; exact hlt
      rw [Array.getElem?_eq_getElem this]; rfl
  · rcases hb with ⟨s, hs⟩ | ⟨s, hs⟩
    · simp [gp] at hs
    · simp only [gp] at hs; split at hs <;> cases hs
  · rintro e a' w1 ⟨y', σ', ⟨he, hy⟩, g, U, h1, h2, h3, h4, h5, h6⟩
    have hres : ∀ w' : World, (results fn a'.tmps).run P w' = .ok (.tuple #[]) w' := fun w' => by
      have := results_run (P := P) (fn := fn) (a := a') (w := w') (us := []) (by rw [hrs]; rfl)
      simpa using this
    have := takes (F := Fence.wide) (n := 0) (P := P) (fn := fn) (tmps := a'.tmps) (R := fun e W' => (∃ v, e = .returned v) ∧ ∃ U N, J (some xs.length) U N W' ∨ J none U N W') g.D w1 h1.dnd h1.dfr fun w' d1 d2 d3 d4 d5 => by
      refine ⟨_, hres w', ⟨_, rfl⟩, ?_⟩
      have hm : MemOk g.M w' := fun b o v hv => by
        obtain ⟨q1, q2⟩ := h1.mem b o v hv
        refine ⟨?_, q2⟩
        have hne : b ∉ g.D := fun hj => by
          have := h1.dfr b hj
          simp [World.cell?, this] at q1
        exact (World.cell?_of_block (d1 b hne)).trans q1
      have hj := hJ.st _ _ _ _ w' g.M h6 (fun j hj hu => d1 j fun hd => hu (h4 j hd)) (by omega) d3 d4 d5 (MLe.refl _) hm (fun _ _ _ h => .inl h)
      rcases hy with rfl | rfl
      · exact ⟨_, _, .inl hj⟩
      · exact ⟨_, _, .inr hj⟩
    rw [← h2.1] at this
    rcases he with rfl | rfl <;> exact this
end
end Go.Proofs.Ytenigafbbdjagaa.AL

/- Functions that ask for rounds on an iterator's behalf: their contracts. -/
namespace Go.Proofs.Ytenigafbbdjagaa.AL
open Go Go.RowKit
set_option linter.unusedVariables false
set_option linter.unusedSimpArgs false

/-- A function that asks for rounds: from so many rounds on, it asks for these; true, if all were wanted. -/
def YF (P : Program) (J : Hold) (f : FuncId) (args : List AV) (k n : Nat) : Prop :=
  (∀ args w, (callFunc f args).run P w = .ok (.enter f args) w) ∧
  ∀ U N W (vals : Array Value), J (some k) U N W → ArgsR N args vals → CallsIn Fence.wide 0 P f vals W fun e W' =>
    (∀ b, U b → W'.heap[b]? = W.heap[b]?) ∧ W.heap.size ≤ W'.heap.size ∧ W'.os = W.os ∧ W'.tape = W.tape ∧ W'.output = W.output ∧
    ∃ U' N', (∀ b, U b → U' b) ∧ MLe N N' ∧ (∀ b o v, N' b o = some v → N b o = some v ∨ ¬ U b) ∧
      ((e = .returned (.bool true) ∧ J (some (k + n)) U' N' W') ∨ (e = .returned (.bool false) ∧ J none U' N' W'))

section
variable {P : Program} {J : Hold} {φ0 : Nat → Option Nat} {y y' : Option Nat} {σ σ' : AS} {a : Act} {w w' : World} {g g' : GS} {U : Nat → Prop} {K : Option Nat → AS → Prop} {d t : Nat}

/-- The same hold, where the blocks U0 are not one's own. -/
def HoldU (J : Hold) (U0 : Nat → Prop) (N0 : Mem) (w0 : World) : Hold := fun y U N W =>
  J y (fun b => U b ∨ U0 b) N W ∧ (∀ b, U0 b → b < w0.heap.size ∧ W.heap[b]? = w0.heap[b]?) ∧ (∀ b, U b → w0.heap.size ≤ b) ∧ w0.heap.size ≤ W.heap.size ∧ W.os = w0.os ∧ W.tape = w0.tape ∧ W.output = w0.output ∧ MLe N0 N ∧ (∀ b o v, N b o = some v → N0 b o = some v ∨ ¬ U0 b)

theorem holdU_stab (hJ : Stab J) {U0 : Nat → Prop} {N0 : Mem} {w0 : World} : Stab (HoldU J U0 N0 w0) where
  st := fun y U N W W' N' ⟨h1, h2, h3, h4, h5, h6, h7, h8, h9⟩ hs hz ho ht hp hN hok hnew => by
    have hn0 : ∀ b, U0 b → ¬ U b := fun b hb hu => by have := (h2 b hb).1; have := h3 b hu; omega
    refine ⟨?_, fun b hb => ⟨(h2 b hb).1, ?_⟩, fun b hb => ?_, Nat.le_trans h4 hz, ho.trans h5, ht.trans h6, hp.trans h7, h8.trans hN, fun b o v hv => ?_⟩
    · have hj := hJ.st y _ N W W' N' h1 (fun j hj hu => hs j hj fun h => hu (.inl h)) hz ho ht hp hN hok (fun b o v hv => by
        rcases hnew b o v hv with h | h | h
        · exact .inl h
        · exact .inr (.inl (.inl h))
        · exact .inr (.inr h))
      have e : (fun b => (U b ∨ U0 b) ∨ (W.heap.size ≤ b ∧ b < W'.heap.size)) = (fun b => (U b ∨ (W.heap.size ≤ b ∧ b < W'.heap.size)) ∨ U0 b) := by
        funext b; apply propext; constructor
        · rintro ((h | h) | h)
          · exact .inl (.inl h)
          · exact .inr h
          · exact .inl (.inr h)
        · rintro ((h | h) | h)
          · exact .inl (.inl h)
          · exact .inr h
          · exact .inl (.inr h)
      rw [← e]; exact hj
    · have hlt := (h2 b hb).1
      rw [hs b (Nat.lt_of_lt_of_le hlt h4) (hn0 b hb)]; exact (h2 b hb).2
    · rcases hb with hb | ⟨hb, _⟩
      · exact h3 b hb
      · exact Nat.le_trans h4 hb
    · rcases hnew b o v hv with h | h | h
      · exact h9 b o v h
      · exact .inr fun hu => hn0 b hu h
      · exact .inr fun hu => by have := (h2 b hu).1; omega
  lt := fun y U N W b ⟨h1, _⟩ hu => hJ.lt y _ N W b h1 (.inl hu)
  ok := fun y U N W ⟨h1, _⟩ => hJ.ok y _ N W h1
  tab := fun y U N W ⟨h1, _⟩ => hJ.tab y _ N W h1

theorem holdU_yld {l : Nat} {xs : List (List AV)} {U0 : Nat → Prop} {N0 : Mem} {w0 : World} (h : YldOk P J l xs) : YldOk P (HoldU J U0 N0 w0) l xs := by
  intro k U N W args hk ⟨h1, h2, h3, h4, h5, h6, h7, h8⟩ ha
  obtain ⟨fn, tmps, assign, body, hy, hR⟩ := h k _ N W args hk h1 ha
  refine ⟨fn, tmps, assign, body, hy, RoundIn.mono hR ?_⟩
  rintro e W' ⟨q1, q2, q3, q4, q5, q6⟩
  have key : ∀ y', J y' (fun b => U b ∨ U0 b) N W' → HoldU J U0 N0 w0 y' U N W' := fun y' hj =>
    ⟨hj, fun b hb => ⟨(h2 b hb).1, by rw [q1 b (.inr hb)]; exact (h2 b hb).2⟩, h3, Nat.le_trans h4 q2, q3.trans h5, q4.trans h6, q5.trans h7, h8⟩
  exact ⟨fun b hb => q1 b (.inl hb), q2, q3, q4, q5, q6.imp (fun ⟨e1, e2⟩ => ⟨e1, key _ e2⟩) fun ⟨e1, e2⟩ => ⟨e1, key _ e2⟩⟩

/-- A call of a function that asks for rounds. -/
theorem sy_yf (hJ : Stab J) {f : FuncId} {caps : Array Value} {as cas : List AV} {k n : Nat} {args : Array Operand} {ats : Array TypeId} {T : TypeId} {pos : String} {after : Array Edge} {gd : Option (Nat × Bool)} (hd : d < σ.n)
    (hf : get t σ.t = some (.v (.val (.func (.func f) #[] caps)))) (ha : datArgs P σ args.toList ats.toList = some as) (hcap : ∀ U N W, J (some k) U N W → ArgsR N cas caps) (hy : YF P J f (as ++ cas) k n)
    (h1 : K (some (k + n)) (σ.put d (.v (.bool true)))) (h2 : K none (σ.put d (.v (.bool false)))) :
    StepY P J φ0 ⟨some d, .call { callee := .value (.tmp t), args := args, argTypes := ats }, T, pos, after, gd⟩ (some k) σ K := by
  intro K2 Q' a w hr hK
  obtain ⟨g, U, r1, r2, r3, r4, r5, r6⟩ := hr
  have hfv : a.eval (.tmp t) = .func (.func f) #[] caps := by
    have := ev_rt r2 (.tmp t)
    simp only [ev, hf, Option.getD_some] at this
    have hv := v_inv this
    generalize a.eval (.tmp t) = u at hv
    cases hv; rfl
  obtain ⟨han, haR⟩ := datArgs_ok r2 ha
  obtain ⟨hcn, hcR⟩ := hcap _ _ _ r6
  have hargs : ArgsR g.M (as ++ cas) (args.map a.eval ++ caps) := by
    have e1 : (args.map a.eval).size = as.length := by simp [← han]
    refine ⟨by simp [← han, hcn], fun j x v hx hv => ?_⟩
    rw [List.getElem?_append] at hx
    rw [Array.getElem?_append, e1] at hv
    split at hx
    · rename_i hj
      rw [if_pos hj] at hv
      exact haR j x v hx (by simpa using hv)
    · rename_i hj
      rw [if_neg hj] at hv
      exact hcR _ x v hx hv
  refine ⟨fun _ _ => trivial, ?_⟩
  rw [show Oper.semAt (Fw none).round a.eval _ = execOp a.eval _ from Oper.semAt_eq _ _ _ (by simp)]
  have hrun : (execOp a.eval ⟨some d, .call { callee := .value (.tmp t), args := args, argTypes := ats }, T, pos, after, gd⟩).run P w = .ok (.enter f (args.map a.eval ++ caps)) w := by
    simp only [execOp, Sem.run_bind, resolve, hfv]
    simp [Deferred.ofValue, invoke, hy.1]
  rw [hrun]
  refine ⟨fun hd => by simp [Fw, Fence.wide] at hd, ?_⟩
  refine CallsIn.mono (hy.2 U g.M w _ r6 hargs) ?_
  rintro e W' ⟨hU, hsz, ho, htp, hou, U', N', hUU, hN, hNn, hcase⟩
  have key : ∀ y', J y' U' N' W' → ∀ b : Bool, e = .returned (.bool b) → RelY J φ0 y' (σ.put d (.v (.bool b))) (a.put (some d) (.bool b)) W' := fun y' hj b _ => by
    have hs : ∀ j, j < w.heap.size → g.X j → W'.heap[j]? = w.heap[j]? := fun j _ hx => hU j (r3 j hx)
    have hn' : ∀ b o v, N' b o = some v → g.M b o = some v ∨ ¬ g.X b := fun b o v hv => (hNn b o v hv).imp id fun h hx => h (r3 b hx)
    have q1 : Wf (g.re N' g.D) W' σ.b σ.k := r1.fgn hs hsz hN hn' (hJ.ok _ _ _ _ hj) (fun j hj' => by rw [hU j (r4 j hj')]; exact r1.dfr j hj') r1.dnd r1.dX
    have q2 : Tmps (g.re N' g.D) W' σ a := r2.fgn (a' := a) r1 rfl r2.1 hs hN hn'
    exact ⟨g.re N' g.D, U', q1, Tmps.cons q2 hd (.v _ _ (.bool b)), fun b hb => hUU b (r3 b hb), fun b hb => hUU b (r4 b hb), r5, hj⟩
  rcases hcase with ⟨rfl, hj⟩ | ⟨rfl, hj⟩
  · exact hK _ _ _ _ h1 (key _ hj true rfl)
  · exact hK _ _ _ _ h2 (key _ hj false rfl)

/-- Such a function's contract, from its body. -/
theorem yf_of_body {f : FuncId} {fn : Func} {c : Code} {args : List AV} {k n nt rt : Nat} (hJ : Stab J) (hf : P.funcs[f]? = some fn) (hb : fn.body = some c) (hnt : fn.ntmps = nt) (hrs : fn.results.toList = [.tmp rt]) (hname : (fn.name == "runtime.NumGoroutine") = false) (hn : args.length ≤ nt)
    (h : ∀ U0 N0 w0, TriY P (HoldU J U0 N0 w0) (fun _ => none) c (some k) ⟨nt, argT 0 args, [], []⟩ fun e y s => (e = .normal ∨ e = .ret) ∧ ∃ b : Bool, get rt s.t = some (.v (.bool b)) ∧ ((b = true ∧ y = some (k + n)) ∨ (b = false ∧ y = none))) : YF P J f args k n := by
  subst hnt
  refine ⟨fun vs w => by have hn' : ¬ fn.name = "runtime.NumGoroutine" := (by simpa using hname); simp [callFunc, hf, hn', hb], fun U0 N0 w0 vals hj0 ha => ?_⟩
  have hJ' : Stab (HoldU J U0 N0 w0) := holdU_stab hJ
  have hM := hJ.ok _ _ _ _ hj0
  have h00 : HoldU J U0 N0 w0 (some k) (fun _ => False) N0 w0 := ⟨by
      have e : (fun b => False ∨ U0 b) = U0 := by funext b; simp
      rw [e]; exact hj0, fun b hb => ⟨hJ.lt _ _ _ _ b hj0 hb, rfl⟩, fun b hb => hb.elim, Nat.le_refl _, rfl, rfl, rfl, MLe.refl _, fun _ _ _ h => .inl h⟩
  refine callsIn_of_wp_marks (F := Fence.wide) (n := 0) hf hb trivial (wpIn_mono ((h U0 N0 w0).h _ w0 ⟨gp N0, fun _ => False, ?_, ?_, fun b hb => ?_, (fun b hb => by simp [gp] at hb), (fun s b _ hs => by cases hs), h00⟩) ?_)
  · exact
    { mem := hM
      box := fun t cs ht => by simp [get] at ht
      ij := fun s s' b hs => by simp [gp] at hs
      ik := fun s s' b hs => by simp only [gp] at hs; split at hs <;> cases hs
      ap := fun s s' b hs => by simp [gp] at hs
      ltφ := fun s b hs => by simp [gp] at hs
      ltκ := fun s b hs => by simp only [gp] at hs; split at hs <;> cases hs
      nφ := fun s b o hs => by simp [gp] at hs
      live := fun s hs => by simp at hs
      dfr := fun j hj => by simp [gp] at hj
      dnd := List.nodup_nil
      dX := fun j hj => by simp [gp] at hj }
  · refine ⟨rfl, ?_, fun t y hy => ?_, by simp [gp]⟩
    · show (vals ++ Array.replicate (fn.ntmps - vals.size) Go.undef).size = fn.ntmps
      have := ha.1; simp; omega
    · obtain ⟨_, z, q2, rfl⟩ := get_argT args 0 t y hy
      simp only [Nat.sub_zero] at q2
      have hlt : t < args.length := (List.getElem?_eq_some_iff.1 q2).1
      have hl := ha.1
      refine ⟨by show t < fn.ntmps; omega, .v _ _ (ha.2 t z _ q2 ?_)⟩
      show vals[t]? = some ((vals ++ Array.replicate (fn.ntmps - vals.size) Go.undef).getD t Go.undef)
      rw [Array.getD_eq_getD_getElem?, Array.getElem?_append_left (by omega)]
      have : t < vals.size := by omega
      simp [this]
  · rcases hb with ⟨s, hs⟩ | ⟨s, hs⟩
    · simp [gp] at hs
    · simp only [gp] at hs; split at hs <;> cases hs
  · rintro e a' w1 ⟨y', σ', ⟨he, bb, hgb, hcase⟩, g, U, h1, h2, h3, h4, h5, h6⟩
    have hbv : a'.tmps.getD rt Go.undef = .bool bb := bool_inv (v_inv (h2.2.2.1 rt _ hgb).2)
    have hres : ∀ w' : World, (results fn a'.tmps).run P w' = .ok (.bool bb) w' := fun w' => by
      have := results_run (P := P) (fn := fn) (a := a') (w := w') (us := [.bool bb]) (by rw [hrs, List.mapM_cons]; simp only [Sem.run_bind, resM, hbv, Sem.run_pure, Result.andThen_ok]; rfl)
      simpa using this
    have := takes (F := Fence.wide) (n := 0) (P := P) (fn := fn) (tmps := a'.tmps) (R := fun e W' => (∀ b, U0 b → W'.heap[b]? = w0.heap[b]?) ∧ w0.heap.size ≤ W'.heap.size ∧ W'.os = w0.os ∧ W'.tape = w0.tape ∧ W'.output = w0.output ∧
      ∃ U' N', (∀ b, U0 b → U' b) ∧ MLe N0 N' ∧ (∀ b o v, N' b o = some v → N0 b o = some v ∨ ¬ U0 b) ∧
        ((e = .returned (.bool true) ∧ J (some (k + n)) U' N' W') ∨ (e = .returned (.bool false) ∧ J none U' N' W'))) g.D w1 h1.dnd h1.dfr fun w' d1 d2 d3 d4 d5 => by
      refine ⟨_, hres w', ?_⟩
      have hm : MemOk g.M w' := fun b o v hv => by
        obtain ⟨q1, q2⟩ := h1.mem b o v hv
        refine ⟨?_, q2⟩
        have hne : b ∉ g.D := fun hj => by
          have := h1.dfr b hj
          simp [World.cell?, this] at q1
        exact (World.cell?_of_block (d1 b hne)).trans q1
      obtain ⟨j1, j2, j3, j4, j5, j6, j7, j8, j9⟩ := hJ'.st _ _ _ _ w' g.M h6 (fun j hj hu => d1 j fun hd => hu (h4 j hd)) (by omega) d3 d4 d5 (MLe.refl _) hm (fun _ _ _ h => .inl h)
      refine ⟨fun b hb => (j2 b hb).2, j4, j5, j6, j7, fun b => (U b ∨ (w1.heap.size ≤ b ∧ b < w'.heap.size)) ∨ U0 b, g.M, fun b hb => .inr hb, j8, j9, ?_⟩
      rcases hcase with ⟨rfl, rfl⟩ | ⟨rfl, rfl⟩
      · exact .inl ⟨rfl, j1⟩
      · exact .inr ⟨rfl, j1⟩
    rw [← h2.1] at this
    rcases he with rfl | rfl <;> exact this
end
end Go.Proofs.Ytenigafbbdjagaa.AL

/- A function that calls itself by a variable that holds it, and asks for rounds: how the knot is tied. -/
namespace Go.Proofs.Ytenigafbbdjagaa.AL
open Go Go.RowKit
set_option linter.unusedVariables false
set_option linter.unusedSimpArgs false

abbrev kV (f b3 b2 : Nat) : Value := .func (.func f) #[] #[.pointer (some ⟨b3, 0, none⟩), .pointer (some ⟨b2, 0, none⟩)]
abbrev yV (l : Nat) : Value := .func (.yield l) #[] #[]
def KnotM (J : Hold) (f b3 b2 l : Nat) : Prop := ∀ y U N W, J y U N W → N b3 0 = some (kV f b3 b2) ∧ N b2 0 = some (yV l)
theorem knot_caps {J : Hold} {f b3 b2 l : Nat} (h : KnotM J f b3 b2 l) : ∀ y U N W, J y U N W → ArgsR N [.ro [.val (kV f b3 b2)], .ro [.yld l]] #[.pointer (some ⟨b3, 0, none⟩), .pointer (some ⟨b2, 0, none⟩)] := by
  intro y U N W hj
  obtain ⟨h1, h2⟩ := h y U N W hj
  have one : ∀ (a : AV) (v : Value) (b : Nat), N b 0 = some v → R N a v → R N (.ro [a]) (.pointer (some ⟨b, 0, none⟩)) := fun a v b hv hR => by
    refine .ro [a] b 0 (fun _ => v) (fun j c hc => ?_) (fun j c hc => ?_)
    · cases j with
      | zero => exact hv
      | succ j => simp at hc
    · cases j with
      | zero => simp at hc; subst hc; exact hR
      | succ j => simp at hc
  refine ⟨rfl, fun j x v hx hv => ?_⟩
  match j, hx, hv with
  | 0, hx, hv => simp at hx hv; subst hx; subst hv; exact one _ _ _ h1 (.val _ rfl rfl)
  | 1, hx, hv => simp at hx hv; subst hx; subst hv; exact one _ _ _ h2 (.yld l)
  | j + 2, hx, _ => simp at hx
theorem knot_hold {J : Hold} {f b3 b2 l : Nat} {U0 : Nat → Prop} {N0 : Mem} {w0 : World} (h : KnotM J f b3 b2 l) : KnotM (HoldU J U0 N0 w0) f b3 b2 l := fun y U N W hj => h y _ N W hj.1

/-- A hold that knows the knot. -/
def HoldK (J : Hold) (f b3 b2 l : Nat) : Hold := fun y U N W => J y U N W ∧ N b3 0 = some (kV f b3 b2) ∧ N b2 0 = some (yV l)
theorem holdK_stab {J : Hold} {f b3 b2 l : Nat} (hJ : Stab J) : Stab (HoldK J f b3 b2 l) where
  st := fun y U N W W' N' ⟨h1, h2, h3⟩ hs hz ho ht hp hN hok hnew => ⟨hJ.st y U N W W' N' h1 hs hz ho ht hp hN hok hnew, hN _ _ _ h2, hN _ _ _ h3⟩
  lt := fun y U N W b ⟨h1, _⟩ hu => hJ.lt y U N W b h1 hu
  ok := fun y U N W ⟨h1, _⟩ => hJ.ok y U N W h1
  tab := fun y U N W ⟨h1, _⟩ => hJ.tab y U N W h1
theorem holdK_yld {P : Program} {J : Hold} {f b3 b2 l l' : Nat} {xs : List (List AV)} (h : YldOk P J l' xs) : YldOk P (HoldK J f b3 b2 l) l' xs := by
  intro k U N W args hk ⟨h1, h2⟩ ha
  obtain ⟨fn, tmps, assign, body, hy, hR⟩ := h k U N W args hk h1 ha
  refine ⟨fn, tmps, assign, body, hy, RoundIn.mono hR ?_⟩
  rintro e W' ⟨q1, q2, q3, q4, q5, q6⟩
  exact ⟨q1, q2, q3, q4, q5, q6.imp (fun ⟨e1, e2⟩ => ⟨e1, e2, h2⟩) fun ⟨e1, e2⟩ => ⟨e1, e2, h2⟩⟩
theorem holdK_knot {J : Hold} {f b3 b2 l : Nat} : KnotM (HoldK J f b3 b2 l) f b3 b2 l := fun y U N W hj => hj.2

section
variable {P : Program} {J : Hold} {y y' : Option Nat} {σ σ' : AS} {a : Act} {w w' : World} {g g' : GS} {U : Nat → Prop} {K : Option Nat → AS → Prop} {d t : Nat}

theorem sy_knot (hJ : Stab J) {f l k n s3 s2 : Nat} {xs : List (List AV)} (hYl : YldOk P J l xs) {as : List AV} {args : Array Operand} {ats : Array TypeId} {dst : Option Nat} {T : TypeId} {pos : String} {after : Array Edge} {gd : Option (Nat × Bool)}
    (hb3 : get s3 σ.b = some [.fn f [.loc s3 0, .loc s2 0]]) (hb2 : get s2 σ.b = some [.v (.yld l)])
    (hf : get t σ.t = some (.fn f [.loc s3 0, .loc s2 0])) (ha : datArgs P σ args.toList ats.toList = some as)
    (hy : ∀ J' b3 b2, Stab J' → YldOk P J' l xs → KnotM J' f b3 b2 l → YF P J' f (as ++ [.ro [.val (kV f b3 b2)], .ro [.yld l]]) k n)
    (h1 : K (some (k + n)) ⟨σ.n, [], [], []⟩) (h2 : K none ⟨σ.n, [], [], []⟩) :
    StepY P J (fun _ => none) ⟨dst, .call { callee := .value (.tmp t), args := args, argTypes := ats }, T, pos, after, gd⟩ (some k) σ K := by
  intro K2 Q' a w hr hK
  obtain ⟨g, U, r1, r2, r3, r4, r5, r6⟩ := hr
  -- the two variables
  obtain ⟨b3, vs3, e3, p1, p2, p3, p4, p5⟩ := r1.box s3 _ hb3
  obtain ⟨b2, vs2, e2, q1, q2, q3, q4, q5⟩ := r1.box s2 _ hb2
  have hz3 : vs3.size = 1 := by simpa using p3.symm
  have hz2 : vs2.size = 1 := by simpa using q3.symm
  have fnv : ∀ v, RT g w (.fn f [.loc s3 0, .loc s2 0]) v → v = kV f b3 b2 := fun v hv => by
    cases hv with
    | fn f cs vs hn h =>
      have hsz : vs.size = 2 := by simpa using hn.symm
      obtain ⟨b, e, hφ⟩ := loc_inv (h 0 _ vs[0] rfl (by simp [hsz]))
      obtain ⟨b', e', hφ'⟩ := loc_inv (h 1 _ vs[1] rfl (by simp [hsz]))
      rw [p1] at hφ; rw [q1] at hφ'
      cases hφ; cases hφ'
      have : vs = #[.pointer (some ⟨b3, 0, none⟩), .pointer (some ⟨b2, 0, none⟩)] := by
        apply Array.ext
        · simpa using hsz
        · intro i h1 h2
          match i, h1 with
          | 0, _ => exact e
          | 1, _ => exact e'
          | i + 2, h => omega
      rw [this]
  have hv3 : vs3[0]? = some (kV f b3 b2) := by
    have : vs3[0]? = some vs3[0] := by simp [hz3]
    rw [this, fnv _ (p4 0 _ _ rfl this).1]
  have hv2 : vs2[0]? = some (yV l) := by
    have : vs2[0]? = some vs2[0] := by simp [hz2]
    rw [this, yld_inv (v_inv (q4 0 _ _ rfl this).1)]
  have hfv : a.eval (.tmp t) = kV f b3 b2 := by
    have := ev_rt r2 (.tmp t)
    simp only [ev, hf, Option.getD_some] at this
    exact fnv _ this
  -- they never turn from here on
  obtain ⟨N', hN'⟩ : ∃ N' : Mem, N' = fun b o => if b = b3 ∧ o = 0 then some (kV f b3 b2) else if b = b2 ∧ o = 0 then some (yV l) else g.M b o := ⟨_, rfl⟩
  have hne : b2 = b3 → False := fun e => by
    have := r1.ij s2 s3 b3 (by rw [← e]; exact q1) p1
    subst this
    rw [hb3] at hb2; cases hb2
  have hc3 : w.cell? ⟨b3, 0, none⟩ = some (kV f b3 b2) := by simp [World.cell?, p2, hv3]
  have hc2 : w.cell? ⟨b2, 0, none⟩ = some (yV l) := by simp [World.cell?, q2, hv2]
  have hML : MLe g.M N' := fun b o v hv => by
    rw [hN']
    by_cases c1 : b = b3 ∧ o = 0
    · rw [c1.1, p5] at hv; cases hv
    · by_cases c2 : b = b2 ∧ o = 0
      · rw [c2.1, q5] at hv; cases hv
      · simp [c1, c2, hv]
  have hsp : ∀ b o v, N' b o = some v → (b = b3 ∧ o = 0 ∧ v = kV f b3 b2) ∨ (b = b2 ∧ o = 0 ∧ v = yV l) ∨ g.M b o = some v := fun b o v hv => by
    rw [hN'] at hv
    simp only at hv
    by_cases c1 : b = b3 ∧ o = 0
    · simp only [c1, and_self, if_true, Option.some.injEq] at hv; exact .inl ⟨c1.1, c1.2, hv.symm⟩
    · by_cases c2 : b = b2 ∧ o = 0
      · rw [if_neg c1, if_pos c2] at hv; simp only [Option.some.injEq] at hv; exact .inr (.inl ⟨c2.1, c2.2, hv.symm⟩)
      · rw [if_neg c1, if_neg c2] at hv; exact .inr (.inr hv)
  have hok : MemOk N' w := fun b o v hv => by
    rcases hsp b o v hv with ⟨rfl, rfl, rfl⟩ | ⟨rfl, rfl, rfl⟩ | h
    · exact ⟨hc3, rfl⟩
    · exact ⟨hc2, rfl⟩
    · exact r1.mem b o v h
  have hn3 : N' b3 0 = some (kV f b3 b2) := by rw [hN']; simp
  have hn2 : N' b2 0 = some (yV l) := by
    have hne' : b2 ≠ b3 := hne
    rw [hN']; simp [hne']
  have hj := hJ.st _ _ _ _ w N' r6 (fun _ _ _ => rfl) (Nat.le_refl _) rfl rfl rfl hML hok fun b o v hv => by
    rcases hsp b o v hv with ⟨rfl, _⟩ | ⟨rfl, _⟩ | h
    · exact .inr (.inl (r3 _ (.inl ⟨_, p1⟩)))
    · exact .inr (.inl (r3 _ (.inl ⟨_, q1⟩)))
    · exact .inl h
  have hYF := hy (HoldK J f b3 b2 l) b3 b2 (holdK_stab hJ) (holdK_yld hYl) holdK_knot
  obtain ⟨han, haR⟩ := datArgs_ok r2 ha
  obtain ⟨hcn, hcR⟩ := knot_caps (J := HoldK J f b3 b2 l) holdK_knot _ _ _ _ ⟨hj, hn3, hn2⟩
  have hargs : ArgsR N' (as ++ [.ro [.val (kV f b3 b2)], .ro [.yld l]]) (args.map a.eval ++ #[.pointer (some ⟨b3, 0, none⟩), .pointer (some ⟨b2, 0, none⟩)]) := by
    have e1 : (args.map a.eval).size = as.length := by simp [← han]
    refine ⟨by simp [← han], fun j x v hx hv => ?_⟩
    rw [List.getElem?_append] at hx
    rw [Array.getElem?_append, e1] at hv
    split at hx
    · rename_i hj
      rw [if_pos hj] at hv
      exact (haR j x v hx (by simpa using hv)).mono hML
    · rename_i hj
      rw [if_neg hj] at hv
      exact hcR _ x v hx hv
  refine ⟨fun _ _ => trivial, ?_⟩
  rw [show Oper.semAt (Fw none).round a.eval _ = execOp a.eval _ from Oper.semAt_eq _ _ _ (by simp)]
  have hrun : (execOp a.eval ⟨dst, .call { callee := .value (.tmp t), args := args, argTypes := ats }, T, pos, after, gd⟩).run P w = .ok (.enter f (args.map a.eval ++ #[.pointer (some ⟨b3, 0, none⟩), .pointer (some ⟨b2, 0, none⟩)])) w := by
    simp only [execOp, Sem.run_bind, resolve, hfv]
    simp [Deferred.ofValue, invoke, hYF.1]
  rw [hrun]
  refine ⟨fun hd => by simp [Fw, Fence.wide] at hd, ?_⟩
  refine CallsIn.mono (hYF.2 _ N' w _ ⟨hj, hn3, hn2⟩ hargs) ?_
  rintro e W' ⟨hU, hsz, ho, htp, hou, U', N'', hUU, hN, hNn, hcase⟩
  have hDU : ∀ b, b ∈ g.D → W'.heap[b]? = w.heap[b]? := fun b hb => hU b (.inl (r4 b hb))
  have key : ∀ y', J y' U' N'' W' → ∀ v, RelY J (fun _ => none) y' ⟨σ.n, [], [], []⟩ (a.put dst v) W' := fun y' hj v => by
    refine ⟨⟨N'', fun _ => none, fun s => if s = 999999 then some none else none, g.D⟩, U', ?_, ⟨?_, ?_, fun t x hx => by simp [get] at hx, by simp⟩, fun b hb => ?_, fun b hb => hUU b (.inl (r4 b hb)), (fun s b _ hs => by cases hs), hj⟩
    · exact
        { mem := hJ.ok _ _ _ _ hj
          box := fun t cs ht => by simp [get] at ht
          ij := fun s s' b hs => by simp at hs
          ik := fun s s' b hs => by simp only at hs; split at hs <;> cases hs
          ap := fun s s' b hs => by simp at hs
          ltφ := fun s b hs => by simp at hs
          ltκ := fun s b hs => by simp only at hs; split at hs <;> cases hs
          nφ := fun s b o hs => by simp at hs
          live := fun s hs => by simp at hs
          dfr := fun j hj => by rw [hDU j hj]; exact r1.dfr j hj
          dnd := r1.dnd
          dX := fun j hj hx => by
            rcases hx with ⟨s, hs⟩ | ⟨s, hs⟩
            · simp at hs
            · simp only at hs; split at hs <;> cases hs }
    · cases dst <;> exact r2.1
    · cases dst with
      | none => exact r2.2.1
      | some d => simpa [Act.put] using r2.2.1
    · rcases hb with ⟨s, hs⟩ | ⟨s, hs⟩
      · simp at hs
      · simp only at hs; split at hs <;> cases hs
  rcases hcase with ⟨rfl, hj⟩ | ⟨rfl, hj⟩
  · exact hK _ _ _ _ h1 (key _ hj.1 _)
  · exact hK _ _ _ _ h2 (key _ hj.1 _)
end
end Go.Proofs.Ytenigafbbdjagaa.AL
