/- Ranges over functions: what an iterator promises; what the statement makes. -/
import Derived.Test.YtekdlkjonihglaaYMB
namespace Go.Proofs.Ytekdlkjonihglaa.AL
open Go Go.RowKit
set_option linter.unusedVariables false
set_option linter.unusedSimpArgs false

/-! ### Names of variables from outside -/
mutual
def TV.up : TV → TV
  | .loc s o => .loc (s + 1000000) o
  | .mp s q => .mp (s + 1000000) q
  | .fn f cs => .fn f (upL cs)
  | .tup cs => .tup (upL cs)
  | .undef => .undef
  | .v a => .v a
  | .ap sz xs s => .ap sz xs s
def upL : List TV → List TV
  | [] => []
  | x :: l => x.up :: upL l
end
mutual
def TV.down : TV → TV
  | .loc s o => if 1000000 ≤ s then .loc (s - 1000000) o else .undef
  | .mp s q => if 1000000 ≤ s then .mp (s - 1000000) q else .undef
  | .fn f cs => .fn f (downL cs)
  | .tup cs => .tup (downL cs)
  | .undef => .undef
  | .v a => .v a
  | .ap sz xs s => .ap sz xs s
def downL : List TV → List TV
  | [] => []
  | x :: l => x.down :: downL l
end
theorem upL_map : ∀ l : List TV, upL l = l.map TV.up
  | [] => rfl
  | x :: l => by simp only [upL, List.map_cons, upL_map l]
theorem downL_map : ∀ l : List TV, downL l = l.map TV.down
  | [] => rfl
  | x :: l => by simp only [downL, List.map_cons, downL_map l]
def upB : List (Nat × List TV) → List (Nat × List TV)
  | [] => []
  | (s, cs) :: l => (s + 1000000, upL cs) :: upB l
def downB : List (Nat × List TV) → List (Nat × List TV)
  | [] => []
  | (s, cs) :: l => bif Nat.ble 1000000 s then (s - 1000000, downL cs) :: downB l else downB l
def upT : List (Nat × TV) → List (Nat × TV)
  | [] => []
  | (t, x) :: l => (t, x.up) :: upT l
def downT : List (Nat × TV) → List (Nat × TV)
  | [] => []
  | (t, x) :: l => (t, x.down) :: downT l
def AS.up (σ : AS) : AS := ⟨σ.n, upT σ.t, upB σ.b, σ.k⟩
def AS.down (σ : AS) : AS := ⟨σ.n, downT σ.t, downB σ.b, σ.k⟩
def GS.up (g : GS) : GS := { g with φ := fun t => if 1000000 ≤ t then g.φ (t - 1000000) else none }
def GS.down (g : GS) : GS := { g with φ := fun t => g.φ (t + 1000000) }

theorem get_upT (t : Nat) : ∀ l : List (Nat × TV), get t (upT l) = (get t l).map TV.up
  | [] => rfl
  | (m, x) :: l => by
    simp only [upT, get]
    cases t == m <;> simp [get_upT t l]
theorem get_downT (t : Nat) : ∀ l : List (Nat × TV), get t (downT l) = (get t l).map TV.down
  | [] => rfl
  | (m, x) :: l => by
    simp only [downT, get]
    cases t == m <;> simp [get_downT t l]
theorem get_upB {s : Nat} {cs : List TV} : ∀ {l : List (Nat × List TV)}, get s (upB l) = some cs → ∃ s' cs', s = s' + 1000000 ∧ cs = cs'.map TV.up ∧ get s' l = some cs'
  | [], h => by simp [upB, get] at h
  | (m, x) :: l, h => by
    simp only [upB, get] at h
    cases hm : s == m + 1000000
    · simp only [hm, cond_false] at h
      obtain ⟨s', cs', h1, h2, h3⟩ := get_upB h
      refine ⟨s', cs', h1, h2, ?_⟩
      have : (s' == m) = false := by simp only [beq_eq_false_iff_ne] at hm ⊢; omega
      simp [get, this, h3]
    · simp only [hm, cond_true, Option.some.injEq] at h
      simp only [beq_iff_eq] at hm
      exact ⟨m, x, hm, by rw [← h, upL_map], by simp [get]⟩
theorem get_downB {s : Nat} {cs : List TV} : ∀ {l : List (Nat × List TV)}, get s (downB l) = some cs → ∃ cs', cs = cs'.map TV.down ∧ get (s + 1000000) l = some cs'
  | [], h => by simp [downB, get] at h
  | (m, x) :: l, h => by
    simp only [downB] at h
    cases hb : Nat.ble 1000000 m
    · simp only [hb, cond_false] at h
      obtain ⟨cs', h2, h3⟩ := get_downB h
      refine ⟨cs', h2, ?_⟩
      have hlt : ¬ 1000000 ≤ m := fun e => by rw [← Nat.ble_eq, hb] at e; cases e
      have : (s + 1000000 == m) = false := by simp only [beq_eq_false_iff_ne]; omega
      simp [get, this, h3]
    · have hle : 1000000 ≤ m := Nat.le_of_ble_eq_true hb
      simp only [hb, cond_true, get] at h
      cases hm : s == m - 1000000
      · simp only [hm, cond_false] at h
        obtain ⟨cs', h2, h3⟩ := get_downB h
        refine ⟨cs', h2, ?_⟩
        have : (s + 1000000 == m) = false := by simp only [beq_eq_false_iff_ne] at hm ⊢; omega
        simp [get, this, h3]
      · simp only [hm, cond_true, Option.some.injEq] at h
        simp only [beq_iff_eq] at hm
        have : s + 1000000 = m := by omega
        exact ⟨x, by rw [← h, downL_map], by simp [get, this]⟩

section
variable {P : Program} {E : E0} {g g' : GS} {w w' : World} {σ σ' : AS} {a : Act} {x : TV} {v : Value} {M M' : Mem} {bx : List (Nat × List TV)} {k : List Nat}

theorem RT.up (h : RT g w x v) : RT g.up w x.up v := by
  induction h with
  | undef x => exact .undef x
  | v a x h => exact .v a x h
  | loc s off b h => exact .loc _ off b (by simp [GS.up, h])
  | ap sz xs s x h hk => exact .ap sz xs s x h hk
  | fn f cs vs hn h ih =>
    simp only [TV.up, upL_map]
    refine .fn f _ vs (by simpa using hn) fun j c v hc hv => ?_
    rw [List.getElem?_map] at hc
    cases hcj : cs[j]? with
    | none => simp [hcj] at hc
    | some c0 => simp only [hcj, Option.map_some, Option.some.injEq] at hc; subst hc; exact ih j c0 v hcj hv
  | tup cs vs hn h ih =>
    simp only [TV.up, upL_map]
    refine .tup _ vs (by simpa using hn) fun j c v hc hv => ?_
    rw [List.getElem?_map] at hc
    cases hcj : cs[j]? with
    | none => simp [hcj] at hc
    | some c0 => simp only [hcj, Option.map_some, Option.some.injEq] at hc; subst hc; exact ih j c0 v hcj hv
  | mp s b q x h hx => exact .mp _ b q x (by simp [GS.up, h]) hx
theorem RT.down (h : RT g w x v) : RT g.down w x.down v := by
  induction h with
  | undef x => exact .undef x
  | v a x h => exact .v a x h
  | loc s off b h =>
    simp only [TV.down]
    split
    · rename_i hs; exact .loc _ off b (by simp only [GS.down]; rw [show s - 1000000 + 1000000 = s by omega]; exact h)
    · exact .undef _
  | ap sz xs s x h hk => exact .ap sz xs s x h hk
  | fn f cs vs hn h ih =>
    simp only [TV.down, downL_map]
    refine .fn f _ vs (by simpa using hn) fun j c v hc hv => ?_
    rw [List.getElem?_map] at hc
    cases hcj : cs[j]? with
    | none => simp [hcj] at hc
    | some c0 => simp only [hcj, Option.map_some, Option.some.injEq] at hc; subst hc; exact ih j c0 v hcj hv
  | tup cs vs hn h ih =>
    simp only [TV.down, downL_map]
    refine .tup _ vs (by simpa using hn) fun j c v hc hv => ?_
    rw [List.getElem?_map] at hc
    cases hcj : cs[j]? with
    | none => simp [hcj] at hc
    | some c0 => simp only [hcj, Option.map_some, Option.some.injEq] at hc; subst hc; exact ih j c0 v hcj hv
  | mp s b q x h hx =>
    simp only [TV.down]
    split
    · rename_i hs; exact .mp _ b q x (by simp only [GS.down]; rw [show s - 1000000 + 1000000 = s by omega]; exact h) hx
    · exact .undef _

theorem up_φ {t b : Nat} (h : g.up.φ t = some b) : 1000000 ≤ t ∧ g.φ (t - 1000000) = some b := by
  simp only [GS.up] at h
  split at h
  · rename_i ht; exact ⟨ht, h⟩
  · cases h
theorem up_X {b : Nat} (h : g.up.X b) : g.X b := by
  rcases h with ⟨s, hs⟩ | ⟨s, hs⟩
  · exact .inl ⟨_, (up_φ hs).2⟩
  · exact .inr ⟨s, hs⟩
theorem X_up {b : Nat} (h : g.X b) : g.up.X b := by
  rcases h with ⟨s, hs⟩ | ⟨s, hs⟩
  · exact .inl ⟨s + 1000000, by simp [GS.up, hs]⟩
  · exact .inr ⟨s, hs⟩
theorem down_X {b : Nat} (h : g.down.X b) : g.X b := by
  rcases h with ⟨s, hs⟩ | ⟨s, hs⟩
  · exact .inl ⟨_, hs⟩
  · exact .inr ⟨s, hs⟩

theorem Wf.up (hw : Wf g w bx k) : Wf g.up w (upB bx) k where
  mem := hw.mem
  box := fun s cs ht => by
    obtain ⟨s', cs', rfl, rfl, h3⟩ := get_upB ht
    obtain ⟨b, vs, e, q1, q2, q3, q4, q5⟩ := hw.box s' cs' h3
    refine ⟨b, vs, e, by simp [GS.up, q1], q2, by simpa using q3, fun j c v hc hv => ?_, q5⟩
    rw [List.getElem?_map] at hc
    cases hcj : cs'[j]? with
    | none => simp [hcj] at hc
    | some c0 => simp only [hcj, Option.map_some, Option.some.injEq] at hc; subst hc; exact ⟨(q4 j c0 v hcj hv).1.up, (q4 j c0 v hcj hv).2⟩
  ij := fun t t' b ht ht' => by
    obtain ⟨h1, h2⟩ := up_φ ht; obtain ⟨h3, h4⟩ := up_φ ht'
    have := hw.ij _ _ b h2 h4; omega
  ik := hw.ik
  ap := fun t t' b ht ht' => hw.ap _ t' b (up_φ ht).2 ht'
  ltφ := fun t b ht => hw.ltφ _ b (up_φ ht).2
  ltκ := hw.ltκ
  nφ := fun t b o ht => hw.nφ _ b o (up_φ ht).2
  live := hw.live
  dfr := hw.dfr
  dnd := hw.dnd
  dX := fun j hj hx => hw.dX j hj (up_X hx)
theorem Wf.down (hw : Wf g w bx k) : Wf g.down w (downB bx) k where
  mem := hw.mem
  box := fun s cs ht => by
    obtain ⟨cs', rfl, h3⟩ := get_downB ht
    obtain ⟨b, vs, e, q1, q2, q3, q4, q5⟩ := hw.box _ cs' h3
    refine ⟨b, vs, e, q1, q2, by simpa using q3, fun j c v hc hv => ?_, q5⟩
    rw [List.getElem?_map] at hc
    cases hcj : cs'[j]? with
    | none => simp [hcj] at hc
    | some c0 => simp only [hcj, Option.map_some, Option.some.injEq] at hc; subst hc; exact ⟨(q4 j c0 v hcj hv).1.down, (q4 j c0 v hcj hv).2⟩
  ij := fun t t' b ht ht' => by have := hw.ij _ _ b ht ht'; omega
  ik := hw.ik
  ap := fun t t' b ht ht' => hw.ap _ t' b ht ht'
  ltφ := fun t b ht => hw.ltφ _ b ht
  ltκ := hw.ltκ
  nφ := fun t b o ht => hw.nφ _ b o ht
  live := hw.live
  dfr := hw.dfr
  dnd := hw.dnd
  dX := fun j hj hx => hw.dX j hj (down_X hx)

/-- What stays whatever a run makes. -/
def TV.pers : TV → Bool
  | .v _ => true
  | .loc s _ => Nat.ble 1000000 s
  | .undef => true
  | .tup [] => true
  | _ => false
def persT : List (Nat × TV) → Bool
  | [] => true
  | (_, x) :: l => x.pers && persT l
theorem persT_get {x : TV} {t : Nat} : ∀ {l : List (Nat × TV)}, persT l = true → get t l = some x → x.pers = true
  | [], _, h => by simp [get] at h
  | (m, y) :: l, hp, h => by
    simp only [persT, Bool.and_eq_true] at hp
    simp only [get] at h
    cases hm : t == m
    · simp only [hm, cond_false] at h; exact persT_get hp.2 h
    · simp only [hm, cond_true, Option.some.injEq] at h; subst h; exact hp.1
theorem RT.pers (h : RT g w x v) (hp : x.pers = true) (hM : MLe g.M g'.M) (hφ : ∀ s b, s ≥ 1000000 → g.φ s = some b → g'.φ s = some b) : RT g' w' x v := by
  cases h with
  | undef => exact .undef _
  | v a _ h => exact .v a _ (h.mono hM)
  | loc s off b h => exact .loc s off b (hφ s b (Nat.le_of_ble_eq_true hp) h)
  | ap sz xs s x h hk => simp [TV.pers] at hp
  | fn f cs vs hn h => simp [TV.pers] at hp
  | tup cs vs hn h =>
    cases cs with
    | nil => exact .tup [] vs hn fun j c v hc => by simp at hc
    | cons c cs => simp [TV.pers] at hp
  | mp s b q x h hx => simp [TV.pers] at hp

/-- Values, read in line. -/
def ArgsR (M : Mem) (as : List AV) (vs : Array Value) : Prop := as.length = vs.size ∧ ∀ (j : Nat) x v, as[j]? = some x → vs[j]? = some v → R M x v

/-- What the caller of an iterator holds between its rounds: it abides whatever the iterator makes of its own blocks and of new ones. y: how many rounds there were (none: one has left); U: the iterator's own blocks; N: the memory that it knows. -/
structure Stab (J : Option Nat → (Nat → Prop) → Mem → World → Prop) : Prop where
  st : ∀ y U N W W' N', J y U N W → (∀ j, j < W.heap.size → ¬ U j → W'.heap[j]? = W.heap[j]?) → W.heap.size ≤ W'.heap.size → W'.os = W.os → W'.tape = W.tape → W'.output = W.output →
    MLe N N' → MemOk N' W' → (∀ b o v, N' b o = some v → N b o = some v ∨ U b ∨ W.heap.size ≤ b) → J y (fun b => U b ∨ (W.heap.size ≤ b ∧ b < W'.heap.size)) N' W'
  lt : ∀ y U N W b, J y U N W → U b → b < W.heap.size
  ok : ∀ y U N W, J y U N W → MemOk N W

/-- An iterator's contract: it tells these, in order, while it is told to go on. -/
def IC (P : Program) (f : FuncId) (caps : List AV) (xs : List (List AV)) : Prop :=
  (∀ args w, (callFunc f args).run P w = .ok (.enter f args) w) ∧
  ∀ (M : Mem) (w : World) (lb : Array Value), MemOk M w → ArgsR M caps lb →
  ∀ (l : Nat) (J : Option Nat → (Nat → Prop) → Mem → World → Prop), Stab J →
    (∀ k U N W args, (h : k < xs.length) → J (some k) U N W → ArgsR N xs[k] args →
      YieldAt Fence.wide 0 P l args W fun e W' => (∀ b, U b → W'.heap[b]? = W.heap[b]?) ∧ W.heap.size ≤ W'.heap.size ∧ W'.os = W.os ∧ W'.tape = W.tape ∧ W'.output = W.output ∧
        ((e = .returned (.bool true) ∧ J (some (k + 1)) U N W') ∨ (e = .returned (.bool false) ∧ J none U N W'))) →
    J (some 0) (fun _ => False) M w →
    CallsIn Fence.wide 0 P f (#[.func (.yield l) #[] #[]] ++ lb) w fun e W' => (∃ v, e = .returned v) ∧ ∃ U N, J (some xs.length) U N W' ∨ J none U N W'

def setPs : List Tmp → List AV → List (Nat × TV) → List (Nat × TV)
  | p :: ps, x :: xs, t => setPs ps xs ((p, .v x) :: t)
  | _, _, t => t
theorem setPs_ok {n : Nat} : ∀ {ps : List Tmp} {as : List AV} {vs : List Value} {T : List (Nat × TV)} {tm : Array Value}, (∀ p ∈ ps, p < n) → as.length = vs.length → (∀ (j : Nat) x v, as[j]? = some x → vs[j]? = some v → R g.M x v) → tm.size = n →
    (∀ t x, get t T = some x → t < n ∧ RT g w x (tm.getD t undef)) →
    ((ps.zip vs).foldl (fun t p => t.setIfInBounds p.1 p.2) tm).size = n ∧ ∀ t x, get t (setPs ps as T) = some x → t < n ∧ RT g w x (((ps.zip vs).foldl (fun t p => t.setIfInBounds p.1 p.2) tm).getD t undef)
  | [], as, vs, T, tm, _, _, _, hs, h => ⟨hs, by simpa [setPs] using h⟩
  | p :: ps, [], vs, T, tm, _, hl, _, hs, h => by
    have : vs = [] := List.eq_nil_of_length_eq_zero hl.symm
    subst this
    exact ⟨hs, by simpa [setPs] using h⟩
  | p :: ps, x :: as, [], T, tm, _, hl, _, hs, h => by simp at hl
  | p :: ps, x :: as, v :: vs, T, tm, hp, hl, hR, hs, h => by
    simp only [List.zip_cons_cons, List.foldl_cons, setPs]
    refine setPs_ok (fun q hq => hp q (List.mem_cons_of_mem _ hq)) (by simpa using hl) (fun j y u hy hu => hR (j + 1) y u (by simpa using hy) (by simpa using hu)) (by simpa using hs) fun t y ht => ?_
    simp only [get] at ht
    have hpn := hp p (by simp)
    cases hm : t == p
    · simp only [hm, cond_false] at ht
      simp only [beq_eq_false_iff_ne] at hm
      refine ⟨(h t y ht).1, ?_⟩
      have := (h t y ht).2
      rw [Array.getD_eq_getD_getElem?, Array.getElem?_setIfInBounds_ne (by omega), ← Array.getD_eq_getD_getElem?]
      exact this
    · simp only [hm, cond_true, Option.some.injEq] at ht
      simp only [beq_iff_eq] at hm
      subst ht; subst hm
      refine ⟨hpn, ?_⟩
      rw [Array.getD_eq_getD_getElem?, Array.getElem?_setIfInBounds_self_of_lt (by rw [hs]; exact hpn)]
      exact .v _ _ (hR 0 x v rfl rfl)
end
end Go.Proofs.Ytekdlkjonihglaa.AL
