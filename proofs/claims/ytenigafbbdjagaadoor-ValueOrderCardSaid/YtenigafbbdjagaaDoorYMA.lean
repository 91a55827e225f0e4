/- An abstract program logic: merged texts. -/
import Derived.OrdersIn
import Derived.WalkKit
import Derived.Deep.AppendSrc
import Derived.Laws.AppendOwn
import Derived.Below
import Derived.Laws.StructEq
import Derived.Laws.Strings
import Derived.Tactics
import Derived.Deep.MidRow
/- The package variables that stay as they were laid: tables; variables that hold an error. -/
namespace Go.Proofs.YtenigafbbdjagaaDoor.AL
open Go
def pow10 : List Int := [1, 10, 100, 1000, 10000, 100000, 1000000, 10000000, 100000000, 1000000000, 10000000000, 100000000000, 1000000000000, 10000000000000, 100000000000000, 1000000000000000, 10000000000000000, 100000000000000000, 1000000000000000000, 10000000000000000000]
def tabs : List (Nat × List Value) := [(2, pow10.map (.int .u64))]
def errs : List Nat := [0, 1]
end Go.Proofs.YtenigafbbdjagaaDoor.AL

/- The abstract states of a run of Go code: values without memory, pointers into the run's own variables, slices that may be appended to; and how they stand to the machine's values and memory. -/
namespace Go.Proofs.YtenigafbbdjagaaDoor.AL
open Go Go.RowKit
set_option linter.unusedVariables false
set_option linter.unusedSimpArgs false

/-- A value without memory. -/
inductive AV where
  | bool (b : Bool)
  | int (k : IntKind) (n : Int)
  | str (s : List UInt8)
  | sl (sz : Nat) (xs : List AV)
  | agg (cs : List AV)
  | fn (f : FuncId) (cs : List AV)
  | ro (cs : List AV)
  | nilF | nilP | nilI
  | iface (t : TypeId) (v : AV)
  | yld (l : Nat)
  | val (v : Value)
  | any

def AV.cells : AV → List AV
  | .agg cs => cs
  | v => [v]

def flat (xs : List AV) : List AV := xs.flatMap AV.cells

abbrev Mem := Nat → Nat → Option Value

/-- A value of the machine reads as a value without memory, out of memory that never turns again. -/
inductive R (M : Mem) : AV → Value → Prop
  | bool (b : Bool) : R M (.bool b) (.bool b)
  | int (k : IntKind) (n : Int) : R M (.int k n) (.int k n)
  | str (s : List UInt8) : R M (.str s) (.string ⟨s.toArray⟩)
  | slN (sz : Nat) : R M (.sl sz []) (.slice none 0 0)
  | slE (sz : Nat) (a : Addr) (cap : Nat) (hmax : cap ≤ maxLen) : R M (.sl sz []) (.slice (some a) 0 cap)
  | sl (b off sz : Nat) (xs : List AV) (len cap : Nat) (vs : Nat → Value) (hl : len = xs.length) (hcap : len ≤ cap) (hmax : cap ≤ maxLen) (hsz : ∀ x ∈ xs, x.cells.length = sz)
      (hM : ∀ j c, (flat xs)[j]? = some c → M b (off + j) = some (vs j)) (hR : ∀ j c, (flat xs)[j]? = some c → R M c (vs j)) : R M (.sl sz xs) (.slice (some ⟨b, off, none⟩) len cap)
  | agg (cs : List AV) (vs : Array Value) (hn : cs.length = vs.size) (h1 : ∀ (j : Nat) v, vs[j]? = some v → v.oneCell' = true) (h : ∀ (j : Nat) c v, cs[j]? = some c → vs[j]? = some v → R M c v) : R M (.agg cs) (.agg vs)
  | fn (f : FuncId) (cs : List AV) (vs : Array Value) (hn : cs.length = vs.size) (h : ∀ (j : Nat) c v, cs[j]? = some c → vs[j]? = some v → R M c v) : R M (.fn f cs) (.func (.func f) #[] vs)
  | ro (cs : List AV) (b off : Nat) (vs : Nat → Value) (hM : ∀ j c, cs[j]? = some c → M b (off + j) = some (vs j)) (hR : ∀ j c, cs[j]? = some c → R M c (vs j)) : R M (.ro cs) (.pointer (some ⟨b, off, none⟩))
  | nilF : R M .nilF .nilFunc
  | nilP : R M .nilP (.pointer none)
  | nilI : R M .nilI .nilIface
  | iface (t : TypeId) (a : AV) (v : Value) (h : R M a v) : R M (.iface t a) (.iface t v)
  | yld (l : Nat) : R M (.yld l) (.func (.yield l) #[] #[])
  | val (v : Value) (hc : v.cells = #[v]) (h1 : v.oneCell' = true) : R M (.val v) v
  | any (v : Value) (hc : v.cells = #[v]) (h1 : v.oneCell' = true) : R M .any v

def MLe (M M' : Mem) : Prop := ∀ b o v, M b o = some v → M' b o = some v
theorem MLe.refl (M : Mem) : MLe M M := fun _ _ _ h => h
theorem MLe.trans {A B C : Mem} (h : MLe A B) (k : MLe B C) : MLe A C := fun b o v hv => k b o v (h b o v hv)

theorem R.mono {M M' : Mem} (hM : MLe M M') {a : AV} {v : Value} (h : R M a v) : R M' a v := by
  induction h with
  | bool b => exact .bool b
  | int k n => exact .int k n
  | str s => exact .str s
  | slN sz => exact .slN sz
  | slE sz a cap hmax => exact .slE sz a cap hmax
  | sl b off sz xs len cap vs hl hcap hmax hsz hM' hR ih => exact .sl b off sz xs len cap vs hl hcap hmax hsz (fun j c hj => hM _ _ _ (hM' j c hj)) ih
  | agg cs vs hn h1 h ih => exact .agg cs vs hn h1 ih
  | fn f cs vs hn h ih => exact .fn f cs vs hn ih
  | ro cs b off vs hM' hR ih => exact .ro cs b off vs (fun j c hj => hM _ _ _ (hM' j c hj)) ih
  | nilF => exact .nilF
  | nilP => exact .nilP
  | nilI => exact .nilI
  | iface t a v h ih => exact .iface t a v ih
  | yld l => exact .yld l
  | val v hc h1 => exact .val v hc h1
  | any v hc h1 => exact .any v hc h1

/-- What a slot, or a cell of a variable of the run's own, may hold. -/
inductive TV where
  | undef
  | v (a : AV)
  | loc (s off : Nat)
  | ap (sz : Nat) (xs : List AV) (s : Nat)
  | fn (f : FuncId) (cs : List TV)
  | tup (vs : List TV)
  | mp (s : Nat) (q : Option (Nat × Nat × Nat × Nat))
  | it (s : Nat) (str : List UInt8) (pos : Nat)

/-- What a run knows of memory: what never turns again; where its variables lie; which slices it may append to. -/
structure GS where
  M : Mem
  φ : Nat → Option Nat
  κ : Nat → Option (Option Nat)
  D : List Nat

/-- A mark among an activation's deferred calls: the block of a range's rounds. -/
def mkD (j : Nat) : Deferred := { target := .collected j, args := #[] }

/-- A slice that may be appended to: nobody else looks behind its length. -/
def Tok (M : Mem) (w : World) (ob : Option Nat) (sz n : Nat) (x : Value) : Prop :=
  match ob with
  | none => x = .slice none 0 0
  | some b => ∃ cap cur e, x = .slice (some ⟨b, 0, none⟩) n cap ∧ w.heap[b]? = some (.cells cur e (0, 0)) ∧ cur.size = cap * sz ∧ ∀ o, n * sz ≤ o → M b o = none

/-- What stands for a block of the run's own: a map, or a slice of its cells (cells of an element, from which cell on, length, capacity). -/
inductive Shp (b : Nat) : Option (Nat × Nat × Nat × Nat) → Value → Prop
  | map : Shp b none (.map (some b))
  | sl (sz off n cap : Nat) (h : n ≤ cap) (hm : cap ≤ maxLen) : Shp b (some (sz, off, n, cap)) (.slice (some ⟨b, off, none⟩) n cap)

/-- A string's iterator, of the run's own. -/
def ItAt (w : World) (ob : Option Nat) (str : List UInt8) (pos : Nat) (x : Value) : Prop :=
  ∃ b, ob = some b ∧ x = .pointer (some ⟨b, 0, none⟩) ∧ w.heap[b]? = some (.stringIter ⟨str.toArray⟩ pos)

inductive RT (g : GS) (w : World) : TV → Value → Prop
  | undef (x : Value) : RT g w .undef x
  | v (a : AV) (x : Value) (h : R g.M a x) : RT g w (.v a) x
  | loc (s off b : Nat) (h : g.φ s = some b) : RT g w (.loc s off) (.pointer (some ⟨b, off, none⟩))
  | ap (sz : Nat) (xs : List AV) (s : Nat) (x : Value) (h : R g.M (.sl sz xs) x) (hk : ∀ ob, g.κ s = some ob → Tok g.M w ob sz xs.length x) : RT g w (.ap sz xs s) x
  | fn (f : FuncId) (cs : List TV) (vs : Array Value) (hn : cs.length = vs.size) (h : ∀ (j : Nat) c v, cs[j]? = some c → vs[j]? = some v → RT g w c v) : RT g w (.fn f cs) (.func (.func f) #[] vs)
  | tup (cs : List TV) (vs : Array Value) (hn : cs.length = vs.size) (h : ∀ (j : Nat) c v, cs[j]? = some c → vs[j]? = some v → RT g w c v) : RT g w (.tup cs) (.tuple vs)
  | mp (s b : Nat) (q : Option (Nat × Nat × Nat × Nat)) (x : Value) (h : g.φ s = some b) (hx : Shp b q x) : RT g w (.mp s q) x
  | it (s : Nat) (str : List UInt8) (pos : Nat) (x : Value) (hk : ∀ ob, g.κ s = some ob → ItAt w ob str pos x) : RT g w (.it s str pos) x

/-- The blocks that a run may write. -/
def GS.X (g : GS) (b : Nat) : Prop := (∃ s, g.φ s = some b) ∨ (∃ s, g.κ s = some (some b))

/-- What stays from one moment to a later one. -/
structure Ext (g : GS) (w : World) (g' : GS) (w' : World) : Prop where
  M : MLe g.M g'.M
  Mn : ∀ b o v, g'.M b o = some v → g.M b o = some v ∨ w.heap.size ≤ b ∨ g.X b
  φ : ∀ s b, s ≥ 1000000 → g.φ s = some b → g'.φ s = some b
  φn : ∀ s b, g'.φ s = some b → w.heap.size ≤ b ∨ g.X b
  κn : ∀ s b, g'.κ s = some (some b) → w.heap.size ≤ b ∨ g.X b
  heap : ∀ j, j < w.heap.size → ¬ g.X j → w'.heap[j]? = w.heap[j]?
  size : w.heap.size ≤ w'.heap.size
  os : w'.os = w.os
  tape : w'.tape = w.tape
  output : w'.output = w.output
  dn : ∀ j ∈ g'.D, w.heap.size ≤ j ∨ j ∈ g.D

theorem Ext.refl (g : GS) (w : World) : Ext g w g w :=
  ⟨MLe.refl _, fun _ _ _ h => .inl h, fun _ _ _ h => h, fun s b h => .inr (.inl ⟨s, h⟩), fun s b h => .inr (.inr ⟨s, h⟩), fun _ _ _ => rfl, Nat.le_refl _, rfl, rfl, rfl, fun _ h => .inr h⟩

theorem Ext.X {g g' : GS} {w w' : World} (h : Ext g w g' w') {b : Nat} (hb : g'.X b) : w.heap.size ≤ b ∨ g.X b := by
  rcases hb with ⟨s, hs⟩ | ⟨s, hs⟩
  · exact h.φn s b hs
  · exact h.κn s b hs

theorem Ext.trans {g g' g'' : GS} {w w' w'' : World} (h : Ext g w g' w') (k : Ext g' w' g'' w'') : Ext g w g'' w'' where
  M := h.M.trans k.M
  Mn := fun b o v hv => by
    rcases k.Mn b o v hv with h1 | h1 | h1
    · exact h.Mn b o v h1
    · exact .inr (.inl (Nat.le_trans h.size h1))
    · exact .inr (h.X h1)
  φ := fun s b hs hb => k.φ s b hs (h.φ s b hs hb)
  φn := fun s b hb => by
    rcases k.φn s b hb with h1 | h1
    · exact .inl (Nat.le_trans h.size h1)
    · exact h.X h1
  κn := fun s b hb => by
    rcases k.κn s b hb with h1 | h1
    · exact .inl (Nat.le_trans h.size h1)
    · exact h.X h1
  heap := fun j hj hx => by
    rw [k.heap j (Nat.lt_of_lt_of_le hj h.size) (fun hx' => (h.X hx').elim (fun h' => by omega) hx), h.heap j hj hx]
  size := Nat.le_trans h.size k.size
  os := k.os.trans h.os
  tape := k.tape.trans h.tape
  output := k.output.trans h.output
  dn := fun j hj => by
    rcases k.dn j hj with h1 | h1
    · exact .inl (Nat.le_trans h.size h1)
    · exact h.dn j h1

def get {α : Type} (n : Nat) : List (Nat × α) → Option α
  | [] => none
  | (m, x) :: l => bif n == m then some x else get n l

/-- A box's cells in memory. -/
def BoxAt (g : GS) (w : World) (s : Nat) (cs : List TV) : Prop :=
  ∃ b vs e, g.φ s = some b ∧ w.heap[b]? = some (.cells vs e (0, 0)) ∧ cs.length = vs.size ∧
    (∀ (j : Nat) c v, cs[j]? = some c → vs[j]? = some v → RT g w c v ∧ v.oneCell' = true) ∧ ∀ o, g.M b o = none

structure Wf (g : GS) (w : World) (bx : List (Nat × List TV)) (k : List Nat) : Prop where
  mem : ∀ b o v, g.M b o = some v → w.cell? ⟨b, o, none⟩ = some v ∧ v.oneCell' = true
  box : ∀ s cs, get s bx = some cs → BoxAt g w s cs
  ij : ∀ s s' b, g.φ s = some b → g.φ s' = some b → s = s'
  ik : ∀ s s' b, g.κ s = some (some b) → g.κ s' = some (some b) → s = s'
  ap : ∀ s s' b, g.φ s = some b → g.κ s' = some (some b) → False
  ltφ : ∀ s b, g.φ s = some b → b < w.heap.size
  ltκ : ∀ s b, g.κ s = some (some b) → b < w.heap.size
  nφ : ∀ s b o, g.φ s = some b → g.M b o = none
  live : ∀ s, s ∈ k → g.κ s ≠ none
  dfr : ∀ j ∈ g.D, w.heap[j]? = some (.deferred (some []))
  dnd : g.D.Nodup
  dX : ∀ j ∈ g.D, ¬ g.X j

structure AS where
  n : Nat
  t : List (Nat × TV)
  b : List (Nat × List TV)
  k : List Nat

/-- The tables lie in the memory that never turns. -/
def TabM (M : Mem) : Prop := ∀ p ∈ tabs, ∀ (j : Nat) v, p.2[j]? = some v → M p.1 j = some v
theorem TabM.mono {M M' : Mem} (h : TabM M) (hM : MLe M M') : TabM M' := fun p hp j v hv => hM _ _ _ (h p hp j v hv)
/-- The tables' blocks hold just the tables. -/
def TabW (w : World) : Prop := ∀ p ∈ tabs, ∃ e fr, w.heap[p.1]? = some (.cells p.2.toArray e fr)
/-- Variables that hold some error. -/
def ErrM (M : Mem) : Prop := ∀ b ∈ errs, ∃ t p, M b 0 = some (.iface t p)
structure TabP (M : Mem) (w : World) : Prop where
  m : TabM M
  e : ErrM M
  w : TabW w
structure E0 where
  g : GS
  w : World
  tab : TabP g.M w
  tx : ∀ p ∈ tabs, ¬ g.X p.1
theorem E0.tabAt (E : E0) {g' : GS} {w' : World} (h : Ext E.g E.w g' w') : TabP g'.M w' :=
  ⟨E.tab.m.mono h.M, fun b hb => by obtain ⟨t, p, hp⟩ := E.tab.e b hb; exact ⟨t, p, h.M _ _ _ hp⟩, fun p hp => by
    obtain ⟨e, fr, he⟩ := E.tab.w p hp
    exact ⟨e, fr, by rw [h.heap p.1 (Array.getElem?_eq_some_iff.1 he).1 (E.tx p hp)]; exact he⟩⟩

def Tmps (g : GS) (w : World) (σ : AS) (a : Act) : Prop :=
  a.defers = g.D.map mkD ∧ a.tmps.size = σ.n ∧ (∀ t x, get t σ.t = some x → t < σ.n ∧ RT g w x (a.tmps.getD t undef)) ∧ g.κ 999999 = some none

def Rel (E : E0) (σ : AS) (a : Act) (w : World) : Prop :=
  ∃ g, Wf g w σ.b σ.k ∧ Tmps g w σ a ∧ Ext E.g E.w g w

/-- What a value reads as, stays, if what it looks at stays. -/
theorem RT.keep {g g' : GS} {w w' : World} (hM : MLe g.M g'.M) (hφ : ∀ s b, g.φ s = some b → g'.φ s = some b)
    (hκ : ∀ s ob, g'.κ s = some ob → g.κ s = some ob ∧ ∀ b, ob = some b → w'.heap[b]? = w.heap[b]? ∧ ∀ o, g.M b o = none → g'.M b o = none)
    {x : TV} {v : Value} (h : RT g w x v) : RT g' w' x v := by
  induction h with
  | undef x => exact .undef x
  | v a x h => exact .v a x (h.mono hM)
  | loc s off b h => exact .loc s off b (hφ s b h)
  | ap sz xs s x h hk =>
    refine .ap sz xs s x (h.mono hM) fun ob hob => ?_
    obtain ⟨h1, h2⟩ := hκ s ob hob
    have h3 := hk ob h1
    cases ob with
    | none => exact h3
    | some b =>
      obtain ⟨cap, cur, e, q1, q2, q3, q4⟩ := h3
      obtain ⟨r1, r2⟩ := h2 b rfl
      exact ⟨cap, cur, e, q1, by rw [r1]; exact q2, q3, fun o ho => r2 o (q4 o ho)⟩
  | fn f cs vs hn h ih => exact .fn f cs vs hn ih
  | tup cs vs hn h ih => exact .tup cs vs hn ih
  | mp s b q x h hx => exact .mp s b q x (hφ s b h) hx
  | it s str pos x hk =>
    refine .it s str pos x fun ob hob => ?_
    obtain ⟨h1, h2⟩ := hκ s ob hob
    obtain ⟨b, q1, q2, q3⟩ := hk ob h1
    exact ⟨b, q1, q2, by rw [(h2 b q1).1]; exact q3⟩

def Fw (ro : Option Nat) : Fence := { Fence.wide with round := ro }

/-- Within a round: the loop's record lies where it lay, apart from all that the run may write. -/
def LoopOk (ro : Option Nat) (E : E0) : Prop := ∀ l, ro = some l → (∃ r, E.w.heap[l]? = some (.loop r)) ∧ ¬ E.g.X l

/-- A piece of code leads an abstract state to what Q tells. -/
def Tri (P : Program) (ro : Option Nat) (n : Nat) (c : Code) (σ : AS) (Q : Exit → AS → Prop) : Prop :=
  ∀ E, LoopOk ro E → ∀ a w, Rel E σ a w → c.wpIn (Fw ro) n P (fun e a' w' => ∃ σ', Q e σ' ∧ Rel E σ' a' w') a w

section
variable {P : Program} {ro : Option Nat} {n : Nat} {σ : AS} {Q : Exit → AS → Prop}

theorem Tri.mono {c : Code} {Q' : Exit → AS → Prop} (h : Tri P ro n c σ Q) (hq : ∀ e s, Q e s → Q' e s) : Tri P ro n c σ Q' :=
  fun E hE a w hr => wpIn_mono (h E hE a w hr) fun e a' w' ⟨σ', q, r⟩ => ⟨σ', hq _ _ q, r⟩

theorem tri_skip (h : Q .normal σ) : Tri P ro n .skip σ Q := fun E hE a w hr => wpIn_skip ⟨σ, h, hr⟩
theorem tri_exit {id : Nat} (h : Q (.exit id) σ) : Tri P ro n (.exit id) σ Q := fun E hE a w hr => wpIn_exit ⟨σ, h, hr⟩
theorem tri_ret (h : Q .ret σ) : Tri P ro n .ret σ Q := fun E hE a w hr => wpIn_ret ⟨σ, h, hr⟩
theorem tri_goto {l : Nat} (h : Q (.goto l) σ) : Tri P ro n (.goto l) σ Q := fun E hE a w hr => wpIn_goto ⟨σ, h, hr⟩
theorem tri_label {l : Nat} (h : Q .normal σ) : Tri P ro n (.label l) σ Q := fun E hE a w hr => wpIn_label ⟨σ, h, hr⟩

def thenQ (K : AS → Prop) (Q : Exit → AS → Prop) : Exit → AS → Prop
  | .normal, s => K s
  | e, s => Q e s

theorem tri_seq {x y : Code} (h : ∀ K : AS → Prop, (∀ s, Tri P ro n y s Q → K s) → Tri P ro n x σ (thenQ K Q)) : Tri P ro n (.seq x y) σ Q := by
  intro E hE a w hr
  refine wpIn_seq (wpIn_mono (h (fun s => Tri P ro n y s Q) (fun s hs => hs) E hE a w hr) ?_)
  rintro e a' w' ⟨σ', q, r⟩
  cases e <;> first | exact q E hE a' w' r | exact ⟨σ', q, r⟩

def blockQ (id : Nat) (Q : Exit → AS → Prop) : Exit → AS → Prop
  | .exit id', s => if id' = id then Q .normal s else Q (.exit id') s
  | e, s => Q e s

theorem tri_block {id : Nat} {c : Code} (h : Tri P ro n c σ (blockQ id Q)) : Tri P ro n (.block id c) σ Q := by
  intro E hE a w hr
  refine wpIn_block (wpIn_mono (h E hE a w hr) ?_)
  rintro e a' w' ⟨σ', q, r⟩
  cases e with
  | exit id' =>
    simp only [Exit.inBlock, blockQ] at q ⊢
    split
    · rename_i hid; rw [if_pos hid] at q; exact ⟨σ', q, r⟩
    · rename_i hid; rw [if_neg hid] at q; exact ⟨σ', q, r⟩
  | _ => exact ⟨σ', q, r⟩

/-- A loop: a relation between its states and what is left to do. -/
theorem tri_loop {c : Code} (I : Nat → AS → Prop) (m : Nat) (h0 : I m σ)
    (round : ∀ m s, I m s → Tri P ro n c s (thenQ (fun s' => ∃ m', m' < m ∧ I m' s') Q)) : Tri P ro n (.loop c) σ Q := by
  intro E hE a w hr b k cs hro hb hroom
  have key : ∀ j a w, (∃ s, I j s ∧ Rel E s a w) →
      ∃ e a' w', (∃ σ', Q e σ' ∧ Rel E σ' a' w') ∧ ArrivesIn (Machine.fenced P (Fw ro)) P (lone (b.atR a (.code c :: .inLoop c :: k)) cs w) b k cs e a' w' := by
    intro j
    induction j using Nat.strongRecOn with
    | _ j ih =>
      rintro a w ⟨s, hI, hr⟩
      obtain ⟨e, a₁, w₁, ⟨σ', hq, hr'⟩, harr⟩ := round j s hI E hE a w hr b (.inLoop c :: k) cs hro hb hroom
      cases e with
      | normal =>
        obtain ⟨m', hlt, hI₁⟩ := hq
        obtain ⟨e₂, a₂, w₂, hq₂, harr₂⟩ := ih m' hlt a₁ w₁ ⟨σ', hI₁, hr'⟩
        exact ⟨e₂, a₂, w₂, hq₂, .of_steps (StepsIn.trans harr (.one (fenced_calm hb hroom rfl) stepR_inLoop)) harr₂⟩
      | exit id => exact ⟨_, a₁, w₁, ⟨σ', hq, hr'⟩, .pass (x := .inLoop c) rfl (fun _ _ => .inl (by simp)) harr⟩
      | goto l => exact ⟨_, a₁, w₁, ⟨σ', hq, hr'⟩, .pass (x := .inLoop c) rfl (fun _ _ => .inl (by simp)) harr⟩
      | ret => exact ⟨_, a₁, w₁, ⟨σ', hq, hr'⟩, .pass (x := .inLoop c) rfl (fun _ _ => .inl (by simp)) harr⟩
      | panic ch => exact ⟨_, a₁, w₁, ⟨σ', hq, hr'⟩, .pass (x := .inLoop c) rfl (fun _ _ => .inl (by simp)) harr⟩
      | outgrown => exact ⟨_, a₁, w₁, ⟨σ', hq, hr'⟩, .pass (x := .inLoop c) rfl (fun _ _ => .inl (by simp)) harr⟩
  obtain ⟨e, a', w', hq, harr⟩ := key _ a w ⟨σ, h0, hr⟩
  exact ⟨e, a', w', hq, .of_steps (.one (fenced_calm hb hroom rfl) stepR_loop) harr⟩
end
end Go.Proofs.YtenigafbbdjagaaDoor.AL

/- How memory may turn, and what an abstract state is behind it: a new variable, a new slice, a store, an append. -/
namespace Go.Proofs.YtenigafbbdjagaaDoor.AL
open Go Go.RowKit
set_option linter.unusedVariables false
set_option linter.unusedSimpArgs false

mutual
def TV.kill (s : Nat) : TV → TV
  | .undef => .undef
  | .v a => .v a
  | .loc s' o => bif s' == s then .undef else .loc s' o
  | .ap sz xs s' => bif s' == s then .v (.sl sz xs) else .ap sz xs s'
  | .fn f cs => .fn f (killL s cs)
  | .tup cs => .tup (killL s cs)
  | .mp s' q => bif s' == s then .undef else .mp s' q
  | .it s' str p => bif s' == s then .undef else .it s' str p
def killL (s : Nat) : List TV → List TV
  | [] => []
  | x :: l => x.kill s :: killL s l
end
theorem killL_map (s : Nat) (l : List TV) : killL s l = l.map (TV.kill s) := by
  induction l with
  | nil => rfl
  | cons x l ih => simp [killL, ih]

def killT (s : Nat) : List (Nat × TV) → List (Nat × TV)
  | [] => []
  | (m, x) :: l => (m, x.kill s) :: killT s l
def killB (s : Nat) : List (Nat × List TV) → List (Nat × List TV)
  | [] => []
  | (m, x) :: l => bif m == s then killB s l else (m, killL s x) :: killB s l
def killK (s : Nat) : List Nat → List Nat
  | [] => []
  | m :: l => bif m == s then killK s l else m :: killK s l

theorem get_killT (s t : Nat) (l : List (Nat × TV)) : get t (killT s l) = (get t l).map (TV.kill s) := by
  induction l with
  | nil => rfl
  | cons p l ih =>
    obtain ⟨m, x⟩ := p
    simp only [killT, get]
    cases h : t == m <;> simp [ih]
theorem get_killB (s t : Nat) (l : List (Nat × List TV)) (cs' : List TV) (h : get t (killB s l) = some cs') : t ≠ s ∧ ∃ cs, get t l = some cs ∧ cs' = cs.map (TV.kill s) := by
  induction l with
  | nil => simp [killB, get] at h
  | cons p l ih =>
    obtain ⟨m, x⟩ := p
    simp only [killB, get] at h ⊢
    cases hm : m == s
    · simp only [hm, cond_false, get] at h
      cases ht : t == m
      · simp only [ht, cond_false] at h ⊢
        exact ih h
      · simp only [ht, cond_true, Option.some.injEq] at h ⊢
        simp only [beq_iff_eq, beq_eq_false_iff_ne] at ht hm
        exact ⟨by rw [ht]; exact hm, x, rfl, by rw [← h, killL_map]⟩
    · simp only [hm, cond_true] at h
      obtain ⟨h1, cs, h2, h3⟩ := ih h
      simp only [beq_iff_eq] at hm
      refine ⟨h1, cs, ?_, h3⟩
      have : (t == m) = false := by simp only [beq_eq_false_iff_ne]; rw [hm]; exact h1
      rw [this, cond_false]
      exact h2
theorem mem_killK (s t : Nat) (l : List Nat) (h : t ∈ killK s l) : t ≠ s ∧ t ∈ l := by
  induction l with
  | nil => simp [killK] at h
  | cons m l ih =>
    simp only [killK] at h
    cases hm : m == s
    · simp only [hm, cond_false, List.mem_cons] at h
      simp only [beq_eq_false_iff_ne] at hm
      rcases h with rfl | h
      · exact ⟨hm, by simp⟩
      · exact ⟨(ih h).1, by simp [(ih h).2]⟩
    · simp only [hm, cond_true] at h
      exact ⟨(ih h).1, by simp [(ih h).2]⟩

def GS.drop (g : GS) (s : Nat) : GS := { g with φ := fun t => if t = s then none else g.φ t, κ := fun t => if t = s then none else g.κ t }
def GS.dropK (g : GS) (s : Nat) : GS := { g with κ := fun t => if t = s then none else g.κ t }

theorem drop_φ {g : GS} {s t b : Nat} (h : (g.drop s).φ t = some b) : t ≠ s ∧ g.φ t = some b := by
  simp only [GS.drop] at h; split at h <;> simp_all
theorem drop_κ {g : GS} {s t : Nat} {ob : Option Nat} (h : (g.drop s).κ t = some ob) : t ≠ s ∧ g.κ t = some ob := by
  simp only [GS.drop] at h; split at h <;> simp_all
theorem dropK_κ {g : GS} {s t : Nat} {ob : Option Nat} (h : (g.dropK s).κ t = some ob) : t ≠ s ∧ g.κ t = some ob := by
  simp only [GS.dropK] at h; split at h <;> simp_all

theorem getElem?_killL {s : Nat} {cs : List TV} {j : Nat} {c : TV} (h : (killL s cs)[j]? = some c) : ∃ c0, cs[j]? = some c0 ∧ c = c0.kill s := by
  rw [killL_map, List.getElem?_map] at h
  cases hcj : cs[j]? with
  | none => simp [hcj] at h
  | some c0 => simp only [hcj, Option.map_some, Option.some.injEq] at h; exact ⟨c0, rfl, h.symm⟩

/-- What a slot says stays, but for what it says of the place s, which is new. -/
theorem RT.keepK {g g' : GS} {w w' : World} {s : Nat} (hM : MLe g.M g'.M) (hφ : ∀ t b, t ≠ s → g.φ t = some b → g'.φ t = some b)
    (hκ : ∀ t ob, t ≠ s → g'.κ t = some ob → g.κ t = some ob ∧ ∀ b, ob = some b → w'.heap[b]? = w.heap[b]? ∧ ∀ o, g.M b o = none → g'.M b o = none)
    {x : TV} {v : Value} (h : RT g w x v) : RT g' w' (x.kill s) v := by
  induction h with
  | undef x => exact .undef x
  | v a x h => exact .v a x (h.mono hM)
  | loc s' off b h =>
    simp only [TV.kill]
    cases hs : s' == s
    · simp only [beq_eq_false_iff_ne] at hs
      exact .loc s' off b (hφ s' b hs h)
    · exact .undef _
  | ap sz xs s' x h hk =>
    simp only [TV.kill]
    cases hs : s' == s
    · simp only [beq_eq_false_iff_ne] at hs
      refine .ap sz xs s' x (h.mono hM) fun ob hob => ?_
      obtain ⟨h1, h2⟩ := hκ s' ob hs hob
      have h3 := hk ob h1
      cases ob with
      | none => exact h3
      | some b =>
        obtain ⟨cap, cur, e, q1, q2, q3, q4⟩ := h3
        obtain ⟨r1, r2⟩ := h2 b rfl
        exact ⟨cap, cur, e, q1, by rw [r1]; exact q2, q3, fun o ho => r2 o (q4 o ho)⟩
    · exact .v _ x (h.mono hM)
  | fn f cs vs hn h ih =>
    simp only [TV.kill]
    refine .fn f _ vs (by simpa [killL_map] using hn) fun j c v hc hv => ?_
    obtain ⟨c0, h0, rfl⟩ := getElem?_killL hc
    exact ih j c0 v h0 hv
  | tup cs vs hn h ih =>
    simp only [TV.kill]
    refine .tup _ vs (by simpa [killL_map] using hn) fun j c v hc hv => ?_
    obtain ⟨c0, h0, rfl⟩ := getElem?_killL hc
    exact ih j c0 v h0 hv
  | mp s' b q x h hx =>
    simp only [TV.kill]
    cases hs : s' == s
    · simp only [beq_eq_false_iff_ne] at hs
      exact .mp s' b q x (hφ s' b hs h) hx
    · exact .undef _
  | it s' str pos x hk =>
    simp only [TV.kill]
    cases hs : s' == s
    · simp only [beq_eq_false_iff_ne] at hs
      refine .it s' str pos x fun ob hob => ?_
      obtain ⟨h1, h2⟩ := hκ s' ob hs hob
      obtain ⟨b, q1, q2, q3⟩ := hk ob h1
      exact ⟨b, q1, q2, by rw [(h2 b q1).1]; exact q3⟩
    · exact .undef _

theorem RT.kill {g : GS} {w : World} {s : Nat} {x : TV} {v : Value} (h : RT g w x v) : RT (g.drop s) w (x.kill s) v :=
  RT.keepK (g := g) (g' := g.drop s) (w := w) (fun _ _ _ h => h) (fun t b ht hb => by simp [GS.drop, ht, hb]) (fun t ob ht hob => ⟨(drop_κ hob).2, fun _ _ => ⟨rfl, fun _ h => h⟩⟩) h

theorem Wf.drop {g : GS} {w : World} {bx : List (Nat × List TV)} {k : List Nat} (h : Wf g w bx k) (s : Nat) : Wf (g.drop s) w (killB s bx) (killK s k) where
  mem := h.mem
  box := fun t cs' ht => by
    obtain ⟨h1, cs, h2, rfl⟩ := get_killB s t bx cs' ht
    obtain ⟨b, vs, e, q1, q2, q3, q4, q5⟩ := h.box t cs h2
    refine ⟨b, vs, e, by simp [GS.drop, h1, q1], q2, by simpa using q3, fun j c v hc hv => ?_, q5⟩
    rw [List.getElem?_map] at hc
    cases hcj : cs[j]? with
    | none => simp [hcj] at hc
    | some c0 => simp only [hcj, Option.map_some, Option.some.injEq] at hc; subst hc; exact ⟨(q4 j c0 v hcj hv).1.kill, (q4 j c0 v hcj hv).2⟩
  ij := fun t t' b ht ht' => h.ij t t' b (drop_φ ht).2 (drop_φ ht').2
  ik := fun t t' b ht ht' => h.ik t t' b (drop_κ ht).2 (drop_κ ht').2
  ap := fun t t' b ht ht' => h.ap t t' b (drop_φ ht).2 (drop_κ ht').2
  ltφ := fun t b ht => h.ltφ t b (drop_φ ht).2
  ltκ := fun t b ht => h.ltκ t b (drop_κ ht).2
  nφ := fun t b o ht => h.nφ t b o (drop_φ ht).2
  live := fun t ht => by
    obtain ⟨h1, h2⟩ := mem_killK s t k ht
    simpa [GS.drop, h1] using h.live t h2
  dfr := h.dfr
  dnd := h.dnd
  dX := fun j hj hx => h.dX j hj (by
    rcases hx with ⟨t, ht⟩ | ⟨t, ht⟩
    · exact .inl ⟨t, (drop_φ ht).2⟩
    · exact .inr ⟨t, (drop_κ ht).2⟩)

theorem Ext.drop {g g' : GS} {w w' : World} (h : Ext g w g' w') {s : Nat} (hs : s < 1000000) : Ext g w (g'.drop s) w' where
  M := h.M
  Mn := h.Mn
  φ := fun t b ht hb => by simp only [GS.drop]; rw [if_neg (by omega)]; exact h.φ t b ht hb
  φn := fun t b ht => h.φn t b (drop_φ ht).2
  κn := fun t b ht => h.κn t b (drop_κ ht).2
  heap := h.heap
  size := h.size
  os := h.os
  tape := h.tape
  output := h.output
  dn := h.dn

def AS.kill (σ : AS) (s : Nat) : AS := ⟨σ.n, killT s σ.t, killB s σ.b, killK s σ.k⟩

theorem Tmps.kill {g : GS} {w : World} {σ : AS} {a : Act} (h : Tmps g w σ a) (s : Nat) (hs : s < 999999) : Tmps (g.drop s) w (σ.kill s) a := by
  refine ⟨h.1, h.2.1, fun t x hx => ?_, by simp only [GS.drop]; rw [if_neg (by omega)]; exact h.2.2.2⟩
  simp only [AS.kill, get_killT] at hx
  cases hg : get t σ.t with
  | none => simp [hg] at hx
  | some y =>
    simp only [hg, Option.map_some, Option.some.injEq] at hx
    subst hx
    exact ⟨(h.2.2.1 t y hg).1, (h.2.2.1 t y hg).2.kill⟩

/-- A token is used up. -/
theorem RT.dropK {g : GS} {w : World} {s : Nat} {x : TV} {v : Value} (h : RT g w x v) : RT (g.dropK s) w x v :=
  RT.keep (g := g) (g' := g.dropK s) (w := w) (fun _ _ _ h => h) (fun _ _ h => h) (fun t ob ht => ⟨(dropK_κ ht).2, fun _ _ => ⟨rfl, fun _ h => h⟩⟩) h

theorem Wf.dropK {g : GS} {w : World} {bx : List (Nat × List TV)} {k : List Nat} (h : Wf g w bx k) (s : Nat) : Wf (g.dropK s) w bx (killK s k) where
  mem := h.mem
  box := fun t cs ht => by
    obtain ⟨b, vs, e, q1, q2, q3, q4, q5⟩ := h.box t cs ht
    exact ⟨b, vs, e, q1, q2, q3, fun j c v hc hv => ⟨(q4 j c v hc hv).1.dropK, (q4 j c v hc hv).2⟩, q5⟩
  ij := h.ij
  ik := fun t t' b ht ht' => h.ik t t' b (dropK_κ ht).2 (dropK_κ ht').2
  ap := fun t t' b ht ht' => h.ap t t' b ht (dropK_κ ht').2
  ltφ := h.ltφ
  ltκ := fun t b ht => h.ltκ t b (dropK_κ ht).2
  nφ := h.nφ
  live := fun t ht => by
    obtain ⟨h1, h2⟩ := mem_killK s t k ht
    simpa [GS.dropK, h1] using h.live t h2
  dfr := h.dfr
  dnd := h.dnd
  dX := fun j hj hx => h.dX j hj (by
    rcases hx with ⟨t, ht⟩ | ⟨t, ht⟩
    · exact .inl ⟨t, ht⟩
    · exact .inr ⟨t, (dropK_κ ht).2⟩)

theorem Ext.dropK {g g' : GS} {w w' : World} (h : Ext g w g' w') (s : Nat) : Ext g w (g'.dropK s) w' :=
  { h with κn := fun t b ht => h.κn t b (dropK_κ ht).2 }

/-- The heap alone matters. -/
theorem Wf.heap {g : GS} {w w' : World} {bx : List (Nat × List TV)} {k : List Nat} (h : Wf g w bx k) (e : w'.heap = w.heap) : Wf g w' bx k where
  mem := fun b o v hv => by have := h.mem b o v hv; simpa [World.cell?, e] using this
  box := fun t cs ht => by
    obtain ⟨b, vs, e', q1, q2, q3, q4, q5⟩ := h.box t cs ht
    refine ⟨b, vs, e', q1, by rw [e]; exact q2, q3, fun j c v hc hv => ⟨(q4 j c v hc hv).1.keep (MLe.refl _) (fun _ _ h => h) (fun s ob hs => ⟨hs, fun b _ => ⟨by rw [e], fun _ h => h⟩⟩), (q4 j c v hc hv).2⟩, q5⟩
  ij := h.ij
  ik := h.ik
  ap := h.ap
  ltφ := fun t b ht => by rw [e]; exact h.ltφ t b ht
  ltκ := fun t b ht => by rw [e]; exact h.ltκ t b ht
  nφ := h.nφ
  live := h.live
  dfr := fun j hj => by rw [e]; exact h.dfr j hj
  dnd := h.dnd
  dX := h.dX

theorem RT.heap {g : GS} {w w' : World} {x : TV} {v : Value} (h : RT g w x v) (e : w'.heap = w.heap) : RT g w' x v :=
  h.keep (MLe.refl _) (fun _ _ h => h) fun s ob hs => ⟨hs, fun b _ => ⟨by rw [e], fun _ h => h⟩⟩

theorem Ext.drew {g : GS} {w : World} : Ext g w g w.drew :=
  { Ext.refl g w with }

/-! ### A new block -/

theorem heap_alloc_at (w : World) (o : Obj) : (w.alloc o).heap[w.heap.size]? = some o := heap_alloc_new w o
theorem heap_alloc_lt (w : World) (o : Obj) {j : Nat} (h : j < w.heap.size) : (w.alloc o).heap[j]? = w.heap[j]? := Below.heap_alloc w o j h
theorem cell_alloc_lt (w : World) (o : Obj) {b i : Nat} (h : b < w.heap.size) : (w.alloc o).cell? ⟨b, i, none⟩ = w.cell? ⟨b, i, none⟩ := World.cell?_alloc_lt w o _ h
theorem mem_lt {g : GS} {w : World} {bx : List (Nat × List TV)} {k : List Nat} (h : Wf g w bx k) {b o : Nat} {v : Value} (hv : g.M b o = some v) : b < w.heap.size :=
  World.block_lt_of_cell? w ⟨b, o, none⟩ (h.mem b o v hv).1

/-- Memory whose cells lo .. hi of the block b never turn from now on. -/
def memAdd (M : Mem) (b : Nat) (lo hi : Nat) (vs : Nat → Option Value) : Mem := fun b' o => if b' = b ∧ lo ≤ o ∧ o < hi then vs o else M b' o

theorem memAdd_le {M : Mem} {b lo hi : Nat} {vs : Nat → Option Value} (h : ∀ o, lo ≤ o → M b o = none) : MLe M (memAdd M b lo hi vs) := by
  intro b' o v hv
  unfold memAdd
  split
  · rename_i hc
    obtain ⟨rfl, hlo, _⟩ := hc
    rw [h o hlo] at hv; cases hv
  · exact hv

/-- A new block b for the place s: a variable, if `vr`; a slice's row, if `tk`; its first m cells never turn. -/
def GS.new (g : GS) (b s m : Nat) (vs : Array Value) (vr tk : Bool) : GS :=
  { M := memAdd g.M b 0 m (fun o => vs[o]?), φ := fun t => if t = s then (if vr = true then some b else none) else g.φ t, κ := fun t => if t = s then (if tk = true then some (some b) else none) else g.κ t, D := g.D }

section new
variable {g : GS} {w w1 : World} {bx : List (Nat × List TV)} {k : List Nat} {s m : Nat} {vs : Array Value} {e : TypeId} {vr tk : Bool} {ob : Obj}

theorem mem_new (hw : Wf g w bx k) (o : Nat) : g.M w.heap.size o = none := by
  cases hv : g.M w.heap.size o with
  | none => rfl
  | some v => exact absurd (mem_lt hw hv) (by omega)

theorem new_φ {b t c : Nat} (h : (g.new b s m vs vr tk).φ t = some c) : (t = s ∧ vr = true ∧ c = b) ∨ (t ≠ s ∧ g.φ t = some c) := by
  simp only [GS.new] at h; split at h
  · rename_i ht
    split at h
    · rename_i hv; cases h; exact .inl ⟨ht, hv, rfl⟩
    · cases h
  · rename_i ht; exact .inr ⟨ht, h⟩
theorem new_κ {b t : Nat} {c : Option Nat} (h : (g.new b s m vs vr tk).κ t = some c) : (t = s ∧ tk = true ∧ c = some b) ∨ (t ≠ s ∧ g.κ t = some c) := by
  simp only [GS.new] at h; split at h
  · rename_i ht
    split at h
    · rename_i hv; cases h; exact .inl ⟨ht, hv, rfl⟩
    · cases h
  · rename_i ht; exact .inr ⟨ht, h⟩

theorem new_M (b o : Nat) (hw : Wf g w bx k) (h : b ≠ w.heap.size) : (g.new w.heap.size s m vs vr tk).M b o = g.M b o := by
  simp only [GS.new, memAdd]; rw [if_neg (by omega)]

theorem RT.new (hw : Wf g w bx k) (hh : w1.heap = w.heap) {x : TV} {v : Value} (h : RT g w x v) : RT (g.new w.heap.size s m vs vr tk) (w1.alloc ob) (x.kill s) v := by
  refine h.keepK (memAdd_le fun o _ => mem_new hw o) ?_ ?_
  · intro t b ht hb; simp [GS.new, ht, hb]
  · intro t ob ht hob
    have hob' : g.κ t = some ob := by simpa [GS.new, ht] using hob
    refine ⟨hob', fun b hb => ?_⟩
    subst hb
    have hlt := hw.ltκ t b hob'
    exact ⟨by rw [heap_alloc_lt _ _ (by rw [hh]; exact hlt), hh], fun o ho => by rw [new_M b o hw (by omega)]; exact ho⟩

theorem Wf.new (hw : Wf g w bx k) (hh : w1.heap = w.heap) (hvt : vr = true → tk = false) (hvm : vr = true → m = 0) (hm : m ≤ vs.size) (h1 : ∀ (j : Nat) v, j < m → vs[j]? = some v → v.oneCell' = true) :
    Wf (g.new w.heap.size s m vs vr tk) (w1.alloc (.cells vs e)) (killB s bx) (killK s k) where
  mem := fun b o v hv => by
    simp only [GS.new, memAdd] at hv
    split at hv
    · rename_i hc
      obtain ⟨rfl, _, ho⟩ := hc
      rw [← hh, World.cell?_alloc_new]
      exact ⟨hv, h1 o v ho hv⟩
    · have h2 := hw.mem b o v hv
      have hlt := mem_lt hw hv
      rw [cell_alloc_lt _ _ (by rw [hh]; exact hlt)]
      exact ⟨by simpa [World.cell?, hh] using h2.1, h2.2⟩
  box := fun t cs' ht => by
    obtain ⟨h1', cs, h2, rfl⟩ := get_killB s t bx cs' ht
    obtain ⟨b, vs', e', q1, q2, q3, q4, q5⟩ := hw.box t cs h2
    have hlt := hw.ltφ t b q1
    refine ⟨b, vs', e', by simp [GS.new, h1', q1], by rw [heap_alloc_lt _ _ (by rw [hh]; exact hlt), hh]; exact q2, by simpa using q3, fun j c v hc hv => ?_, fun o => by rw [new_M b o hw (by omega)]; exact q5 o⟩
    rw [← killL_map] at hc
    obtain ⟨c0, h0, rfl⟩ := getElem?_killL hc
    exact ⟨(q4 j c0 v h0 hv).1.new hw hh, (q4 j c0 v h0 hv).2⟩
  ij := fun t t' b ht ht' => by
    rcases new_φ ht with ⟨a1, a2, a3⟩ | ⟨a1, a2⟩ <;> rcases new_φ ht' with ⟨c1, c2, c3⟩ | ⟨c1, c2⟩
    · rw [a1, c1]
    · have := hw.ltφ _ _ c2; omega
    · have := hw.ltφ _ _ a2; omega
    · exact hw.ij t t' b a2 c2
  ik := fun t t' b ht ht' => by
    rcases new_κ ht with ⟨a1, a2, a3⟩ | ⟨a1, a2⟩ <;> rcases new_κ ht' with ⟨c1, c2, c3⟩ | ⟨c1, c2⟩
    · rw [a1, c1]
    · cases a3; have := hw.ltκ _ _ c2; omega
    · cases c3; have := hw.ltκ _ _ a2; omega
    · exact hw.ik t t' b a2 c2
  ap := fun t t' b ht ht' => by
    rcases new_φ ht with ⟨a1, a2, a3⟩ | ⟨a1, a2⟩ <;> rcases new_κ ht' with ⟨c1, c2, c3⟩ | ⟨c1, c2⟩
    · rw [hvt a2] at c2; cases c2
    · have := hw.ltκ _ _ c2; omega
    · cases c3; have := hw.ltφ _ _ a2; omega
    · exact hw.ap t t' b a2 c2
  ltφ := fun t b ht => by
    rw [World.size_alloc, hh]
    rcases new_φ ht with ⟨a1, a2, a3⟩ | ⟨a1, a2⟩
    · omega
    · have := hw.ltφ _ _ a2; omega
  ltκ := fun t b ht => by
    rw [World.size_alloc, hh]
    rcases new_κ ht with ⟨a1, a2, a3⟩ | ⟨a1, a2⟩
    · cases a3; omega
    · have := hw.ltκ _ _ a2; omega
  nφ := fun t b o ht => by
    rcases new_φ ht with ⟨a1, a2, a3⟩ | ⟨a1, a2⟩
    · subst a3
      simp only [GS.new, memAdd, hvm a2]
      rw [if_neg (by omega)]
      exact mem_new hw o
    · have := hw.ltφ _ _ a2
      rw [new_M b o hw (by omega)]; exact hw.nφ t b o a2
  live := fun t ht => by
    obtain ⟨h1, h2⟩ := mem_killK s t k ht
    simpa [GS.new, h1] using hw.live t h2
  dfr := fun j hj => by
    have h0 := hw.dfr j hj
    have hlt := (Array.getElem?_eq_some_iff.1 h0).1
    rw [heap_alloc_lt _ _ (by rw [hh]; exact hlt), hh]; exact h0
  dnd := hw.dnd
  dX := fun j hj hx => by
    have hlt := (Array.getElem?_eq_some_iff.1 (hw.dfr j hj)).1
    rcases hx with ⟨t, ht⟩ | ⟨t, ht⟩
    · rcases new_φ ht with ⟨a1, a2, a3⟩ | ⟨a1, a2⟩
      · omega
      · exact hw.dX j hj (.inl ⟨t, a2⟩)
    · rcases new_κ ht with ⟨a1, a2, a3⟩ | ⟨a1, a2⟩
      · cases a3; omega
      · exact hw.dX j hj (.inr ⟨t, a2⟩)

/-- A new block of any kind, of which nothing is kept for good. -/
theorem Wf.newO (hw : Wf g w bx k) (hh : w1.heap = w.heap) (hvt : vr = true → tk = false) (hm : m = 0) :
    Wf (g.new w.heap.size s m vs vr tk) (w1.alloc ob) (killB s bx) (killK s k) where
  mem := fun b o v hv => by
    simp only [GS.new, memAdd] at hv
    split at hv
    · rename_i hc; omega
    · have h2 := hw.mem b o v hv
      have hlt := mem_lt hw hv
      rw [cell_alloc_lt _ _ (by rw [hh]; exact hlt)]
      exact ⟨by simpa [World.cell?, hh] using h2.1, h2.2⟩
  box := fun t cs' ht => by
    obtain ⟨h1', cs, h2, rfl⟩ := get_killB s t bx cs' ht
    obtain ⟨b, vs', e', q1, q2, q3, q4, q5⟩ := hw.box t cs h2
    have hlt := hw.ltφ t b q1
    refine ⟨b, vs', e', by simp [GS.new, h1', q1], by rw [heap_alloc_lt _ _ (by rw [hh]; exact hlt), hh]; exact q2, by simpa using q3, fun j c v hc hv => ?_, fun o => by rw [new_M b o hw (by omega)]; exact q5 o⟩
    rw [← killL_map] at hc
    obtain ⟨c0, h0, rfl⟩ := getElem?_killL hc
    exact ⟨(q4 j c0 v h0 hv).1.new hw hh, (q4 j c0 v h0 hv).2⟩
  ij := fun t t' b ht ht' => by
    rcases new_φ ht with ⟨a1, a2, a3⟩ | ⟨a1, a2⟩ <;> rcases new_φ ht' with ⟨c1, c2, c3⟩ | ⟨c1, c2⟩
    · rw [a1, c1]
    · have := hw.ltφ _ _ c2; omega
    · have := hw.ltφ _ _ a2; omega
    · exact hw.ij t t' b a2 c2
  ik := fun t t' b ht ht' => by
    rcases new_κ ht with ⟨a1, a2, a3⟩ | ⟨a1, a2⟩ <;> rcases new_κ ht' with ⟨c1, c2, c3⟩ | ⟨c1, c2⟩
    · rw [a1, c1]
    · cases a3; have := hw.ltκ _ _ c2; omega
    · cases c3; have := hw.ltκ _ _ a2; omega
    · exact hw.ik t t' b a2 c2
  ap := fun t t' b ht ht' => by
    rcases new_φ ht with ⟨a1, a2, a3⟩ | ⟨a1, a2⟩ <;> rcases new_κ ht' with ⟨c1, c2, c3⟩ | ⟨c1, c2⟩
    · rw [hvt a2] at c2; cases c2
    · have := hw.ltκ _ _ c2; omega
    · cases c3; have := hw.ltφ _ _ a2; omega
    · exact hw.ap t t' b a2 c2
  ltφ := fun t b ht => by
    rw [World.size_alloc, hh]
    rcases new_φ ht with ⟨a1, a2, a3⟩ | ⟨a1, a2⟩
    · omega
    · have := hw.ltφ _ _ a2; omega
  ltκ := fun t b ht => by
    rw [World.size_alloc, hh]
    rcases new_κ ht with ⟨a1, a2, a3⟩ | ⟨a1, a2⟩
    · cases a3; omega
    · have := hw.ltκ _ _ a2; omega
  nφ := fun t b o ht => by
    rcases new_φ ht with ⟨a1, a2, a3⟩ | ⟨a1, a2⟩
    · subst a3
      simp only [GS.new, memAdd, hm]
      rw [if_neg (by omega)]
      exact mem_new hw o
    · have := hw.ltφ _ _ a2
      rw [new_M b o hw (by omega)]; exact hw.nφ t b o a2
  live := fun t ht => by
    obtain ⟨h1, h2⟩ := mem_killK s t k ht
    simpa [GS.new, h1] using hw.live t h2
  dfr := fun j hj => by
    have h0 := hw.dfr j hj
    have hlt := (Array.getElem?_eq_some_iff.1 h0).1
    rw [heap_alloc_lt _ _ (by rw [hh]; exact hlt), hh]; exact h0
  dnd := hw.dnd
  dX := fun j hj hx => by
    have hlt := (Array.getElem?_eq_some_iff.1 (hw.dfr j hj)).1
    rcases hx with ⟨t, ht⟩ | ⟨t, ht⟩
    · rcases new_φ ht with ⟨a1, a2, a3⟩ | ⟨a1, a2⟩
      · omega
      · exact hw.dX j hj (.inl ⟨t, a2⟩)
    · rcases new_κ ht with ⟨a1, a2, a3⟩ | ⟨a1, a2⟩
      · cases a3; omega
      · exact hw.dX j hj (.inr ⟨t, a2⟩)

theorem Ext.new {g0 : GS} {w0 : World} (hw : Wf g w bx k) (hh : w1.heap = w.heap) (ho : w1.os = w.os) (ht : w1.tape = w.tape) (hp : w1.output = w.output) (h : Ext g0 w0 g w) (hs : s < 1000000) :
    Ext g0 w0 (g.new w.heap.size s m vs vr tk) (w1.alloc ob) where
  M := h.M.trans (memAdd_le fun o _ => mem_new hw o)
  Mn := fun b o v hv => by
    simp only [GS.new, memAdd] at hv
    split at hv
    · rename_i hc; exact .inr (.inl (by rw [hc.1]; exact h.size))
    · exact h.Mn b o v hv
  φ := fun t b ht' hb => by simp only [GS.new]; rw [if_neg (by omega)]; exact h.φ t b ht' hb
  φn := fun t b hb => by
    rcases new_φ hb with ⟨a1, a2, a3⟩ | ⟨a1, a2⟩
    · exact .inl (by rw [a3]; exact h.size)
    · exact h.φn t b a2
  κn := fun t b hb => by
    rcases new_κ hb with ⟨a1, a2, a3⟩ | ⟨a1, a2⟩
    · cases a3; exact .inl h.size
    · exact h.κn t b a2
  heap := fun j hj hx => by
    have := h.size
    rw [heap_alloc_lt _ _ (by rw [hh]; omega), hh]; exact h.heap j hj hx
  size := by rw [World.size_alloc, hh]; have := h.size; omega
  os := by show w1.os = _; rw [ho]; exact h.os
  tape := by show w1.tape = _; rw [ht]; exact h.tape
  output := by show w1.output = _; rw [hp]; exact h.output
  dn := h.dn
end new
end Go.Proofs.YtenigafbbdjagaaDoor.AL

/- A store into a variable of the run's own; an append in place; a variable that is frozen. -/
namespace Go.Proofs.YtenigafbbdjagaaDoor.AL
open Go Go.RowKit
set_option linter.unusedVariables false
set_option linter.unusedSimpArgs false

def setB (s : Nat) (cs : List TV) : List (Nat × List TV) → List (Nat × List TV)
  | [] => []
  | (m, x) :: l => bif m == s then (m, cs) :: l else (m, x) :: setB s cs l

theorem get_setB {s t : Nat} {cs cs' : List TV} {l : List (Nat × List TV)} (h : get t (setB s cs l) = some cs') : (t = s ∧ cs' = cs) ∨ (t ≠ s ∧ get t l = some cs') := by
  induction l with
  | nil => simp [setB, get] at h
  | cons p l ih =>
    obtain ⟨m, x⟩ := p
    simp only [setB] at h
    simp only [get]
    cases hm : m == s
    · simp only [hm, cond_false, get] at h
      cases ht : t == m
      · simp only [ht, cond_false] at h ⊢; exact ih h
      · simp only [ht, cond_true] at h ⊢
        simp only [beq_iff_eq, beq_eq_false_iff_ne] at ht hm
        exact .inr ⟨by rw [ht]; exact hm, h⟩
    · simp only [hm, cond_true, get] at h
      simp only [beq_iff_eq] at hm
      cases ht : t == m
      · simp only [ht, cond_false] at h ⊢
        simp only [beq_eq_false_iff_ne] at ht
        exact .inr ⟨by rw [← hm]; exact ht, h⟩
      · simp only [ht, cond_true, Option.some.injEq] at h ⊢
        simp only [beq_iff_eq] at ht
        exact .inl ⟨by rw [ht, hm], h.symm⟩

section store
variable {g : GS} {w : World} {bx : List (Nat × List TV)} {k : List Nat} {s b : Nat} {old nw : Array Value} {e : TypeId}

theorem RT.store (hw : Wf g w bx k) (hs : g.φ s = some b) (nw : Array Value) {x : TV} {v : Value} (h : RT g w x v) : RT g (w.setRow b nw) x v :=
  RT.keep (g := g) (g' := g) (w := w) (fun _ _ _ h => h) (fun _ _ h => h) (fun t ob ht => ⟨ht, fun c hc => by
    subst hc
    exact ⟨setRow_other w b c nw (fun hb => hw.ap s t b hs (by rw [← hb]; exact ht)), fun _ h => h⟩⟩) h

theorem Wf.store (hw : Wf g w bx k) (hs : g.φ s = some b) (ho : w.heap[b]? = some (.cells old e (0, 0))) {cs : List TV} (hn : cs.length = nw.size)
    (hc : ∀ (j : Nat) c v, cs[j]? = some c → nw[j]? = some v → RT g w c v ∧ v.oneCell' = true) : Wf g (w.setRow b nw) (setB s cs bx) k where
  mem := fun b' o v hv => by
    have h1 := hw.mem b' o v hv
    rw [cell_setRow_other w b nw ⟨b', o, none⟩ (fun hb => by have := hw.nφ s b o hs; simp only at hb; rw [← hb, hv] at this; cases this)]
    exact h1
  box := fun t cs' ht => by
    rcases get_setB ht with ⟨rfl, rfl⟩ | ⟨h1, h2⟩
    · exact ⟨b, nw, e, hs, setRow_heap w b old nw e (0, 0) ho, hn, fun j c v hc' hv => ⟨(hc j c v hc' hv).1.store hw hs nw, (hc j c v hc' hv).2⟩, fun o => hw.nφ _ b o hs⟩
    · obtain ⟨b', vs, e', q1, q2, q3, q4, q5⟩ := hw.box t cs' h2
      have hb : b' ≠ b := fun hb => h1 (hw.ij t s b (by rw [← hb]; exact q1) hs)
      exact ⟨b', vs, e', q1, by rw [setRow_other w b b' nw hb]; exact q2, q3, fun j c v hc' hv => ⟨(q4 j c v hc' hv).1.store hw hs nw, (q4 j c v hc' hv).2⟩, q5⟩
  ij := hw.ij
  ik := hw.ik
  ap := hw.ap
  ltφ := fun t c ht => by rw [setRow_size]; exact hw.ltφ t c ht
  ltκ := fun t c ht => by rw [setRow_size]; exact hw.ltκ t c ht
  nφ := hw.nφ
  live := hw.live
  dfr := fun j hj => by
    have h0 := hw.dfr j hj
    rw [setRow_other w b j nw (fun hb => by subst hb; rw [ho] at h0; cases h0)]; exact h0
  dnd := hw.dnd
  dX := hw.dX

theorem Ext.row {g0 : GS} {w0 : World} (h : Ext g0 w0 g w) (hx : g.X b) (nw : Array Value) : Ext g0 w0 g (w.setRow b nw) :=
  { h with
    heap := fun j hj hn => by
      rw [setRow_other w b j nw (fun hb => by subst hb; exact (h.X hx).elim (fun h' => by omega) hn)]
      exact h.heap j hj hn
    size := by rw [setRow_size]; exact h.size
    os := h.os
    tape := h.tape
    output := h.output }
end store

section push
variable {g : GS} {w : World} {bx : List (Nat × List TV)} {k : List Nat} {s d b lo hi : Nat} {old nw : Array Value} {e : TypeId}

/-- The token s is used up: its block's cells lo .. hi are written and never turn again; the token d stands for the rest. -/
def GS.push (g : GS) (s d b lo hi : Nat) (nw : Array Value) : GS :=
  { M := memAdd g.M b lo hi (fun o => nw[o]?), φ := fun t => if t = d then none else g.φ t, κ := fun t => if t = d then some (some b) else if t = s then none else g.κ t, D := g.D }

theorem push_φ {t c : Nat} (h : (g.push s d b lo hi nw).φ t = some c) : t ≠ d ∧ g.φ t = some c := by
  simp only [GS.push] at h; split at h <;> simp_all
theorem push_κ {t : Nat} {c : Option Nat} (h : (g.push s d b lo hi nw).κ t = some c) : (t = d ∧ c = some b) ∨ (t ≠ d ∧ t ≠ s ∧ g.κ t = some c) := by
  simp only [GS.push] at h
  split at h
  · rename_i ht; cases h; exact .inl ⟨ht, rfl⟩
  · split at h
    · cases h
    · rename_i h1 h2; exact .inr ⟨h1, h2, h⟩

theorem RT.push (hw : Wf g w bx k) (hs : g.κ s = some (some b)) (hfree : ∀ o, lo ≤ o → g.M b o = none) {x : TV} {v : Value} (h : RT g w x v) : RT (g.push s d b lo hi nw) (w.setRow b nw) (x.kill d) v := by
  refine h.keepK (memAdd_le hfree) (fun t c ht hc => by simp [GS.push, ht, hc]) ?_
  intro t ob ht hob
  rcases push_κ hob with ⟨h1, _⟩ | ⟨_, h2, h3⟩
  · exact absurd h1 ht
  · refine ⟨h3, fun c hc => ?_⟩
    subst hc
    have hne : c ≠ b := fun hb => h2 (hw.ik t s b (by rw [← hb]; exact h3) hs)
    exact ⟨setRow_other w b c nw hne, fun o ho => by simp only [GS.push, memAdd]; rw [if_neg (by simp [hne])]; exact ho⟩

theorem Wf.push (hw : Wf g w bx k) (hs : g.κ s = some (some b)) (hfree : ∀ o, lo ≤ o → g.M b o = none) (ho : w.heap[b]? = some (.cells old e (0, 0)))
    (hsame : ∀ o, o < lo → nw[o]? = old[o]?) (h1 : ∀ (o : Nat) v, lo ≤ o → o < hi → nw[o]? = some v → v.oneCell' = true) :
    Wf (g.push s d b lo hi nw) (w.setRow b nw) (killB d bx) (killK d (killK s k)) where
  mem := fun b' o v hv => by
    simp only [GS.push, memAdd] at hv
    split at hv
    · rename_i hc
      obtain ⟨rfl, hlo, hhi⟩ := hc
      rw [cell_setRow_same w b' o old nw e (0, 0) ho]
      exact ⟨hv, h1 o v hlo hhi hv⟩
    · have h2 := hw.mem b' o v hv
      by_cases hb : b' = b
      · subst hb
        have hlt : o < lo := by
          rcases Nat.lt_or_ge o lo with h | h
          · exact h
          · rw [hfree o h] at hv; cases hv
        rw [cell_setRow_same w b' o old nw e (0, 0) ho, hsame o hlt]
        refine ⟨?_, h2.2⟩
        have := h2.1
        simpa [World.cell?, ho] using this
      · rw [cell_setRow_other w b nw ⟨b', o, none⟩ hb]; exact h2
  box := fun t cs' ht => by
    obtain ⟨h1', cs, h2, rfl⟩ := get_killB d t bx cs' ht
    obtain ⟨b', vs, e', q1, q2, q3, q4, q5⟩ := hw.box t cs h2
    have hne : b' ≠ b := fun hb => hw.ap t s b (by rw [← hb]; exact q1) hs
    refine ⟨b', vs, e', by simp [GS.push, h1', q1], by rw [setRow_other w b b' nw hne]; exact q2, by simpa using q3, fun j c v hc hv => ?_, fun o => by simp only [GS.push, memAdd]; rw [if_neg (by simp [hne])]; exact q5 o⟩
    rw [← killL_map] at hc
    obtain ⟨c0, h0, rfl⟩ := getElem?_killL hc
    exact ⟨(q4 j c0 v h0 hv).1.push hw hs hfree, (q4 j c0 v h0 hv).2⟩
  ij := fun t t' c ht ht' => hw.ij t t' c (push_φ ht).2 (push_φ ht').2
  ik := fun t t' c ht ht' => by
    rcases push_κ ht with ⟨a1, a2⟩ | ⟨a1, a2, a3⟩ <;> rcases push_κ ht' with ⟨c1, c2⟩ | ⟨c1, c2, c3⟩
    · rw [a1, c1]
    · cases a2; exact absurd (hw.ik t' s b c3 hs) c2
    · cases c2; exact absurd (hw.ik t s b a3 hs) a2
    · exact hw.ik t t' c a3 c3
  ap := fun t t' c ht ht' => by
    rcases push_κ ht' with ⟨c1, c2⟩ | ⟨c1, c2, c3⟩
    · cases c2; exact hw.ap t s b (push_φ ht).2 hs
    · exact hw.ap t t' c (push_φ ht).2 c3
  ltφ := fun t c ht => by rw [setRow_size]; exact hw.ltφ t c (push_φ ht).2
  ltκ := fun t c ht => by
    rw [setRow_size]
    rcases push_κ ht with ⟨c1, c2⟩ | ⟨c1, c2, c3⟩
    · cases c2; exact hw.ltκ s b hs
    · exact hw.ltκ t c c3
  nφ := fun t c o ht => by
    have hne : c ≠ b := fun hb => hw.ap t s b (by rw [← hb]; exact (push_φ ht).2) hs
    simp only [GS.push, memAdd]; rw [if_neg (by simp [hne])]; exact hw.nφ t c o (push_φ ht).2
  live := fun t ht => by
    obtain ⟨h1, h2⟩ := mem_killK _ t _ ht
    obtain ⟨h3, h4⟩ := mem_killK _ t _ h2
    simpa [GS.push, h1, h3] using hw.live t h4
  dfr := fun j hj => by
    have h0 := hw.dfr j hj
    rw [setRow_other w b j nw (fun hb => by subst hb; rw [ho] at h0; cases h0)]; exact h0
  dnd := hw.dnd
  dX := fun j hj hx => hw.dX j hj (by
    rcases hx with ⟨t, ht⟩ | ⟨t, ht⟩
    · exact .inl ⟨t, (push_φ ht).2⟩
    · rcases push_κ ht with ⟨c1, c2⟩ | ⟨c1, c2, c3⟩
      · cases c2; exact .inr ⟨s, hs⟩
      · exact .inr ⟨t, c3⟩)

theorem Ext.push {g0 : GS} {w0 : World} (h : Ext g0 w0 g w) (hs : g.κ s = some (some b)) (hfree : ∀ o, lo ≤ o → g.M b o = none) (hd : d < 1000000) : Ext g0 w0 (g.push s d b lo hi nw) (w.setRow b nw) := by
  have hx : g.X b := .inr ⟨s, hs⟩
  have h' := h.row hx nw
  exact
  { h' with
    M := h.M.trans (memAdd_le hfree)
    Mn := fun b' o v hv => by
      simp only [GS.push, memAdd] at hv
      split at hv
      · rename_i hc; rw [hc.1]; exact .inr (h.X hx)
      · exact h.Mn b' o v hv
    φ := fun t c ht hc => by simp only [GS.push]; rw [if_neg (by omega)]; exact h.φ t c ht hc
    φn := fun t c hc => h.φn t c (push_φ hc).2
    κn := fun t c hc => by
      rcases push_κ hc with ⟨c1, c2⟩ | ⟨c1, c2, c3⟩
      · cases c2; exact h.κn s b hs
      · exact h.κn t c c3 }
end push

/-! ### A variable that is frozen -/
/-- Cells as elements. -/
def oneA : AV → AV
  | .agg cs => .agg [.agg cs]
  | v => v
theorem oneA_cells (v : AV) : (oneA v).cells = [v] := by cases v <;> rfl
def hdA (sz : Nat) (cs : List AV) : AV := if sz = 1 then oneA (cs.headD (.agg [])) else .agg (cs.take sz)
def grp (sz : Nat) : Nat → List AV → List AV
  | 0, _ => []
  | n + 1, cs => hdA sz cs :: grp sz n (cs.drop sz)
theorem grp_len (sz : Nat) : ∀ (n : Nat) (cs : List AV), (grp sz n cs).length = n
  | 0, _ => rfl
  | n + 1, cs => by simp [grp, grp_len sz n]
theorem grp_head {sz n : Nat} {cs : List AV} (h : (n + 1) * sz ≤ cs.length) : (hdA sz cs).cells = cs.take sz := by
  unfold hdA
  by_cases e : sz = 1
  · subst e
    cases cs with
    | nil => simp at h
    | cons c cs => simp [oneA_cells]
  · simp [e, AV.cells]
theorem grp_flat {sz : Nat} : ∀ {n : Nat} {cs : List AV}, n * sz ≤ cs.length → flat (grp sz n cs) = cs.take (n * sz)
  | 0, cs, _ => by simp [grp, flat]
  | n + 1, cs, h => by
    have h' : n * sz ≤ (cs.drop sz).length := by rw [List.length_drop]; rw [Nat.succ_mul] at h; omega
    have ih := grp_flat (n := n) h'
    have h0 := grp_head h
    show flat (_ :: grp sz n (cs.drop sz)) = _
    simp only [flat, List.flatMap_cons] at ih ⊢
    rw [ih, h0, Nat.succ_mul, Nat.add_comm (n * sz) sz, List.take_add]
theorem grp_cells {sz : Nat} : ∀ {n : Nat} {cs : List AV}, n * sz ≤ cs.length → ∀ x ∈ grp sz n cs, x.cells.length = sz
  | 0, cs, _, x, hx => by simp [grp] at hx
  | n + 1, cs, h, x, hx => by
    have h' : n * sz ≤ (cs.drop sz).length := by rw [List.length_drop]; rw [Nat.succ_mul] at h; omega
    simp only [grp, List.mem_cons] at hx
    rcases hx with rfl | hx
    · rw [grp_head h, List.length_take]; rw [Nat.succ_mul] at h; omega
    · exact grp_cells h' x hx
mutual
def TV.frz (s : Nat) (cells : List AV) : TV → TV
  | .undef => .undef
  | .v a => .v a
  | .loc s' o => bif s' == s then .v (.ro (cells.drop o)) else .loc s' o
  | .ap sz xs s' => .ap sz xs s'
  | .fn f cs => .fn f (frzL s cells cs)
  | .tup cs => .tup (frzL s cells cs)
  | .mp s' (some (sz, off, n, cap)) => bif s' == s then (if off + n * sz ≤ cells.length then .v (.sl sz (grp sz n (cells.drop off))) else .undef) else .mp s' (some (sz, off, n, cap))
  | .mp s' none => bif s' == s then .undef else .mp s' none
  | .it s' str p => .it s' str p
def frzL (s : Nat) (cells : List AV) : List TV → List TV
  | [] => []
  | x :: l => x.frz s cells :: frzL s cells l
end
theorem frzL_map (s : Nat) (cells : List AV) (l : List TV) : frzL s cells l = l.map (TV.frz s cells) := by
  induction l with
  | nil => rfl
  | cons x l ih => simp [frzL, ih]
def frzT (s : Nat) (cells : List AV) : List (Nat × TV) → List (Nat × TV)
  | [] => []
  | (m, x) :: l => (m, x.frz s cells) :: frzT s cells l
def frzB (s : Nat) (cells : List AV) : List (Nat × List TV) → List (Nat × List TV)
  | [] => []
  | (m, x) :: l => bif m == s then frzB s cells l else (m, frzL s cells x) :: frzB s cells l
theorem get_frzT (s t : Nat) (cells : List AV) (l : List (Nat × TV)) : get t (frzT s cells l) = (get t l).map (TV.frz s cells) := by
  induction l with
  | nil => rfl
  | cons p l ih =>
    obtain ⟨m, x⟩ := p
    simp only [frzT, get]
    cases h : t == m <;> simp [ih]
theorem get_frzB (s t : Nat) (cells : List AV) (l : List (Nat × List TV)) (cs' : List TV) (h : get t (frzB s cells l) = some cs') : t ≠ s ∧ ∃ cs, get t l = some cs ∧ cs' = frzL s cells cs := by
  induction l with
  | nil => simp [frzB, get] at h
  | cons p l ih =>
    obtain ⟨m, x⟩ := p
    simp only [frzB, get] at h ⊢
    cases hm : m == s
    · simp only [hm, cond_false, get] at h
      cases ht : t == m
      · simp only [ht, cond_false] at h ⊢
        exact ih h
      · simp only [ht, cond_true, Option.some.injEq] at h ⊢
        simp only [beq_iff_eq, beq_eq_false_iff_ne] at ht hm
        exact ⟨by rw [ht]; exact hm, x, rfl, h.symm⟩
    · simp only [hm, cond_true] at h
      obtain ⟨h1, cs, h2, h3⟩ := ih h
      simp only [beq_iff_eq] at hm
      refine ⟨h1, cs, ?_, h3⟩
      have : (t == m) = false := by simp only [beq_eq_false_iff_ne]; rw [hm]; exact h1
      rw [this, cond_false]
      exact h2
theorem getElem?_frzL {s : Nat} {cells : List AV} {cs : List TV} {j : Nat} {c : TV} (h : (frzL s cells cs)[j]? = some c) : ∃ c0, cs[j]? = some c0 ∧ c = c0.frz s cells := by
  rw [frzL_map, List.getElem?_map] at h
  cases hcj : cs[j]? with
  | none => simp [hcj] at h
  | some c0 => simp only [hcj, Option.map_some, Option.some.injEq] at h; exact ⟨c0, rfl, h.symm⟩

/-- The variable s never turns again. -/
def GS.frz (g : GS) (s b : Nat) (vs : Array Value) : GS :=
  { M := memAdd g.M b 0 vs.size (fun o => vs[o]?), φ := fun t => if t = s then none else g.φ t, κ := g.κ, D := g.D }

section frz
variable {g : GS} {w : World} {bx : List (Nat × List TV)} {k : List Nat} {s b : Nat} {vs : Array Value} {e : TypeId} {cells : List AV}

theorem frz_φ {t c : Nat} (h : (g.frz s b vs).φ t = some c) : t ≠ s ∧ g.φ t = some c := by
  simp only [GS.frz] at h; split at h <;> simp_all

theorem RT.frz (hw : Wf g w bx k) (hs : g.φ s = some b) (hn : cells.length = vs.size) (hc : ∀ (j : Nat) c v, cells[j]? = some c → vs[j]? = some v → R g.M c v)
    {x : TV} {v : Value} (h : RT g w x v) : RT (g.frz s b vs) w (x.frz s cells) v := by
  have hM : MLe g.M (g.frz s b vs).M := memAdd_le fun o _ => hw.nφ s b o hs
  induction h with
  | undef x => exact .undef x
  | v a x h => exact .v a x (h.mono hM)
  | loc s' off b' h =>
    simp only [TV.frz]
    cases hs' : s' == s
    · simp only [beq_eq_false_iff_ne] at hs'
      exact .loc s' off b' (by simp [GS.frz, hs', h])
    · simp only [beq_iff_eq] at hs'
      subst hs'
      rw [hs] at h; cases h
      refine .v _ _ (.ro _ b off (fun j => vs.getD (off + j) Go.undef) (fun j c hj => ?_) (fun j c hj => ?_))
      · rw [List.getElem?_drop] at hj
        have hlt : off + j < vs.size := by rw [← hn]; exact (List.getElem?_eq_some_iff.1 hj).1
        simp [GS.frz, memAdd, hlt]
      · rw [List.getElem?_drop] at hj
        have hlt : off + j < vs.size := by rw [← hn]; exact (List.getElem?_eq_some_iff.1 hj).1
        exact (hc (off + j) c _ hj (by simp [hlt])).mono hM
  | ap sz xs s' x h hk =>
    refine .ap sz xs s' x (h.mono hM) fun ob hob => ?_
    have h3 := hk ob hob
    cases ob with
    | none => exact h3
    | some b' =>
      obtain ⟨cap, cur, e, q1, q2, q3, q4⟩ := h3
      have hne : b' ≠ b := fun hb => hw.ap s s' b hs (by rw [← hb]; exact hob)
      exact ⟨cap, cur, e, q1, q2, q3, fun o ho => by simp only [GS.frz, memAdd]; rw [if_neg (by simp [hne])]; exact q4 o ho⟩
  | fn f cs vs' hn' h ih =>
    simp only [TV.frz]
    refine .fn f _ vs' (by simpa [frzL_map] using hn') fun j c v hc' hv => ?_
    obtain ⟨c0, h0, rfl⟩ := getElem?_frzL hc'
    exact ih j c0 v h0 hv
  | tup cs vs' hn' h ih =>
    simp only [TV.frz]
    refine .tup _ vs' (by simpa [frzL_map] using hn') fun j c v hc' hv => ?_
    obtain ⟨c0, h0, rfl⟩ := getElem?_frzL hc'
    exact ih j c0 v h0 hv
  | mp s' b' q x h hx =>
    cases hx with
    | map =>
      simp only [TV.frz]
      cases hs' : s' == s
      · simp only [beq_eq_false_iff_ne] at hs'
        exact .mp s' b' _ _ (by simp [GS.frz, hs', h]) .map
      · exact .undef _
    | sl sz off n cap hnc hm =>
      simp only [TV.frz]
      cases hs' : s' == s
      · simp only [beq_eq_false_iff_ne] at hs'
        exact .mp s' b' _ _ (by simp [GS.frz, hs', h]) (.sl _ _ _ _ hnc hm)
      · simp only [beq_iff_eq] at hs'
        subst hs'
        rw [hs] at h; cases h
        simp only [cond_true]
        split
        · rename_i hfit
          have hfit' : n * sz ≤ (cells.drop off).length := by rw [List.length_drop]; omega
          refine .v _ _ (.sl b off sz _ n cap (fun j => vs.getD (off + j) Go.undef) (grp_len sz n _).symm hnc hm (grp_cells hfit') (fun j c hj => ?_) (fun j c hj => ?_))
          · rw [grp_flat hfit', List.getElem?_take] at hj
            split at hj
            · rw [List.getElem?_drop] at hj
              have hlt : off + j < vs.size := by rw [← hn]; exact (List.getElem?_eq_some_iff.1 hj).1
              simp [GS.frz, memAdd, hlt]
            · cases hj
          · rw [grp_flat hfit', List.getElem?_take] at hj
            split at hj
            · rw [List.getElem?_drop] at hj
              have hlt : off + j < vs.size := by rw [← hn]; exact (List.getElem?_eq_some_iff.1 hj).1
              exact (hc (off + j) c _ hj (by simp [hlt])).mono hM
            · cases hj
        · exact .undef _
  | it s' str pos x hk => exact .it s' str pos x hk

theorem Wf.frz (hw : Wf g w bx k) (hs : g.φ s = some b) (ho : w.heap[b]? = some (.cells vs e (0, 0))) (hn : cells.length = vs.size)
    (hc : ∀ (j : Nat) c v, cells[j]? = some c → vs[j]? = some v → R g.M c v ∧ v.oneCell' = true) : Wf (g.frz s b vs) w (frzB s cells bx) k where
  mem := fun b' o v hv => by
    simp only [GS.frz, memAdd] at hv
    split at hv
    · rename_i hc'
      obtain ⟨rfl, _, hlt⟩ := hc'
      have hlt' : o < cells.length := by rw [hn]; exact hlt
      exact ⟨by simpa [World.cell?, ho] using hv, (hc o cells[o] v (by simp [hlt']) hv).2⟩
    · exact hw.mem b' o v hv
  box := fun t cs' ht => by
    obtain ⟨h1', cs, h2, rfl⟩ := get_frzB s t cells bx cs' ht
    obtain ⟨b', vs', e', q1, q2, q3, q4, q5⟩ := hw.box t cs h2
    have hne : b' ≠ b := fun hb => h1' (hw.ij t s b (by rw [← hb]; exact q1) hs)
    refine ⟨b', vs', e', by simp [GS.frz, h1', q1], q2, by simpa [frzL_map] using q3, fun j c v hc' hv => ?_, fun o => by simp only [GS.frz, memAdd]; rw [if_neg (by simp [hne])]; exact q5 o⟩
    obtain ⟨c0, h0, rfl⟩ := getElem?_frzL hc'
    exact ⟨(q4 j c0 v h0 hv).1.frz hw hs hn (fun j c v a b => (hc j c v a b).1), (q4 j c0 v h0 hv).2⟩
  ij := fun t t' c ht ht' => hw.ij t t' c (frz_φ ht).2 (frz_φ ht').2
  ik := hw.ik
  ap := fun t t' c ht ht' => hw.ap t t' c (frz_φ ht).2 ht'
  ltφ := fun t c ht => hw.ltφ t c (frz_φ ht).2
  ltκ := hw.ltκ
  nφ := fun t c o ht => by
    have hne : c ≠ b := fun hb => (frz_φ ht).1 (hw.ij t s b (by rw [← hb]; exact (frz_φ ht).2) hs)
    simp only [GS.frz, memAdd]; rw [if_neg (by simp [hne])]; exact hw.nφ t c o (frz_φ ht).2
  live := hw.live
  dfr := hw.dfr
  dnd := hw.dnd
  dX := fun j hj hx => hw.dX j hj (by
    rcases hx with ⟨t, ht⟩ | ⟨t, ht⟩
    · exact .inl ⟨t, (frz_φ ht).2⟩
    · exact .inr ⟨t, ht⟩)

theorem Ext.frz {g0 : GS} {w0 : World} (hw : Wf g w bx k) (h : Ext g0 w0 g w) (hs : g.φ s = some b) (hlt : s < 1000000) : Ext g0 w0 (g.frz s b vs) w :=
  { h with
    M := h.M.trans (memAdd_le fun o _ => hw.nφ s b o hs)
    Mn := fun b' o v hv => by
      simp only [GS.frz, memAdd] at hv
      split at hv
      · rename_i hc; rw [hc.1]; exact .inr (h.φn s b hs)
      · exact h.Mn b' o v hv
    φ := fun t c ht hc => by simp only [GS.frz]; rw [if_neg (by omega)]; exact h.φ t c ht hc
    φn := fun t c hc => h.φn t c (frz_φ hc).2 }
end frz
end Go.Proofs.YtenigafbbdjagaaDoor.AL

/- What an operation makes of the slots it looks at, where it writes no memory. -/
namespace Go.Proofs.YtenigafbbdjagaaDoor.AL
open Go Go.RowKit
set_option linter.unusedVariables false
set_option linter.unusedSimpArgs false

/-! ### Types -/
inductive ATy where
  | slice (elem sz bytes : Nat)
  | struct (sz : Nat) (fs : List (Nat × Nat × Bool))
  | arr (sz len esz : Nat) (agg : Bool)
  | int (k : IntKind)
  | bool | str | scal | none

def szB (P : Program) (t : TypeId) : Nat := ((P.info? t).map (·.size)).getD 0
def aggB (P : Program) (t : TypeId) : Bool := match P.underlying t with | some (.struct _) | some (.array _ _) => true | _ => false

def aty (P : Program) (t : TypeId) : ATy :=
  match P.underlying t with
  | some (.slice e) => bif szB P t == 1 then .slice e (szB P e) (P.bytesOf e) else .none
  | some (.struct fs) => .struct (szB P t) (fs.toList.map fun f => (f.offset, szB P f.type, aggB P f.type))
  | some (.array n e) => .arr (szB P t) n (szB P e) (aggB P e)
  | some (.int k) => bif szB P t == 1 then .int k else .none
  | some .bool => bif szB P t == 1 then .bool else .none
  | some .string => bif szB P t == 1 then .str else .none
  | some _ => bif szB P t == 1 then .scal else .none
  | none => .none

def ATy.size : ATy → Nat
  | .slice _ _ _ => 1
  | .struct sz _ => sz
  | .arr sz _ _ _ => sz
  | .none => 0
  | _ => 1
def ATy.isAgg : ATy → Bool
  | .struct _ _ | .arr _ _ _ _ => true
  | _ => false

section types
variable {P : Program} {t : TypeId}
theorem aty_slice {e sz by_ : Nat} (h : aty P t = .slice e sz by_) : P.underlying t = some (.slice e) ∧ szB P e = sz ∧ P.bytesOf e = by_ := by
  unfold aty at h
  cases hu : P.underlying t with
  | none => simp [hu] at h
  | some d => cases d <;> simp only [hu] at h <;> first | (cases hs : szB P t == 1 <;> simp [hs] at h ⊢; obtain ⟨rfl, h2, h3⟩ := h; exact ⟨rfl, h2, h3⟩) | (cases hs : szB P t == 1 <;> simp [hs] at h) | cases h
theorem aty_struct {sz : Nat} {fs : List (Nat × Nat × Bool)} (h : aty P t = .struct sz fs) : ∃ gs, P.underlying t = some (.struct gs) ∧ szB P t = sz ∧ gs.toList.map (fun f => (f.offset, szB P f.type, aggB P f.type)) = fs := by
  unfold aty at h
  cases hu : P.underlying t with
  | none => simp [hu] at h
  | some d => cases d <;> simp only [hu] at h <;> first | (cases hs : szB P t == 1 <;> simp [hs] at h; done) | (cases h; exact ⟨_, rfl, rfl, rfl⟩) | cases h
theorem aty_arr {sz n es : Nat} {g : Bool} (h : aty P t = .arr sz n es g) : ∃ e, P.underlying t = some (.array n e) ∧ szB P t = sz ∧ szB P e = es ∧ aggB P e = g := by
  unfold aty at h
  cases hu : P.underlying t with
  | none => simp [hu] at h
  | some d => cases d <;> simp only [hu] at h <;> first | (cases hs : szB P t == 1 <;> simp [hs] at h; done) | (cases h; exact ⟨_, rfl, rfl, rfl, rfl⟩) | cases h
theorem size_aty (h : aty P t ≠ .none) : (aty P t).size = szB P t := by
  unfold aty at h ⊢
  cases hu : P.underlying t with
  | none => simp [hu] at h
  | some d => cases d <;> simp only [hu] at h ⊢ <;> first | rfl | (cases hs : szB P t == 1 <;> simp only [hs, cond_true, cond_false] at h ⊢ <;> first | exact absurd rfl h | (have := beq_iff_eq.1 hs; simp [ATy.size, this]))
theorem info_of_sz {n : Nat} (h : szB P t = n) (hn : n ≠ 0) : ∃ i, P.info? t = some i ∧ i.size = n := by
  unfold szB at h
  cases hi : P.info? t with
  | none => simp [hi] at h; omega
  | some i => exact ⟨i, rfl, by simpa [hi] using h⟩
theorem aggB_of (h : aty P t ≠ .none) : (aty P t).isAgg = aggB P t := by
  unfold aty at h ⊢
  unfold aggB
  cases hu : P.underlying t with
  | none => simp [hu] at h
  | some d => cases d <;> simp only [hu] at h ⊢ <;> first | rfl | (cases hs : szB P t == 1 <;> simp [hs, ATy.isAgg] at h ⊢)
theorem run_isAgg (h : aty P t ≠ .none) (w : World) : (isAgg t).run P w = .ok (aggB P t) w := by
  unfold isAgg aggB
  cases hu : P.underlying t with
  | none => exfalso; apply h; unfold aty; simp [hu]
  | some d =>
    rw [Sem.run_bind, run_underlying hu w]
    cases d <;> simp
theorem run_sizeOf {n : Nat} (h : szB P t = n) (hn : n ≠ 0) (w : World) : (sizeOf t).run P w = .ok n w := by
  obtain ⟨i, hi, hs⟩ := info_of_sz h hn
  simp [sizeOf, typeInfo, hi, hs]
end types

/-! ### The slots -/
def TV.dat : TV → Option AV
  | .v a => some a
  | .ap sz xs _ => some (.sl sz xs)
  | .fn f cs => (datL cs).map (.fn f)
  | _ => none
where
  datL : List TV → Option (List AV)
    | [] => some []
    | x :: l => match x.dat, datL l with | some a, some as => some (a :: as) | _, _ => none

theorem datL_at {cs : List TV} {as : List AV} (h : TV.dat.datL cs = some as) : cs.length = as.length ∧ ∀ (j : Nat) a, as[j]? = some a → ∃ c, cs[j]? = some c ∧ c.dat = some a := by
  induction cs generalizing as with
  | nil => simp only [TV.dat.datL] at h; cases h; exact ⟨rfl, fun j a ha => by simp at ha⟩
  | cons x l ih =>
    simp only [TV.dat.datL] at h
    split at h
    · rename_i a as' h1 h2
      cases h
      obtain ⟨q1, q2⟩ := ih h2
      refine ⟨by simp [q1], fun j b hb => ?_⟩
      cases j with
      | zero => simp only [List.getElem?_cons_zero, Option.some.injEq] at hb; subst hb; exact ⟨x, rfl, h1⟩
      | succ j => simp only [List.getElem?_cons_succ] at hb ⊢; exact q2 j b hb
    · cases h

theorem RT.dat {g : GS} {w : World} {x : TV} {v : Value} {a : AV} (h : RT g w x v) (hd : x.dat = some a) : R g.M a v := by
  induction h generalizing a with
  | undef x => simp [TV.dat] at hd
  | v a' x h => simp only [TV.dat, Option.some.injEq] at hd; subst hd; exact h
  | loc s off b h => simp [TV.dat] at hd
  | ap sz xs s x h hk => simp only [TV.dat, Option.some.injEq] at hd; subst hd; exact h
  | fn f cs vs hn h ih =>
    simp only [TV.dat, Option.map_eq_some_iff] at hd
    obtain ⟨as, h1, rfl⟩ := hd
    obtain ⟨q1, q2⟩ := datL_at h1
    refine .fn f as vs (by rw [← q1]; exact hn) fun j a v ha hv => ?_
    obtain ⟨c, hc, hcd⟩ := q2 j a ha
    exact ih j c v hc hv hcd
  | tup cs vs hn h ih => simp [TV.dat] at hd
  | mp s b q x h hx => simp [TV.dat] at hd
  | it s str pos x hk => simp [TV.dat] at hd

/-- A literal's cells. -/
def cvL : List Value → Option (List AV)
  | [] => some []
  | .bool b :: l => (cvL l).map (.bool b :: ·)
  | .int k n :: l => (cvL l).map (.int k n :: ·)
  | .string s :: l => (cvL l).map (.str s.data.toList :: ·)
  | .pointer none :: l => (cvL l).map (.nilP :: ·)
  | .slice none 0 0 :: l => (cvL l).map (.sl 0 [] :: ·)
  | .nilFunc :: l => (cvL l).map (.nilF :: ·)
  | .nilIface :: l => (cvL l).map (.nilI :: ·)
  | _ => none
theorem cvL_ok (M : Mem) : ∀ (vs : List Value) (cs : List AV), cvL vs = some cs → cs.length = vs.length ∧ ∀ (j : Nat) v, vs[j]? = some v → v.oneCell' = true ∧ ∀ c, cs[j]? = some c → R M c v := by
  intro vs
  induction vs with
  | nil => intro cs h; cases h; exact ⟨rfl, fun j v hv => by simp at hv⟩
  | cons x l ih =>
    intro cs h
    have go : ∀ a : AV, R M a x → x.oneCell' = true → (cvL l).map (a :: ·) = some cs → cs.length = (x :: l).length ∧ ∀ (j : Nat) v, (x :: l)[j]? = some v → v.oneCell' = true ∧ ∀ c, cs[j]? = some c → R M c v := by
      intro a ha h1 hm
      obtain ⟨cs', hc, rfl⟩ := Option.map_eq_some_iff.1 hm
      obtain ⟨q1, q2⟩ := ih cs' hc
      refine ⟨by simp [q1], fun j v hv => ?_⟩
      cases j with
      | zero => simp only [List.getElem?_cons_zero, Option.some.injEq] at hv; subst hv; exact ⟨h1, fun c hc => by simp only [List.getElem?_cons_zero, Option.some.injEq] at hc; subst hc; exact ha⟩
      | succ j => simp only [List.getElem?_cons_succ] at hv ⊢; exact q2 j v hv
    unfold cvL at h
    split at h
    · rename_i h0; cases h0
    · rename_i h0; injection h0 with e1 e2; subst e1; subst e2; exact go _ (.bool _) rfl h
    · rename_i h0; injection h0 with e1 e2; subst e1; subst e2; exact go _ (.int _ _) rfl h
    · rename_i h0; injection h0 with e1 e2; subst e1; subst e2; exact go _ (.str _) rfl h
    · rename_i h0; injection h0 with e1 e2; subst e1; subst e2; exact go _ .nilP rfl h
    · rename_i h0; injection h0 with e1 e2; subst e1; subst e2; exact go _ (.slN 0) rfl h
    · rename_i h0; injection h0 with e1 e2; subst e1; subst e2; exact go _ .nilF rfl h
    · rename_i h0; injection h0 with e1 e2; subst e1; subst e2; exact go _ .nilI rfl h
    · cases h
/-- A literal. -/
def cv : Value → TV
  | .bool b => .v (.bool b)
  | .int k n => .v (.int k n)
  | .string s => .v (.str s.data.toList)
  | .pointer none => .v .nilP
  | .slice none 0 0 => .ap 0 [] 999999
  | .nilFunc => .v .nilF
  | .nilIface => .v .nilI
  | .agg vs => match cvL vs.toList with | some cs => .v (.agg cs) | none => .undef
  | _ => .undef

theorem RT.nil {g : GS} {w : World} (hn : g.κ 999999 = some none) (sz : Nat) : RT g w (.ap sz [] 999999) (.slice none 0 0) :=
  .ap sz [] 999999 _ (.slN sz) fun ob hob => by rw [hn] at hob; cases hob; rfl

theorem RT.cv {g : GS} (w : World) (hn : g.κ 999999 = some none) (v : Value) : RT g w (cv v) v := by
  unfold AL.cv
  split <;> first | exact .undef _ | exact RT.nil hn 0 | exact .v _ _ (by constructor) | skip
  split
  · rename_i vs _ cs hc
    obtain ⟨q1, q2⟩ := cvL_ok g.M vs.toList cs hc
    refine .v _ _ (.agg cs vs (by simpa using q1) (fun j v hv => (q2 j v (by simpa using hv)).1) fun j c v hc hv => (q2 j v (by simpa using hv)).2 c hc)
  · exact .undef _

def ev (σ : AS) : Operand → TV
  | .tmp t => (get t σ.t).getD .undef
  | .const v => cv v
  | .global _ => .undef
  | .func f => .v (.fn f [])

theorem ev_rt {g : GS} {w : World} {σ : AS} {a : Act} (h : Tmps g w σ a) (x : Operand) : RT g w (ev σ x) (a.eval x) := by
  cases x with
  | tmp t =>
    simp only [ev, Act.eval]
    cases hg : get t σ.t with
    | none => exact .undef _
    | some y => exact (h.2.2.1 t y hg).2
  | const v => exact RT.cv w h.2.2.2 v
  | global i => exact .undef _
  | func f => exact .v _ _ (.fn f [] #[] rfl (fun j c v hc => by simp at hc))

/-- A nil slice of a type. -/
def nilOf (P : Program) (t : TypeId) : TV → TV
  | .ap 0 [] 999999 => match aty P t with | .slice _ sz _ => .ap sz [] 999999 | _ => .ap 0 [] 999999
  | x => x
theorem RT.nilOf {P : Program} {t : TypeId} {g : GS} {w : World} (hn : g.κ 999999 = some none) {x : TV} {v : Value} (h : RT g w x v) : RT g w (nilOf P t x) v := by
  unfold AL.nilOf
  split
  · split
    · cases h with
      | ap sz xs s x h hk =>
        have := hk none hn
        simp only [Tok] at this
        subst this
        exact RT.nil hn _
    · exact h
  · exact h
def evT (P : Program) (t : TypeId) (σ : AS) : Operand → TV
  | .const v => nilOf P t (cv v)
  | x => ev σ x
theorem evT_rt {P : Program} {t : TypeId} {g : GS} {w : World} {σ : AS} {a : Act} (h : Tmps g w σ a) (x : Operand) : RT g w (evT P t σ x) (a.eval x) := by
  cases x with
  | const v => exact (RT.cv w h.2.2.2 v).nilOf h.2.2.2
  | tmp t => exact ev_rt h (.tmp t)
  | global t => exact ev_rt h (.global t)
  | func t => exact ev_rt h (.func t)

/-! ### Arithmetic -/
def binI (op : BinOp) (k : IntKind) (a b : Int) : Option AV :=
  match op with
  | .add => some (.int k (k.wrap (a + b)))
  | .sub => some (.int k (k.wrap (a - b)))
  | .mul => some (.int k (k.wrap (a * b)))
  | .quo => if b = 0 then none else some (.int k (k.wrap (a.tdiv b)))
  | .rem => if b = 0 then none else some (.int k (a.tmod b))
  | .and | .or | .xor | .andNot => some (.int k (bits op k a b))
  | .eql => some (.bool (decide (a = b)))
  | .neq => some (.bool (!decide (a = b)))
  | .lss => some (.bool (decide (a < b)))
  | .leq => some (.bool (decide (a ≤ b)))
  | .gtr => some (.bool (decide (b < a)))
  | .geq => some (.bool (decide (b ≤ a)))
  | _ => none
def shI (op : BinOp) (k : IntKind) (a b : Int) : Option AV :=
  if b < 0 then none else
  match op with
  | .shl => some (.int k (k.wrap (a * 2 ^ (min b.toNat k.bits))))
  | .shr => some (.int k (a.fdiv (2 ^ (min b.toNat k.bits))))
  | _ => none
def binS (op : BinOp) (a b : List UInt8) : Option AV :=
  match op with
  | .add => if a.length + b.length ≤ 9223372036854775807 then some (.str (a ++ b)) else none
  | .eql => some (.bool (decide (a = b)))
  | .neq => some (.bool (!decide (a = b)))
  | .lss => some (.bool (Op.bytesLess a b))
  | .leq => some (.bool (Op.bytesLess a b || decide (a = b)))
  | .gtr => some (.bool (!(Op.bytesLess a b || decide (a = b))))
  | .geq => some (.bool (!Op.bytesLess a b))
  | _ => none

/-! ### Equality -/
def partA (P : Program) (t : TypeId) (cs : List AV) (off : Nat) : Option AV :=
  match aty P t with
  | .none => none
  | d => if d.size = 0 then none else if d.isAgg = true then some (.agg ((cs.drop off).take d.size)) else cs[off]?

theorem partA_of {P : Program} {t : TypeId} {cs : List AV} {off : Nat} {a : AV} (h : partA P t cs off = some a) :
    aty P t ≠ .none ∧ szB P t ≠ 0 ∧ (if aggB P t = true then some (.agg ((cs.drop off).take (szB P t))) else cs[off]?) = some a := by
  have h0 : aty P t ≠ .none := by intro e; simp [partA, e] at h
  have h1 := size_aty h0
  have h2 := aggB_of h0
  have h3 : (if (aty P t).size = 0 then none else if (aty P t).isAgg = true then some (.agg ((cs.drop off).take (aty P t).size)) else cs[off]?) = some a := by
    unfold partA at h
    cases ha : aty P t <;> simp_all
  rw [h1, h2] at h3
  split at h3
  · cases h3
  · rename_i hz; exact ⟨h0, hz, h3⟩

def aeqF (P : Program) (eq : TypeId → AV → AV → Option Bool) (xs ys : List AV) : List Field → Option Bool
  | [] => some true
  | f :: fs =>
    if f.name = "_" then aeqF P eq xs ys fs else
    match partA P f.type xs f.offset, partA P f.type ys f.offset with
    | some a, some b => match eq f.type a b, aeqF P eq xs ys fs with | some r, some q => some (r && q) | _, _ => none
    | _, _ => none
def aeqN (P : Program) (eq : TypeId → AV → AV → Option Bool) (e : TypeId) (n : Nat) (xs ys : List AV) : List Nat → Option Bool
  | [] => some true
  | i :: is =>
    match partA P e xs (i * n), partA P e ys (i * n) with
    | some a, some b => match eq e a b, aeqN P eq e n xs ys is with | some r, some q => some (r && q) | _, _ => none
    | _, _ => none
def aeq (P : Program) : Nat → TypeId → AV → AV → Option Bool
  | 0, _, _, _ => none
  | d + 1, t, x, y =>
    match P.underlying t, x, y with
    | some (.int _), .int k a, .int k' b => if k = k' then some (decide (a = b)) else none
    | some .bool, .bool a, .bool b => some (decide (a = b))
    | some .string, .str a, .str b => some (decide (a = b))
    | some (.struct fs), .agg xs, .agg ys => if P.stoodInHeld t = true then none else aeqF P (aeq P d) xs ys fs.toList
    | some (.array n e), .agg xs, .agg ys => if szB P e = 0 then none else aeqN P (aeq P d) e (szB P e) xs ys (List.range n)
    | _, _, _ => none

section
variable {P : Program} {M : Mem}

theorem run_part {t : TypeId} {cs : List AV} {vs : Array Value} {off : Nat} {a : AV} (hn : cs.length = vs.size) (h1 : ∀ (j : Nat) v, vs[j]? = some v → v.oneCell' = true)
    (h : ∀ (j : Nat) c v, cs[j]? = some c → vs[j]? = some v → R M c v) (hp : partA P t cs off = some a) (w : World) :
    ∃ v, (part t vs off).run P w = .ok v w ∧ R M a v := by
  obtain ⟨ht, hz, hp⟩ := partA_of hp
  split at hp
  · rename_i hg
    cases hp
    refine ⟨.agg (vs.extract off (off + szB P t)), by simp only [part, Sem.run_bind, run_isAgg ht w, hg, Result.andThen_ok, if_true, run_sizeOf rfl hz w, Sem.run_pure], ?_⟩
    refine .agg _ _ ?_ ?_ ?_
    · simp; omega
    · intro j v hv
      rw [Array.getElem?_extract] at hv
      split at hv
      · exact h1 _ v hv
      · cases hv
    · intro j c v hc hv
      rw [Array.getElem?_extract] at hv
      split at hv
      · rw [List.getElem?_take] at hc
        split at hc
        · rw [List.getElem?_drop] at hc; exact h _ c v hc hv
        · cases hc
      · cases hv
  · rename_i hg
    have hlt : off < vs.size := by rw [← hn]; exact (List.getElem?_eq_some_iff.1 hp).1
    refine ⟨vs[off], ?_, h off a _ hp (by simp [hlt])⟩
    have hg' : aggB P t = false := by simpa using hg
    simp only [part, Sem.run_bind, run_isAgg ht w, hg', Result.andThen_ok]
    simp [hlt]

theorem agg_inv {cs : List AV} {v : Value} (h : R M (.agg cs) v) : ∃ vs, v = .agg vs ∧ cs.length = vs.size ∧ (∀ (j : Nat) v, vs[j]? = some v → v.oneCell' = true) ∧ ∀ (j : Nat) c v, cs[j]? = some c → vs[j]? = some v → R M c v := by
  cases h with
  | agg cs vs hn h1 h => exact ⟨vs, rfl, hn, h1, h⟩

theorem run_aeqF {eq : TypeId → AV → AV → Option Bool} {d : Nat} (heq : ∀ t x y r, eq t x y = some r → ∀ a b w, R M x a → R M y b → (Op.equalIn d t a b).run P w = .ok r w)
    {xs ys : List AV} {as bs : Array Value} (hx : xs.length = as.size) (hx1 : ∀ (j : Nat) v, as[j]? = some v → v.oneCell' = true) (hxR : ∀ (j : Nat) c v, xs[j]? = some c → as[j]? = some v → R M c v)
    (hy : ys.length = bs.size) (hy1 : ∀ (j : Nat) v, bs[j]? = some v → v.oneCell' = true) (hyR : ∀ (j : Nat) c v, ys[j]? = some c → bs[j]? = some v → R M c v) (w : World) :
    ∀ (fs : List Field) (r : Bool), aeqF P eq xs ys fs = some r → (Op.eqFields d as bs fs).run P w = .ok r w := by
  intro fs
  induction fs with
  | nil => intro r h; simp only [aeqF, Option.some.injEq] at h; subst h; rfl
  | cons f fs ih =>
    intro r h
    simp only [aeqF] at h
    split at h
    · rename_i hn
      simp only [Op.eqFields, hn, ne_eq, not_true_eq_false, if_false]
      exact ih r h
    · rename_i hn
      split at h
      · rename_i a b ha hb
        split at h
        · rename_i q s hq hs
          cases h
          obtain ⟨v, hv, hvR⟩ := run_part hx hx1 hxR ha w
          obtain ⟨u, hu, huR⟩ := run_part hy hy1 hyR hb w
          have he := heq f.type a b q hq v u w hvR huR
          simp only [Op.eqFields, ne_eq, hn, not_false_eq_true, if_true, Sem.run_bind, hv, hu, he, Result.andThen_ok]
          cases q with
          | false => simp
          | true => simpa using ih s hs
        · cases h
      · cases h

theorem run_forIn_all (w : World) (f : Nat → (Option Bool × Unit) → Sem (ForInStep (Option Bool × Unit))) : ∀ (l : List Nat) (rs : Nat → Bool),
    (∀ i ∈ l, ∀ s, (f i s).run P w = .ok (if rs i = true then .yield (none, ()) else .done (some false, ())) w) →
    (forIn l (none, ()) f).run P w = .ok (if l.all rs = true then (none, ()) else (some false, ())) w := by
  intro l
  induction l with
  | nil => intro rs _; rfl
  | cons i l ih =>
    intro rs h
    have h1 := h i (by simp) (none, ())
    simp only [List.forIn_cons, Sem.run_bind, h1, Result.andThen_ok, List.all_cons]
    have ih' := ih rs (fun j hj => h j (by simp [hj]))
    by_cases hr : rs i = true
    · simp only [hr, if_true, Bool.true_and]; exact ih'
    · simp only [hr, if_false, Bool.false_eq_true]
      have : rs i = false := by simpa using hr
      simp [this]

theorem run_aeq : ∀ (d : Nat) (t : TypeId) (x y : AV) (r : Bool), aeq P d t x y = some r → ∀ d', d ≤ d' → ∀ a b w, R M x a → R M y b → (Op.equalIn d' t a b).run P w = .ok r w := by
  intro d
  induction d with
  | zero => intro t x y r h; simp [aeq] at h
  | succ d ih =>
    intro t x y r h d' hd a b w ha hb
    obtain ⟨d', rfl⟩ : ∃ e, d' = e + 1 := ⟨d' - 1, by omega⟩
    simp only [aeq] at h
    split at h
    · rename_i kk k a' k' b' hu
      split at h
      · rename_i hk
        subst hk
        cases h; cases ha; cases hb
        rw [run_equalIn_int w d' t k kk a' b' hu]
        congr 1
      · cases h
    · rename_i a' b' hu
      cases h; cases ha; cases hb
      rw [run_equalIn_bool w d' t a' b' hu]
      congr 1
    · rename_i a' b' hu
      cases h; cases ha; cases hb
      rw [run_equalIn_string w d' t _ _ hu, ByteArray.toList_eq, ByteArray.toList_eq]
      congr 1
      rw [Bool.eq_iff_iff]; simp
    · rename_i fs xs ys hu
      split at h
      · cases h
      · rename_i hst
        obtain ⟨as, rfl, q1, q2, q3⟩ := agg_inv ha
        obtain ⟨bs, rfl, p1, p2, p3⟩ := agg_inv hb
        have hf : P.fieldsOf t = fs := by simp [Program.fieldsOf, hu]
        rw [run_equalIn_struct w d' t as bs (by rw [hf]; exact hu) (by simpa using hst), hf]
        exact run_aeqF (fun t x y r hr a b w hxa hyb => ih t x y r hr d' (by omega) a b w hxa hyb) q1 q2 q3 p1 p2 p3 w _ r h
    · rename_i n e xs ys hu
      split at h
      · cases h
      · rename_i hz
        obtain ⟨as, rfl, q1, q2, q3⟩ := agg_inv ha
        obtain ⟨bs, rfl, p1, p2, p3⟩ := agg_inv hb
        have key : ∀ (l : List Nat) (r : Bool), aeqN P (aeq P d) e (szB P e) xs ys l = some r → ∃ rs : Nat → Bool, r = l.all rs ∧ ∀ i ∈ l, ∃ v u, (part e as (i * szB P e)).run P w = .ok v w ∧ (part e bs (i * szB P e)).run P w = .ok u w ∧ (Op.equalIn d' e v u).run P w = .ok (rs i) w := by
          intro l
          induction l with
          | nil => intro r h; simp only [aeqN, Option.some.injEq] at h; exact ⟨fun _ => true, by simp [← h], fun i hi => by simp at hi⟩
          | cons i l ihl =>
            intro r h
            simp only [aeqN] at h
            split at h
            · rename_i a b ha' hb'
              split at h
              · rename_i q s hq hs
                cases h
                obtain ⟨v, hv, hvR⟩ := run_part q1 q2 q3 ha' w
                obtain ⟨u, hu', huR⟩ := run_part p1 p2 p3 hb' w
                have he := ih e a b q hq d' (by omega) v u w hvR huR
                obtain ⟨rs, hr1, hr2⟩ := ihl s hs
                by_cases hil : i ∈ l
                · obtain ⟨v', u', e1, e2, e3⟩ := hr2 i hil
                  rw [hv] at e1; rw [hu'] at e2
                  cases e1; cases e2
                  rw [he] at e3
                  simp only [Result.ok.injEq, and_true] at e3
                  refine ⟨rs, by rw [hr1, List.all_cons, e3], fun j hj => ?_⟩
                  rcases List.mem_cons.1 hj with rfl | hj
                  · exact hr2 _ hil
                  · exact hr2 j hj
                · refine ⟨fun j => if j = i then q else rs j, ?_, fun j hj => ?_⟩
                  · rw [hr1, List.all_cons, if_pos rfl]
                    congr 1
                    rw [Bool.eq_iff_iff]
                    simp only [List.all_eq_true]
                    constructor
                    · intro hh j hj; rw [if_neg (by rintro rfl; exact hil hj)]; exact hh j hj
                    · intro hh j hj; have := hh j hj; rwa [if_neg (by rintro rfl; exact hil hj)] at this
                  · rcases List.mem_cons.1 hj with rfl | hj2
                    · exact ⟨v, u, hv, hu', by simpa using he⟩
                    · have hji : ¬ j = i := by rintro rfl; exact hil hj2
                      simpa [hji] using hr2 j hj2
              · cases h
            · cases h
        obtain ⟨rs, rfl, hrs⟩ := key _ r h
        simp only [Op.equalIn, Sem.run_bind, run_underlying hu, Result.andThen_ok, run_sizeOf rfl hz w]
        have hf := run_forIn_all (P := P) w (fun i _ => do
            let a ← part e as (i * szB P e)
            let b ← part e bs (i * szB P e)
            let r ← Op.equalIn d' e a b
            if (!r) = true then pure (ForInStep.done (some false, ())) else pure (ForInStep.yield (none, ()))) (List.range n) rs (fun i hi s => by
          obtain ⟨v, u, e1, e2, e3⟩ := hrs i hi
          simp only [Sem.run_bind, e1, e2, e3, Result.andThen_ok]
          cases rs i <;> rfl)
        rw [Std.Legacy.Range.forIn_eq_forIn_range']
        simp only [Std.Legacy.Range.size, Nat.sub_zero, Nat.add_sub_cancel, Nat.div_one, ← List.range_eq_range']
        rw [hf]
        cases (List.range n).all rs <;> rfl
    · cases h
end
end Go.Proofs.YtenigafbbdjagaaDoor.AL

/- What an operation makes of the slots it looks at, where it writes no memory: the operations. -/
namespace Go.Proofs.YtenigafbbdjagaaDoor.AL
open Go Go.RowKit
set_option linter.unusedVariables false
set_option linter.unusedSimpArgs false

def pieces (P : Program) (t : TypeId) : Option (Nat → Option (Nat × Nat)) :=
  match aty P t with
  | .struct _ fs => if fs.all (fun f => f.2.1 != 0) = true then some (fun i => (fs[i]?).map fun f => (f.1, f.2.1)) else none
  | .arr _ _ es _ => if es = 0 then none else some (fun i => some (i * es, es))
  | _ => none

def fillA (place : Nat → Option (Nat × Nat)) (cells : List AV) : List (Nat × AV) → Option (List AV)
  | [] => some cells
  | (i, v) :: rest =>
    match place i with
    | none => none
    | some (off, size) => if v.cells.length ≠ size ∨ size = 0 ∨ off + size > cells.length then none else fillA place (cells.take off ++ v.cells ++ cells.drop (off + size)) rest

def zmatch : AV → Value → Bool
  | .bool a, .bool b => a == b
  | .int k n, .int k' m => k == k' && n == m
  | .str [], .string s => s.data.toList.isEmpty
  | .sl _ [], .slice none 0 0 => true
  | .nilF, .nilFunc => true
  | .nilP, .pointer none => true
  | .nilI, .nilIface => true
  | _, _ => false

/-- A type's zero value, cell by cell. -/
def zty (P : Program) : Nat → TypeId → List AV
  | 0, _ => []
  | d + 1, t =>
    match P.underlying t with
    | some (.struct fs) => fs.toList.flatMap fun f => zty P d f.type
    | some (.array n e) => (List.range n).flatMap fun _ => zty P d e
    | some (.slice e) => [.sl (szB P e) []]
    | some (.int k) => [.int k 0]
    | some .bool => [.bool false]
    | some .string => [.str []]
    | some (.pointer _) => [.nilP]
    | some (.func _ _ _) => [.nilF]
    | some (.interface _) => [.nilI]
    | _ => []
def zall : List AV → List Value → Bool
  | [], [] => true
  | a :: as, b :: bs => zmatch a b && zall as bs
  | _, _ => false
def ATy.ok : ATy → Bool
  | .none => false
  | _ => true
def zeroC (P : Program) (t : TypeId) : Option (List AV) :=
  match (P.info? t).bind (·.zero) with
  | some z => if (zall (zty P 12 t) z.cells.toList && (aty P t).size == (zty P 12 t).length && (aty P t).ok) = true then some (zty P 12 t) else none
  | none => none

def ixA (xs : List AV) (i : Int) : Option AV := if 0 ≤ i then xs[i.toNat]? else none

def datsOf : List (Nat × TV) → Option (List (Nat × AV))
  | [] => some []
  | (i, x) :: l => match x.dat, datsOf l with | some a, some as => some ((i, a) :: as) | _, _ => none

def boundA (d : Int) : Option AV → Option Int
  | none => some d
  | some (.int _ i) => some i
  | _ => none
def sliceA (n : Int) (lo hi : Option AV) : Option (Nat × Nat) :=
  match boundA 0 lo, boundA n hi with
  | some l, some h => if 0 ≤ l ∧ l ≤ h ∧ h ≤ n then some (l.toNat, h.toNat) else none
  | _, _ => none

def optDat (σ : AS) : Option Operand → Option (Option AV)
  | none => some none
  | some x => (ev σ x).dat.map some

/-- What an operation makes, where it writes no memory and calls nobody. -/
def evalP (P : Program) (σ : AS) (o : Oper) : Option TV :=
  match o.op with
  | .move x | .assign x => some (evT P o.type σ x)
  | .pick c x y => match ev σ c with | .v (.bool t) => some (bif t then ev σ x else ev σ y) | _ => none
  | .binOp op t x y _ =>
    match (ev σ x).dat, (ev σ y).dat with
    | some (.int k a), some (.int k' b) =>
      match op with
      | .shl | .shr => (shI op k a b).map .v
      | _ => if k = k' then (binI op k a b).map .v else none
    | some (.str a), some (.str b) => (binS op a b).map .v
    | some (.bool a), some (.bool b) =>
      match op with
      | .eql => (aeq P 9 t (.bool a) (.bool b)).map fun r => .v (.bool r)
      | .neq => (aeq P 9 t (.bool a) (.bool b)).map fun r => .v (.bool !r)
      | _ => none
    | some (.agg a), some (.agg b) =>
      match op with
      | .eql => if P.eqGuardType P.depth t = true then none else (aeq P 9 t (.agg a) (.agg b)).map fun r => .v (.bool r)
      | .neq => if P.eqGuardType P.depth t = true then none else (aeq P 9 t (.agg a) (.agg b)).map fun r => .v (.bool !r)
      | _ => none
    | _, _ => none
  | .unOp op _ x =>
    match op, (ev σ x).dat with
    | .neg, some (.int k n) => some (.v (.int k (k.wrap (0 - n))))
    | .xor, some (.int k n) => some (.v (.int k (bits .xor k (if k.signed then -1 else k.max) n)))
    | .not, some (.bool b) => some (.v (.bool !b))
    | _, _ => none
  | .convert s d x =>
    if (aty P s).ok = false then none else
    match aty P d, (ev σ x).dat with
    | .int k, some (.int _ n) => some (.v (.int k (k.wrap n)))
    | .str, some (.str s) => some (.v (.str s))
    | _, _ => none
  | .fieldAddr t x f =>
    match aty P t with
    | .struct _ fs =>
      match fs[f]? with
      | some (off, sz, _) => if sz = 0 then none else
        match ev σ x with
        | .loc s o => some (.loc s (o + off))
        | .v (.ro cs) => some (.v (.ro (cs.drop off)))
        | _ => none
      | none => none
    | _ => none
  | .field t x f =>
    match P.underlying t, (ev σ x).dat with
    | some (.struct fs), some (.agg cs) => match fs[f]? with | some fd => (partA P fd.type cs fd.offset).map .v | none => none
    | _, _ => none
  | .indexAddr t x i =>
    match aty P t with
    | .slice _ sz _ =>
      match (ev σ x).dat, (ev σ i).dat with
      | some (.sl sz' xs), some (.int _ n) => if sz ≠ sz' ∨ sz = 0 then none else (ixA xs n).map fun e => .v (.ro e.cells)
      | _, _ => none
    | .arr _ len es _ =>
      match ev σ x, (ev σ i).dat with
      | .loc s o, some (.int _ n) => if 0 ≤ n ∧ n < (len : Int) ∧ es ≠ 0 then some (.loc s (o + n.toNat * es)) else none
      | .v (.ro cs), some (.int _ n) => if 0 ≤ n ∧ n < (len : Int) ∧ es ≠ 0 then some (.v (.ro (cs.drop (n.toNat * es)))) else none
      | _, _ => none
    | _ => none
  | .index t x i =>
    match aty P t, (ev σ x).dat, (ev σ i).dat with
    | .str, some (.str s), some (.int _ n) => if 0 ≤ n then (s[n.toNat]?).map fun b => .v (.int .u8 b.toNat) else none
    | _, _, _ => none
  | .load t x =>
    if (aty P t).size = 0 then none else
    match ev σ x with
    | .loc s o =>
      match get s σ.b with
      | some cs =>
        if (aty P t).isAgg = true then
          if o + (aty P t).size ≤ cs.length then (TV.dat.datL ((cs.drop o).take (aty P t).size)).map fun as => .v (.agg as) else none
        else cs[o]?
      | none => none
    | .v (.ro cs) =>
      if (aty P t).isAgg = true then
        if (aty P t).size ≤ cs.length then some (.v (.agg (cs.take (aty P t).size))) else none
      else (cs[0]?).map .v
    | _ => none
  | .extract x i => match ev σ x with | .tup vs => vs[i]? | _ => none
  | .build t parts =>
    match pieces P t, zeroC P t, datsOf (parts.toList.map fun p => (p.1, ev σ p.2)) with
    | some pl, some z, some ps => (fillA pl z ps).map fun cs => .v (.agg cs)
    | _, _, _ => none
  | .slice t x lo hi mx =>
    match mx, aty P t, (ev σ x).dat, optDat σ lo, optDat σ hi with
    | none, .str, some (.str s), some l, some h => (sliceA s.length l h).map fun p => .v (.str ((s.drop p.1).take (p.2 - p.1)))
    | none, .slice _ sz _, some (.sl sz' xs), some l, some h => if sz ≠ sz' ∨ sz = 0 then none else (sliceA xs.length l h).map fun p => .v (.sl sz ((xs.drop p.1).take (p.2 - p.1)))
    | _, _, _, _, _ => none
  | .makeFunc (.func f) first captured => if first.size = 0 then some (.fn f (captured.toList.map (ev σ))) else none
  | .nilCheck x =>
    match ev σ x with
    | .loc s o => some (.loc s o)
    | .v (.ro cs) => some (.v (.ro cs))
    | .fn f cs => some (.fn f cs)
    | .v (.fn f cs) => some (.v (.fn f cs))
    | _ => none
  | .makeInterface t x =>
    match aty P t, P.underlying t, (ev σ x).dat with
    | _, some (.interface _), _ => none
    | _, some _, some a => some (.v (.iface t a))
    | _, _, _ => none
  | .call { callee := .builtin .len, args, argTypes } =>
    match (argTypes[0]?).map (aty P), (args[0]?).map (fun x => (ev σ x).dat) with
    | some (.slice _ _ _), some (some (.sl _ xs)) => some (.v (.int .i64 xs.length))
    | some .str, some (some (.str s)) => some (.v (.int .i64 s.length))
    | some (.arr _ n _ _), some _ => some (.v (.int .i64 n))
    | _, _ => none
  | .call { callee := .builtin .min, args, .. } =>
    match args.toList.map (fun x => (ev σ x).dat) with
    | [some (.int k a), some (.int _ b)] => some (.v (.int k (if b < a then b else a)))
    | _ => none
  | .call { callee := .builtin .max, args, .. } =>
    match args.toList.map (fun x => (ev σ x).dat) with
    | [some (.int k a), some (.int _ b)] => some (.v (.int k (if b > a then b else a)))
    | _ => none
  | _ => none
end Go.Proofs.YtenigafbbdjagaaDoor.AL

/- What an operation makes of the slots it looks at: that the machine makes it. -/
namespace Go.Proofs.YtenigafbbdjagaaDoor.AL
open Go Go.RowKit
set_option linter.unusedVariables false
set_option linter.unusedSimpArgs false

section
variable {P : Program} {g : GS} {w : World} {σ : AS} {a : Act} {o : Oper}

def Makes (P : Program) (g : GS) (w : World) (a : Act) (o : Oper) (r : TV) : Prop := ∃ v, (execOp a.eval o).run P w = .ok (.value v) w ∧ RT g w r v

theorem runV {s : Sem Value} {v : Value} {w' : World} (h : s.run P w = .ok v w') : (do pure (Next.value (← s)) : Sem Next).run P w = .ok (.value v) w' := by
  simp [Sem.run_bind, h]

theorem datR (h : Tmps g w σ a) {x : Operand} {d : AV} (hd : (ev σ x).dat = some d) : R g.M d (a.eval x) := (ev_rt h x).dat hd

theorem int_inv {M : Mem} {k : IntKind} {n : Int} {v : Value} (h : R M (.int k n) v) : v = .int k n := by cases h; rfl
theorem bool_inv {M : Mem} {b : Bool} {v : Value} (h : R M (.bool b) v) : v = .bool b := by cases h; rfl
theorem str_inv {M : Mem} {s : List UInt8} {v : Value} (h : R M (.str s) v) : v = .string ⟨s.toArray⟩ := by cases h; rfl
theorem sl_inv {M : Mem} {sz : Nat} {xs : List AV} {v : Value} (h : R M (.sl sz xs) v) : (xs = [] ∧ ∃ a cap, v = .slice a 0 cap ∧ cap ≤ maxLen ∧ (a = none → cap = 0)) ∨ ∃ (b off cap : Nat) (vs : Nat → Value), v = .slice (some ⟨b, off, none⟩) xs.length cap ∧ xs.length ≤ cap ∧ cap ≤ maxLen ∧ (∀ x ∈ xs, x.cells.length = sz) ∧
    (∀ j c, (flat xs)[j]? = some c → M b (off + j) = some (vs j)) ∧ (∀ j c, (flat xs)[j]? = some c → R M c (vs j)) := by
  cases h with
  | slN => exact .inl ⟨rfl, none, 0, rfl, Nat.zero_le _, fun _ => rfl⟩
  | slE sz a cap hmax => exact .inl ⟨rfl, some a, cap, rfl, hmax, fun h => by cases h⟩
  | sl b off sz xs len cap vs hl hcap hmax hsz hM hR => subst hl; exact .inr ⟨b, off, cap, vs, rfl, hcap, hmax, hsz, hM, hR⟩
theorem ro_inv {M : Mem} {cs : List AV} {v : Value} (h : R M (.ro cs) v) : ∃ (b off : Nat) (vs : Nat → Value), v = .pointer (some ⟨b, off, none⟩) ∧ (∀ j c, cs[j]? = some c → M b (off + j) = some (vs j)) ∧ ∀ j c, cs[j]? = some c → R M c (vs j) := by
  cases h with
  | ro cs b off vs hM hR => exact ⟨b, off, vs, rfl, hM, hR⟩
theorem loc_inv {s off : Nat} {v : Value} (h : RT g w (.loc s off) v) : ∃ b, v = .pointer (some ⟨b, off, none⟩) ∧ g.φ s = some b := by
  cases h with
  | loc s off b h => exact ⟨b, rfl, h⟩
theorem v_inv {x : AV} {v : Value} (h : RT g w (.v x) v) : R g.M x v := by
  cases h with
  | v a x h => exact h

theorem ok_assign (h : Tmps g w σ a) {x : Operand} (ho : o.op = .move x ∨ o.op = .assign x) : Makes P g w a o (evT P o.type σ x) := by
  refine ⟨a.eval x, ?_, evT_rt h x⟩
  rcases ho with ho | ho <;> simp [execOp, ho]

theorem ok_pick (h : Tmps g w σ a) {c x y : Operand} {t : Bool} (ho : o.op = .pick c x y) (hc : ev σ c = .v (.bool t)) : Makes P g w a o (bif t then ev σ x else ev σ y) := by
  have h1 := ev_rt h c
  rw [hc] at h1
  have h2 := bool_inv (v_inv h1)
  refine ⟨if t = true then a.eval x else a.eval y, ?_, ?_⟩
  · simp [execOp, ho, h2, asBool]
  · cases t
    · exact ev_rt h y
    · exact ev_rt h x

theorem execBin {op : BinOp} {t yt : TypeId} {x y : Operand} (ho : o.op = .binOp op t x y yt) {r : Value}
    (hg : (eqGuard op t x y (a.eval x) (a.eval y)).run P w = .ok () w) (hr : (binOp op t (a.eval x) (a.eval y)).run P w = .ok r w) : (execOp a.eval o).run P w = .ok (.value r) w := by
  simp only [execOp, ho]
  refine runV ?_
  simp [Sem.run_bind, hg, hr]

theorem eqGuard_plain {op : BinOp} {t : TypeId} {x y : Operand} {u v : Value} (h : ∀ c, u ≠ .agg c) (h' : u ≠ .nilIface) : (eqGuard op t x y u v).run P w = .ok () w := by
  cases u <;> first | exact absurd rfl h' | exact absurd rfl (h _) | (cases op <;> simp [eqGuard])

theorem eqGuard_agg {op : BinOp} {t : TypeId} {x y : Operand} {c : Array Value} {v : Value} (hg : ¬ P.eqGuardType P.depth t = true) : (eqGuard op t x y (.agg c) v).run P w = .ok () w := by
  cases v <;> cases op <;> simp [eqGuard, hg]

theorem ok_int {op : BinOp} {k : IntKind} {m n : Int} {t : TypeId} {r : AV} (hs : op ≠ .shl ∧ op ≠ .shr) (h : binI op k m n = some r) : ∃ v, (binOp op t (.int k m) (.int k n)).run P w = .ok v w ∧ R g.M r v := by
  unfold binI at h
  split at h
  · cases h; exact ⟨_, by simp [binOp, Op.intArith], .int _ _⟩
  · cases h; exact ⟨_, by simp [binOp, Op.intArith], .int _ _⟩
  · cases h; exact ⟨_, by simp [binOp, Op.intArith], .int _ _⟩
  · split at h
    · cases h
    · rename_i hn; cases h; exact ⟨_, by simp [binOp, Op.intDiv, hn], .int _ _⟩
  · split at h
    · cases h
    · rename_i hn; cases h; exact ⟨_, by simp [binOp, Op.intDiv, hn], .int _ _⟩
  · cases h; exact ⟨_, by simp [binOp, intBits_and], .int _ _⟩
  · cases h; exact ⟨_, by simp [binOp, intBits_or], .int _ _⟩
  · cases h; exact ⟨_, by simp [binOp, intBits_xor], .int _ _⟩
  · cases h; exact ⟨.int k (bits .andNot k m n), by simp only [binOp]; simp; rfl, .int _ _⟩
  · cases h; exact ⟨_, by simp [binOp, Op.intCmp]; rfl, by rw [show decide (m = n) = (m == n) from rfl]; exact .bool _⟩
  · cases h; exact ⟨_, by simp [binOp, Op.intCmp]; rfl, by rw [show (!decide (m = n)) = (m != n) from rfl]; exact .bool _⟩
  · cases h; exact ⟨_, by simp [binOp, Op.intCmp], .bool _⟩
  · cases h; exact ⟨_, by simp [binOp, Op.intCmp], .bool _⟩
  · cases h; exact ⟨_, by simp [binOp, Op.intCmp], .bool _⟩
  · cases h; exact ⟨_, by simp [binOp, Op.intCmp], .bool _⟩
  · cases h

theorem ok_sh {op : BinOp} {k k' : IntKind} {m n : Int} {t : TypeId} {r : AV} (hs : op = .shl ∨ op = .shr) (h : shI op k m n = some r) : ∃ v, (binOp op t (.int k m) (.int k' n)).run P w = .ok v w ∧ R g.M r v := by
  unfold shI at h
  split at h
  · cases h
  · rename_i hn
    rcases hs with rfl | rfl
    · cases h; exact ⟨_, by simp [binOp, Op.shift, hn], .int _ _⟩
    · cases h; exact ⟨_, by simp [binOp, Op.shift, hn], .int _ _⟩

theorem toList_mk (s : List UInt8) : (ByteArray.mk s.toArray).toList = s := by rw [ByteArray.toList_eq]

theorem ok_str {op : BinOp} {m n : List UInt8} {t : TypeId} {r : AV} (h : binS op m n = some r) : ∃ v, (binOp op t (.string ⟨m.toArray⟩) (.string ⟨n.toArray⟩)).run P w = .ok v w ∧ R g.M r v := by
  have e1 : (m == n) = decide (m = n) := by rw [Bool.eq_iff_iff]; simp
  unfold binS at h
  split at h
  · split at h
    · rename_i hl
      cases h
      refine ⟨.string ⟨(m ++ n).toArray⟩, ?_, .str _⟩
      have h1 : ¬ ((((ByteArray.mk m.toArray).size + (ByteArray.mk n.toArray).size : Nat) : Int) > IntKind.i64.max) := by
        have : IntKind.i64.max = 9223372036854775807 := by decide
        rw [this]
        simp only [ByteArray.size, List.size_toArray]; omega
      have h2 : ByteArray.mk m.toArray ++ ByteArray.mk n.toArray = ByteArray.mk (m ++ n).toArray := ByteArray.mk_append_mk m n
      simp only [binOp, Op.stringOp, h1, if_false, h2]
      rfl
    · cases h
  all_goals first
    | (cases h; exact ⟨_, by simp only [binOp, Op.stringOp, toList_mk, e1]; rfl, .bool _⟩)
    | cases h

theorem ok_bin (h : Tmps g w σ a) {op : BinOp} {t yt : TypeId} {x y : Operand} {r : TV} (ho : o.op = .binOp op t x y yt) (he : evalP P σ o = some r) : Makes P g w a o r := by
  simp only [evalP, ho] at he
  split at he
  · rename_i k m k' n hx hy
    have vx := int_inv (datR h hx)
    have vy := int_inv (datR h hy)
    have hg : (eqGuard op t x y (a.eval x) (a.eval y)).run P w = .ok () w := eqGuard_plain (by rw [vx]; simp) (by rw [vx]; simp)
    by_cases hs : op = .shl ∨ op = .shr
    · have he' : (shI op k m n).map TV.v = some r := by rcases hs with rfl | rfl <;> exact he
      obtain ⟨q, hq, rfl⟩ := Option.map_eq_some_iff.1 he'
      obtain ⟨v, hv, hR⟩ := ok_sh (P := P) (g := g) (w := w) (k' := k') (t := t) hs hq
      exact ⟨v, execBin ho hg (by rw [vx, vy]; exact hv), .v _ _ hR⟩
    · have he' : (if k = k' then (binI op k m n).map TV.v else none) = some r := by
        cases op <;> first | exact he | simp at hs
      split at he'
      · rename_i hk
        subst hk
        obtain ⟨q, hq, rfl⟩ := Option.map_eq_some_iff.1 he'
        obtain ⟨v, hv, hR⟩ := ok_int (P := P) (g := g) (w := w) (t := t) ⟨fun e => hs (.inl e), fun e => hs (.inr e)⟩ hq
        exact ⟨v, execBin ho hg (by rw [vx, vy]; exact hv), .v _ _ hR⟩
      · cases he'
  · rename_i m n hx hy
    have vx := str_inv (datR h hx)
    have vy := str_inv (datR h hy)
    obtain ⟨q, hq, rfl⟩ := Option.map_eq_some_iff.1 he
    obtain ⟨v, hv, hR⟩ := ok_str (P := P) (g := g) (w := w) (t := t) hq
    exact ⟨v, execBin ho (eqGuard_plain (by rw [vx]; simp) (by rw [vx]; simp)) (by rw [vx, vy]; exact hv), .v _ _ hR⟩
  · rename_i m n hx hy
    have rx := datR h hx
    have ry := datR h hy
    have vx := bool_inv rx
    have vy := bool_inv ry
    have hg : (eqGuard op t x y (a.eval x) (a.eval y)).run P w = .ok () w := eqGuard_plain (by rw [vx]; simp) (by rw [vx]; simp)
    split at he <;> first | cases he | skip
    · obtain ⟨q, hq, rfl⟩ := Option.map_eq_some_iff.1 he
      have := run_aeq 9 t _ _ q hq Op.maxDepth (by decide) _ _ w rx ry
      rw [vx, vy] at this
      exact ⟨.bool q, execBin ho hg (by rw [vx, vy]; simp [binOp, Op.equal, this]), .v _ _ (.bool _)⟩
    · obtain ⟨q, hq, rfl⟩ := Option.map_eq_some_iff.1 he
      have := run_aeq 9 t _ _ q hq Op.maxDepth (by decide) _ _ w rx ry
      rw [vx, vy] at this
      exact ⟨.bool !q, execBin ho hg (by rw [vx, vy]; simp [binOp, Op.equal, this]), .v _ _ (.bool _)⟩
  · rename_i m n hx hy
    have rx := datR h hx
    have ry := datR h hy
    obtain ⟨as, vx, _⟩ := agg_inv rx
    obtain ⟨bs, vy, _⟩ := agg_inv ry
    split at he <;> first | cases he | skip
    · split at he
      · cases he
      · rename_i hgt
        obtain ⟨q, hq, rfl⟩ := Option.map_eq_some_iff.1 he
        have := run_aeq 9 t _ _ q hq Op.maxDepth (by decide) _ _ w rx ry
        rw [vx, vy] at this
        exact ⟨.bool q, execBin ho (by rw [vx]; exact eqGuard_agg hgt) (by rw [vx, vy]; simp [binOp, Op.equal, this]), .v _ _ (.bool _)⟩
    · split at he
      · cases he
      · rename_i hgt
        obtain ⟨q, hq, rfl⟩ := Option.map_eq_some_iff.1 he
        have := run_aeq 9 t _ _ q hq Op.maxDepth (by decide) _ _ w rx ry
        rw [vx, vy] at this
        exact ⟨.bool !q, execBin ho (by rw [vx]; exact eqGuard_agg hgt) (by rw [vx, vy]; simp [binOp, Op.equal, this]), .v _ _ (.bool _)⟩
  · cases he

/-! ### Addresses and memory -/
theorem fields_at {P : Program} {t : TypeId} {sz : Nat} {fs : List (Nat × Nat × Bool)} (h : aty P t = .struct sz fs) {f off fz : Nat} {b : Bool} (hf : fs[f]? = some (off, fz, b)) :
    ∃ gs fd, P.underlying t = some (.struct gs) ∧ gs[f]? = some fd ∧ fd.offset = off ∧ szB P fd.type = fz := by
  obtain ⟨gs, hu, _, hm⟩ := aty_struct h
  subst hm
  rw [List.getElem?_map] at hf
  cases hg : gs.toList[f]? with
  | none => simp [hg] at hf
  | some fd =>
    simp only [hg, Option.map_some, Option.some.injEq, Prod.mk.injEq] at hf
    exact ⟨gs, fd, hu, by simpa using hg, hf.1, hf.2.1⟩

theorem add_none (b o n : Nat) : (⟨b, o, none⟩ : Addr).add n = ⟨b, o + n, none⟩ := by unfold Addr.add; split <;> simp_all

theorem run_fieldAt {t : TypeId} {sz : Nat} {fs : List (Nat × Nat × Bool)} (h : aty P t = .struct sz fs) {f off fz : Nat} {c : Bool} (hf : fs[f]? = some (off, fz, c)) (hz : fz ≠ 0) (b o : Nat) :
    (Instr.fieldAt t (.pointer (some ⟨b, o, none⟩)) f).run P w = .ok (.pointer (some ⟨b, o + off, none⟩)) w := by
  obtain ⟨gs, fd, hu, hg, rfl, hs⟩ := fields_at h hf
  simp [Instr.fieldAt, Sem.run_bind, run_underlying hu, hg, Instr.sureAddr, fieldPlace, run_sizeOf hs hz, hz, add_none]

theorem ro_drop {M : Mem} {cs : List AV} {n b off : Nat} {vs : Nat → Value} (hM : ∀ j c, cs[j]? = some c → M b (off + j) = some (vs j)) (hR : ∀ j c, cs[j]? = some c → R M c (vs j)) :
    R M (.ro (cs.drop n)) (.pointer (some ⟨b, off + n, none⟩)) := by
  refine .ro _ b (off + n) (fun j => vs (n + j)) (fun j c hj => ?_) (fun j c hj => ?_)
  · rw [List.getElem?_drop] at hj; rw [Nat.add_assoc]; exact hM _ c hj
  · rw [List.getElem?_drop] at hj; exact hR _ c hj

theorem ok_fieldAddr (h : Tmps g w σ a) {t : TypeId} {x : Operand} {f : Nat} {r : TV} (ho : o.op = .fieldAddr t x f) (he : evalP P σ o = some r) : Makes P g w a o r := by
  simp only [evalP, ho] at he
  split at he
  · rename_i sz fs hty
    split at he
    · rename_i off fz c hf
      split at he
      · cases he
      · rename_i hz
        have hx := ev_rt h x
        split at he
        · rename_i s o' hs
          cases he
          rw [hs] at hx
          obtain ⟨b, hv, hφ⟩ := loc_inv hx
          exact ⟨_, by simp only [execOp, ho]; exact runV (by rw [hv]; exact run_fieldAt hty hf hz b o'), .loc s _ b hφ⟩
        · rename_i cs hs
          cases he
          rw [hs] at hx
          obtain ⟨b, o', vs, hv, hM, hR⟩ := ro_inv (v_inv hx)
          exact ⟨_, by simp only [execOp, ho]; exact runV (by rw [hv]; exact run_fieldAt hty hf hz b o'), .v _ _ (ro_drop hM hR)⟩
        · cases he
    · cases he
  · cases he

theorem ok_field (h : Tmps g w σ a) {t : TypeId} {x : Operand} {f : Nat} {r : TV} (ho : o.op = .field t x f) (he : evalP P σ o = some r) : Makes P g w a o r := by
  simp only [evalP, ho] at he
  split at he
  · rename_i fs cs hu hx
    split at he
    · rename_i fd hf
      obtain ⟨q, hq, rfl⟩ := Option.map_eq_some_iff.1 he
      obtain ⟨vs, hv, hn, h1, hR⟩ := agg_inv (datR h hx)
      obtain ⟨v, hp, hpR⟩ := run_part hn h1 hR hq w
      exact ⟨v, by simp only [execOp, ho]; exact runV (by simp [Instr.field, Sem.run_bind, run_underlying hu, hf, hv, asAgg, hp]), .v _ _ hpR⟩
    · cases he
  · cases he

theorem flat_at {sz : Nat} : ∀ (xs : List AV), (∀ x ∈ xs, x.cells.length = sz) → ∀ (i : Nat) (e : AV), xs[i]? = some e → ∀ (j : Nat) c, e.cells[j]? = some c → (flat xs)[i * sz + j]? = some c
  | [], _, i, e, he, _, _, _ => by simp at he
  | x :: xs, hs, i, e, he, j, c, hc => by
    have hx := hs x (by simp)
    cases i with
    | zero =>
      simp only [List.getElem?_cons_zero, Option.some.injEq] at he
      subst he
      have hlt : j < x.cells.length := (List.getElem?_eq_some_iff.1 hc).1
      simp only [flat, List.flatMap_cons, Nat.zero_mul, Nat.zero_add]
      rw [List.getElem?_append_left hlt]; exact hc
    | succ i =>
      simp only [List.getElem?_cons_succ] at he
      have ih := flat_at xs (fun y hy => hs y (by simp [hy])) i e he j c hc
      simp only [flat, List.flatMap_cons]
      rw [List.getElem?_append_right (by rw [hx, Nat.succ_mul]; omega), hx]
      rw [show (i + 1) * sz + j - sz = i * sz + j by rw [Nat.succ_mul]; omega]
      exact ih

theorem ixA_some {xs : List AV} {n : Int} {e : AV} (h : ixA xs n = some e) : 0 ≤ n ∧ n < xs.length ∧ xs[n.toNat]? = some e := by
  unfold ixA at h
  split at h
  · rename_i h0
    have := (List.getElem?_eq_some_iff.1 h).1
    exact ⟨h0, by omega, h⟩
  · cases h

theorem ok_indexAddr (h : Tmps g w σ a) {t : TypeId} {x i : Operand} {r : TV} (ho : o.op = .indexAddr t x i) (he : evalP P σ o = some r) : Makes P g w a o r := by
  simp only [evalP, ho] at he
  split at he
  · rename_i e sz by_ hty
    obtain ⟨hu, hsz, _⟩ := aty_slice hty
    split at he
    · rename_i sz' xs k n hx hi
      split at he
      · cases he
      · rename_i hc
        obtain ⟨rfl, hz⟩ : sz = sz' ∧ sz ≠ 0 := by omega
        obtain ⟨el, hel, rfl⟩ := Option.map_eq_some_iff.1 he
        obtain ⟨h0, hlt, hat⟩ := ixA_some hel
        have vi := int_inv (datR h hi)
        rcases sl_inv (datR h hx) with ⟨rfl, _⟩ | ⟨b, off, cap, vs, hv, _, _, hs, hM, hR⟩
        · simp at hat
        · refine ⟨.pointer (some ⟨b, off + n.toNat * sz, none⟩), ?_, ?_⟩
          · simp only [execOp, ho]
            refine runV ?_
            rw [hv, vi]
            simp only [Instr.indexAt, asIntOf, Sem.run_bind, Sem.run_pure, Result.andThen_ok, run_underlying hu]
            have hb : 0 ≤ n ∧ n < (xs.length : Int) := ⟨h0, hlt⟩
            simp [hb, run_sizeOf hsz hz, add_none]
          · refine .v _ _ (.ro _ b _ (fun j => vs (n.toNat * sz + j)) (fun j c hj => ?_) (fun j c hj => ?_))
            · rw [Nat.add_assoc]; exact hM _ c (flat_at xs hs _ el hat j c hj)
            · exact hR _ c (flat_at xs hs _ el hat j c hj)
    · cases he
  · rename_i sz len es ag hty
    obtain ⟨e, hu, _, hes, _⟩ := aty_arr hty
    have hx := ev_rt h x
    split at he
    · rename_i s o' k n hs hi
      split at he
      · rename_i hc
        cases he
        have vi := int_inv (datR h hi)
        rw [hs] at hx
        obtain ⟨b, hv, hφ⟩ := loc_inv hx
        refine ⟨.pointer (some ⟨b, o' + n.toNat * es, none⟩), ?_, .loc s _ b hφ⟩
        simp only [execOp, ho]
        refine runV ?_
        rw [hv, vi]
        have hb : 0 ≤ n ∧ n < (len : Int) := ⟨hc.1, hc.2.1⟩
        simp [Instr.indexAt, asIntOf, run_underlying hu, Instr.sureAddr, hb, run_sizeOf hes hc.2.2, add_none]
      · cases he
    · rename_i cs k n hs hi
      split at he
      · rename_i hc
        cases he
        have vi := int_inv (datR h hi)
        rw [hs] at hx
        obtain ⟨b, o', vs, hv, hM, hR⟩ := ro_inv (v_inv hx)
        refine ⟨.pointer (some ⟨b, o' + n.toNat * es, none⟩), ?_, .v _ _ (ro_drop hM hR)⟩
        simp only [execOp, ho]
        refine runV ?_
        rw [hv, vi]
        have hb : 0 ≤ n ∧ n < (len : Int) := ⟨hc.1, hc.2.1⟩
        simp [Instr.indexAt, asIntOf, run_underlying hu, Instr.sureAddr, hb, run_sizeOf hes hc.2.2, add_none]
      · cases he
    · cases he
  · cases he

theorem ok_index (h : Tmps g w σ a) {t : TypeId} {x i : Operand} {r : TV} (ho : o.op = .index t x i) (he : evalP P σ o = some r) : Makes P g w a o r := by
  simp only [evalP, ho] at he
  split at he
  · rename_i s k n hty hx hi
    split at he
    · rename_i h0
      obtain ⟨b, hb, rfl⟩ := Option.map_eq_some_iff.1 he
      have vi := int_inv (datR h hi)
      have vx := str_inv (datR h hx)
      have hu : P.underlying t = some .string := by
        unfold aty at hty
        cases hu : P.underlying t with
        | none => simp [hu] at hty
        | some d => cases d <;> simp only [hu] at hty <;> first | rfl | (cases hs : szB P t == 1 <;> simp [hs] at hty; done) | cases hty
      refine ⟨.int .u8 b.toNat, ?_, .v _ _ (.int _ _)⟩
      simp only [execOp, ho]
      refine runV ?_
      rw [vx, vi]
      have hlt := (List.getElem?_eq_some_iff.1 hb)
      obtain ⟨hl, hbe⟩ := hlt
      have hb' : (ByteArray.mk s.toArray)[n.toNat]? = some b := by
        have : n.toNat < (ByteArray.mk s.toArray).size := by simpa [ByteArray.size] using hl
        rw [getElem?_pos (ByteArray.mk s.toArray) n.toNat this]
        simp only [Option.some.injEq]
        rw [← hbe]; rfl
      simp [Instr.index, asIntOf, run_underlying hu, h0, hb']
    · cases he
  · cases he
end
end Go.Proofs.YtenigafbbdjagaaDoor.AL

/- What an operation makes of the slots it looks at: loads, parts, literals; and all of them. -/
namespace Go.Proofs.YtenigafbbdjagaaDoor.AL
open Go Go.RowKit
set_option linter.unusedVariables false
set_option linter.unusedSimpArgs false

section
variable {P : Program} {g : GS} {w : World} {σ : AS} {a : Act} {o : Oper} {bx : List (Nat × List TV)} {k : List Nat}

theorem not_none_of_size {P : Program} {t : TypeId} (h : ¬ (aty P t).size = 0) : aty P t ≠ .none := by
  intro e; rw [e] at h; exact h rfl

theorem run_loadAgg {t : TypeId} (hz : ¬ (aty P t).size = 0) (hg : (aty P t).isAgg = true) {b off : Nat} {cs : List Value} (hl : cs.length = (aty P t).size)
    (hc : ∀ (j : Nat) v, cs[j]? = some v → w.cell? ⟨b, off + j, none⟩ = some v) : (Instr.loadAt t (.pointer (some ⟨b, off, none⟩))).run P w = .ok (.agg cs.toArray) w := by
  have hn := not_none_of_size hz
  rw [size_aty hn] at hz hl
  have hag := aggB_of hn
  rw [hg] at hag
  have hl' : (loadCells ⟨b, off, none⟩ cs.length).run P w = .ok cs.toArray w :=
    run_loadCells_list (P := P) w ⟨b, off, none⟩ cs (fun j v hv => by rw [add_none]; exact hc j v hv)
  simp only [Instr.loadAt, Instr.sureAddr, Sem.run_bind, Sem.run_pure, Result.andThen_ok, loadVar, run_isAgg hn, ← hag, if_true, run_sizeOf rfl hz]
  rw [← hl, hl']
  rfl

theorem run_loadOne {t : TypeId} (hz : ¬ (aty P t).size = 0) (hg : ¬ (aty P t).isAgg = true) {b off : Nat} {v : Value} (hc : w.cell? ⟨b, off, none⟩ = some v) :
    (Instr.loadAt t (.pointer (some ⟨b, off, none⟩))).run P w = .ok v w := by
  have hn := not_none_of_size hz
  have hag := aggB_of hn
  have hg' : aggB P t = false := by rw [← hag]; simpa using hg
  simp only [Instr.loadAt, Instr.sureAddr, Sem.run_bind, Sem.run_pure, Result.andThen_ok, loadVar, run_isAgg hn, hg']
  simp [run_load, hc]

theorem datL_R {cs : List TV} {as : List AV} (h : TV.dat.datL cs = some as) {vs : Nat → Option Value} (hR : ∀ (j : Nat) c v, cs[j]? = some c → vs j = some v → RT g w c v) {j : Nat} {x : AV} {v : Value} (hx : as[j]? = some x) (hv : vs j = some v) : R g.M x v := by
  obtain ⟨_, q⟩ := datL_at h
  obtain ⟨c, hc, hd⟩ := q j x hx
  exact (hR j c v hc hv).dat hd

theorem ok_load (hw : Wf g w σ.b σ.k) (h : Tmps g w σ a) {t : TypeId} {x : Operand} {r : TV} (ho : o.op = .load t x) (he : evalP P σ o = some r) : Makes P g w a o r := by
  simp only [evalP, ho] at he
  split at he
  · cases he
  · rename_i hz
    have hx := ev_rt h x
    split at he
    · rename_i s off hs
      rw [hs] at hx
      obtain ⟨b, hv, hφ⟩ := loc_inv hx
      split at he
      · rename_i cs hb
        obtain ⟨b', vs, e, q1, q2, q3, q4, q5⟩ := hw.box s cs hb
        rw [hφ] at q1; cases q1
        have hcell : ∀ (j : Nat) v, vs[j]? = some v → w.cell? ⟨b, j, none⟩ = some v := fun j v hj => by simp [World.cell?, q2, hj]
        split at he
        · rename_i hg
          split at he
          · rename_i hle
            obtain ⟨as, has, rfl⟩ := Option.map_eq_some_iff.1 he
            obtain ⟨l1, l2⟩ := datL_at has
            refine ⟨.agg (vs.toList.drop off |>.take (aty P t).size).toArray, ?_, ?_⟩
            · simp only [execOp, ho]
              refine runV ?_
              rw [hv]
              refine run_loadAgg hz hg ?_ ?_
              · simp [q3] at hle ⊢; omega
              · intro j v hj
                rw [List.getElem?_take] at hj
                split at hj
                · rw [List.getElem?_drop] at hj; exact hcell _ v (by simpa using hj)
                · cases hj
            · refine .v _ _ (.agg _ _ ?_ ?_ ?_)
              · rw [← l1]; simp [q3]
              · intro j v hj
                have hj' : (vs.toList.drop off |>.take (aty P t).size)[j]? = some v := by simpa using hj
                rw [List.getElem?_take] at hj'
                split at hj'
                · rw [List.getElem?_drop] at hj'
                  have hj'' : vs[off + j]? = some v := by simpa using hj'
                  have hlt : off + j < cs.length := by rw [q3]; exact (Array.getElem?_eq_some_iff.1 hj'').1
                  exact (q4 (off + j) cs[off + j] v (by simp [hlt]) hj'').2
                · cases hj'
              · intro j c v hc hj
                have hj' : (vs.toList.drop off |>.take (aty P t).size)[j]? = some v := by simpa using hj
                rw [List.getElem?_take] at hj'
                split at hj'
                · rename_i hjt
                  rw [List.getElem?_drop] at hj'
                  obtain ⟨c', hc', hd⟩ := l2 j c hc
                  rw [List.getElem?_take, if_pos hjt, List.getElem?_drop] at hc'
                  exact (q4 (off + j) c' v hc' (by simpa using hj')).1.dat hd
                · cases hj'
          · cases he
        · rename_i hg
          have hlt : off < vs.size := by rw [← q3]; exact (List.getElem?_eq_some_iff.1 he).1
          refine ⟨vs[off], ?_, (q4 off r _ he (by simp [hlt])).1⟩
          simp only [execOp, ho]
          refine runV ?_
          rw [hv]
          exact run_loadOne hz hg (hcell off _ (by simp [hlt]))
      · cases he
    · rename_i cs hs
      rw [hs] at hx
      obtain ⟨b, off, vs, hv, hM, hR⟩ := ro_inv (v_inv hx)
      split at he
      · rename_i hg
        split at he
        · rename_i hle
          cases he
          refine ⟨.agg ((List.range (aty P t).size).map vs).toArray, ?_, ?_⟩
          · simp only [execOp, ho]
            refine runV ?_
            rw [hv]
            refine run_loadAgg hz hg (by simp) ?_
            intro j v hj
            rw [List.getElem?_map] at hj
            by_cases hjt : j < (aty P t).size
            · rw [List.getElem?_range hjt] at hj
              simp only [Option.map_some, Option.some.injEq] at hj
              subst hj
              exact (hw.mem b (off + j) _ (hM j (cs[j]'(by omega)) (List.getElem?_eq_getElem _))).1
            · rw [List.getElem?_eq_none (by simp; omega)] at hj; simp at hj
          · refine .v _ _ (.agg _ _ (by simp; omega) ?_ ?_)
            · intro j v hj
              simp only [List.getElem?_toArray, List.getElem?_map] at hj
              by_cases hjt : j < (aty P t).size
              · rw [List.getElem?_range hjt] at hj
                simp only [Option.map_some, Option.some.injEq] at hj
                subst hj
                exact (hw.mem b (off + j) _ (hM j (cs[j]'(by omega)) (List.getElem?_eq_getElem _))).2
              · rw [List.getElem?_eq_none (by simp; omega)] at hj; simp at hj
            · intro j c v hc hj
              simp only [List.getElem?_toArray, List.getElem?_map] at hj
              rw [List.getElem?_take] at hc
              split at hc
              · rename_i hjt
                rw [List.getElem?_range hjt] at hj
                simp only [Option.map_some, Option.some.injEq] at hj
                subst hj
                exact hR j c hc
              · cases hc
        · cases he
      · rename_i hg
        obtain ⟨c, hc, rfl⟩ := Option.map_eq_some_iff.1 he
        refine ⟨vs 0, ?_, .v _ _ (hR 0 c hc)⟩
        simp only [execOp, ho]
        refine runV ?_
        rw [hv]
        exact run_loadOne hz hg (hw.mem b off _ (hM 0 c hc)).1
    · cases he

theorem ok_extract (h : Tmps g w σ a) {x : Operand} {i : Nat} {r : TV} (ho : o.op = .extract x i) (he : evalP P σ o = some r) : Makes P g w a o r := by
  simp only [evalP, ho] at he
  have hx := ev_rt h x
  split at he
  · rename_i vs hs
    rw [hs] at hx
    generalize hgv : a.eval x = u at hx
    cases hx with
    | tup cs us hn hR =>
      have hlt : i < us.size := by rw [← hn]; exact (List.getElem?_eq_some_iff.1 he).1
      refine ⟨us[i], ?_, hR i r _ he (by simp [hlt])⟩
      simp only [execOp, ho]
      refine runV ?_
      rw [hgv]
      simp [Instr.extract, hlt]
  · cases he

theorem ok_unOp (h : Tmps g w σ a) {op : UnOp} {t : TypeId} {x : Operand} {r : TV} (ho : o.op = .unOp op t x) (he : evalP P σ o = some r) : Makes P g w a o r := by
  simp only [evalP, ho] at he
  split at he
  · rename_i k n hx
    cases he
    have vx := int_inv (datR h hx)
    exact ⟨_, by simp only [execOp, ho]; exact runV (by rw [vx]; simp [Op.unary, Op.intArith]), .v _ _ (.int _ _)⟩
  · rename_i k n hx
    cases he
    have vx := int_inv (datR h hx)
    exact ⟨_, by simp only [execOp, ho]; exact runV (by rw [vx]; simp [Op.unary, intBits_xor]), .v _ _ (.int _ _)⟩
  · rename_i b hx
    cases he
    have vx := bool_inv (datR h hx)
    exact ⟨_, by simp only [execOp, ho]; exact runV (by rw [vx]; simp [Op.unary]), .v _ _ (.bool _)⟩
  · cases he

theorem aty_int {P : Program} {t : TypeId} {k : IntKind} (h : aty P t = .int k) : P.underlying t = some (.int k) := by
  unfold aty at h
  cases hu : P.underlying t with
  | none => simp [hu] at h
  | some d => cases d <;> simp only [hu] at h <;> first | (cases hs : szB P t == 1 <;> simp [hs] at h; subst h; rfl) | (cases hs : szB P t == 1 <;> simp [hs] at h; done) | cases h
theorem aty_str {P : Program} {t : TypeId} (h : aty P t = .str) : P.underlying t = some .string := by
  unfold aty at h
  cases hu : P.underlying t with
  | none => simp [hu] at h
  | some d => cases d <;> simp only [hu] at h <;> first | rfl | (cases hs : szB P t == 1 <;> simp [hs] at h; done) | cases h
theorem under_of {P : Program} {t : TypeId} (h : aty P t ≠ .none) : ∃ d, P.underlying t = some d := by
  cases hu : P.underlying t with
  | none => exfalso; apply h; simp [aty, hu]
  | some d => exact ⟨d, rfl⟩

theorem ok_convert (h : Tmps g w σ a) {s d : TypeId} {x : Operand} {r : TV} (ho : o.op = .convert s d x) (he : evalP P σ o = some r) : Makes P g w a o r := by
  simp only [evalP, ho] at he
  split at he
  · cases he
  rename_i hok
  obtain ⟨u, hu⟩ : ∃ u, P.underlying s = some u := under_of (by intro e; rw [e] at hok; exact hok rfl)
  split at he
  · rename_i k k' n hd hx
    cases he
    have vx := int_inv (datR h hx)
    exact ⟨_, by simp only [execOp, ho]; exact runV (by rw [vx]; simp [convert, run_underlying hu, run_underlying (aty_int hd), Conv.intToInt]), .v _ _ (.int _ _)⟩
  · rename_i l hd hx
    cases he
    have vx := str_inv (datR h hx)
    exact ⟨_, by simp only [execOp, ho]; exact runV (by rw [vx]; simp [convert, run_underlying hu, run_underlying (aty_str hd)]), .v _ _ (.str _)⟩
  · cases he

theorem ok_makeFunc (h : Tmps g w σ a) {f : Fn} {first captured : Array Operand} {r : TV} (ho : o.op = .makeFunc f first captured) (he : evalP P σ o = some r) : Makes P g w a o r := by
  cases f <;> simp only [evalP, ho] at he <;> first | cases he | skip
  rename_i f
  split at he
  · rename_i hf
    cases he
    have hf' : first = #[] := by simpa using hf
    subst hf'
    refine ⟨.func (.func f) #[] (captured.map a.eval), by simp only [execOp, ho]; exact runV (by simp [Instr.makeFunc]), .fn _ _ _ (by simp) fun j c v hc hv => ?_⟩
    simp only [List.getElem?_map] at hc
    rw [Array.getElem?_map] at hv
    cases hj : captured[j]? with
    | none => simp [hj] at hv
    | some x =>
      have hj' : captured.toList[j]? = some x := by simpa using hj
      simp only [hj', Option.map_some, Option.some.injEq] at hc
      simp only [hj, Option.map_some, Option.some.injEq] at hv
      subst hc; subst hv
      exact ev_rt h x
  · cases he

theorem ok_nilCheck (h : Tmps g w σ a) {x : Operand} {r : TV} (ho : o.op = .nilCheck x) (he : evalP P σ o = some r) : Makes P g w a o r := by
  simp only [evalP, ho] at he
  have hx := ev_rt h x
  refine ⟨a.eval x, ?_, ?_⟩
  · split at he
    · rename_i s off hs
      rw [hs] at hx
      obtain ⟨b, hv, _⟩ := loc_inv hx
      simp only [execOp, ho, hv]; rfl
    · rename_i cs hs
      rw [hs] at hx
      obtain ⟨b, off, vs, hv, _⟩ := ro_inv (v_inv hx)
      simp only [execOp, ho, hv]; rfl
    · rename_i f cs hs
      rw [hs] at hx
      generalize hg : a.eval x = u at hx
      cases hx with
      | fn f cs vs hn hR => simp only [execOp, ho, hg]; rfl
    · rename_i f cs hs
      rw [hs] at hx
      generalize hg : a.eval x = u at hx
      cases hx with
      | v q u hq => cases hq with | fn f cs vs hn hR => simp only [execOp, ho, hg]; rfl
    · cases he
  · split at he
    all_goals first
      | (rename_i hs; rw [hs] at hx; simp only [Option.some.injEq] at he; subst he; exact hx)
      | cases he

theorem ok_iface (h : Tmps g w σ a) {t : TypeId} {x : Operand} {r : TV} (ho : o.op = .makeInterface t x) (he : evalP P σ o = some r) : Makes P g w a o r := by
  simp only [evalP, ho] at he
  split at he
  · cases he
  · rename_i d y hni hu hx
    cases he
    refine ⟨_, ?_, .v _ _ (.iface t y _ (datR h hx))⟩
    simp only [execOp, ho]
    refine runV ?_
    cases d <;> first | (simp [Instr.makeInterface, run_underlying hu]; done) | exact (hni _ rfl).elim
  · cases he

theorem ok_len (h : Tmps g w σ a) {args : Array Operand} {ats : Array TypeId} {r : TV} (ho : o.op = .call { callee := .builtin .len, args, argTypes := ats }) (he : evalP P σ o = some r) : Makes P g w a o r := by
  simp only [evalP, ho] at he
  cases hat : ats[0]? with
  | none => simp [hat] at he
  | some t =>
    cases har : args[0]? with
    | none => simp only [hat, har, Option.map_none] at he; split at he <;> first | (rename_i q1 q2; cases q2; done) | cases he
    | some x =>
      simp only [hat, har, Option.map_some] at he
      have key : ∀ (n : Int), (Builtin.len_ ats o.type (args.map a.eval)).run P w = .ok (.int .i64 n) w → Makes P g w a o (.v (.int .i64 n)) := fun n hn =>
        ⟨.int .i64 n, by simp only [execOp, ho, Sem.run_bind, resolve, Sem.run_pure, Result.andThen_ok, invoke, builtin]; simp [hn], .v _ _ (.int _ _)⟩
      have hx0 : (args.map a.eval)[0]? = some (a.eval x) := by rw [Array.getElem?_map, har]; rfl
      split at he
      · rename_i e sz by_ sz' xs q1 q2
        simp only [Option.some.injEq] at q1 q2 he
        subst he
        refine key _ ?_
        rcases sl_inv (datR h q2) with ⟨rfl, _, _, hv, _⟩ | ⟨b, off, cap, vs, hv, _⟩
        · simp [Builtin.len_, hat, hx0, run_underlying (aty_slice q1).1, hv, goInt]
        · simp [Builtin.len_, hat, hx0, run_underlying (aty_slice q1).1, hv, goInt]
      · rename_i s q1 q2
        simp only [Option.some.injEq] at q1 q2 he
        subst he
        refine key _ ?_
        have vx := str_inv (datR h q2)
        have hsz : (ByteArray.mk s.toArray).size = s.length := by simp [ByteArray.size]
        simp [Builtin.len_, hat, hx0, run_underlying (aty_str q1), vx, goInt, -ByteArray.size_data, hsz]
      · rename_i sz n es ag d q1 q2
        simp only [Option.some.injEq] at q1 he
        subst he
        refine key _ ?_
        obtain ⟨e, hu, _⟩ := aty_arr q1
        simp [Builtin.len_, hat, hx0, run_underlying hu, goInt]
      · cases he

theorem two_of {args : Array Operand} {d e : Option AV} (h : args.toList.map (fun x => (ev σ x).dat) = [d, e]) : ∃ x y, args = #[x, y] ∧ (ev σ x).dat = d ∧ (ev σ y).dat = e := by
  rcases args with ⟨l⟩
  cases l with
  | nil => simp at h
  | cons x l =>
    cases l with
    | nil => simp at h
    | cons y l =>
      cases l with
      | nil => simp at h; exact ⟨x, y, rfl, h.1, h.2⟩
      | cons z l => simp at h

theorem ok_min (h : Tmps g w σ a) {args : Array Operand} {ats : Array TypeId} {r : TV} (ho : o.op = .call { callee := .builtin .min, args, argTypes := ats }) (he : evalP P σ o = some r) : Makes P g w a o r := by
  simp only [evalP, ho] at he
  split at he
  · rename_i k m k' n q
    obtain ⟨x, y, rfl, h1, h2⟩ := two_of q
    cases he
    have v1 := int_inv (datR h h1)
    have v2 := int_inv (datR h h2)
    refine ⟨_, ?_, .v _ _ (.int _ _)⟩
    simp only [execOp, ho, Sem.run_bind, resolve, Sem.run_pure, Result.andThen_ok, invoke, builtin]
    simp [v1, v2, Builtin.min_, Builtin.min2]
  · cases he
theorem ok_max (h : Tmps g w σ a) {args : Array Operand} {ats : Array TypeId} {r : TV} (ho : o.op = .call { callee := .builtin .max, args, argTypes := ats }) (he : evalP P σ o = some r) : Makes P g w a o r := by
  simp only [evalP, ho] at he
  split at he
  · rename_i k m k' n q
    obtain ⟨x, y, rfl, h1, h2⟩ := two_of q
    cases he
    have v1 := int_inv (datR h h1)
    have v2 := int_inv (datR h h2)
    refine ⟨_, ?_, .v _ _ (.int _ _)⟩
    simp only [execOp, ho, Sem.run_bind, resolve, Sem.run_pure, Result.andThen_ok, invoke, builtin]
    simp [v1, v2, Builtin.max_, Builtin.max2]
  · cases he

/-! ### Slices of slices and strings -/
theorem optDat_R (h : Tmps g w σ a) {x : Option Operand} {d : Option AV} (hd : optDat σ x = some d) : (x = none ∧ d = none) ∨ ∃ y c, x = some y ∧ d = some c ∧ R g.M c (a.eval y) := by
  cases x with
  | none => simp only [optDat, Option.some.injEq] at hd; exact .inl ⟨rfl, hd.symm⟩
  | some y =>
    simp only [optDat, Option.map_eq_some_iff] at hd
    obtain ⟨c, hc, rfl⟩ := hd
    exact .inr ⟨y, c, rfl, rfl, datR h hc⟩

theorem boundA_some {d : Int} {x : Option AV} {i : Int} (h : boundA d x = some i) : (x = none ∧ i = d) ∨ ∃ k, x = some (.int k i) := by
  unfold boundA at h
  split at h
  · cases h; exact .inl ⟨rfl, rfl⟩
  · cases h; exact .inr ⟨_, rfl⟩
  · cases h
theorem sliceA_some {n : Int} {lo hi : Option AV} {p : Nat × Nat} (h : sliceA n lo hi = some p) :
    (p.1 : Int) ≤ p.2 ∧ (p.2 : Int) ≤ n ∧ ((lo = none ∧ p.1 = 0) ∨ ∃ k, lo = some (.int k (p.1 : Int))) ∧ ((hi = none ∧ (p.2 : Int) = n) ∨ ∃ k, hi = some (.int k (p.2 : Int))) := by
  unfold sliceA at h
  split at h
  · rename_i l hh hl hhh
    split at h
    · rename_i hc
      cases h
      obtain ⟨h1, h2, h3⟩ := hc
      have e1 : ((l.toNat : Nat) : Int) = l := Int.toNat_of_nonneg h1
      have e2 : ((hh.toNat : Nat) : Int) = hh := Int.toNat_of_nonneg (Int.le_trans h1 h2)
      refine ⟨by simp only [e1, e2]; exact h2, by simp only [e2]; exact h3, ?_, ?_⟩
      · rcases boundA_some hl with ⟨q1, q2⟩ | ⟨k, q⟩
        · exact .inl ⟨q1, by simp [q2]⟩
        · exact .inr ⟨k, by simp only [e1]; exact q⟩
      · rcases boundA_some hhh with ⟨q1, q2⟩ | ⟨k, q⟩
        · exact .inl ⟨q1, by simp only [e2]; exact q2⟩
        · exact .inr ⟨k, by simp only [e2]; exact q⟩
    · cases h
  · cases h

theorem run_sliceBound {k : IntKind} {n y : Nat} (code : BoundsCode) (h : n ≤ y) : (Instr.sliceBound (.int k (n : Int)) y code).run P w = .ok n w := by
  have : (0 : Int) ≤ (n : Int) ∧ (n : Int) ≤ (y : Int) := by omega
  simp [Instr.sliceBound, asIntOf, this]

theorem run_bounds (h : Tmps g w σ a) {lo hi : Option Operand} {dl dh : Option AV} {p : Nat × Nat} {n cap : Nat} {isS : Bool} (hl : optDat σ lo = some dl) (hh : optDat σ hi = some dh) (hs : sliceA (n : Int) dl dh = some p) (hc : n ≤ cap) :
    (Instr.sliceBounds isS n cap (lo.map a.eval) (hi.map a.eval) none).run P w = .ok (p.1, p.2, cap) w := by
  obtain ⟨h1, h2, h3, h4⟩ := sliceA_some hs
  obtain ⟨l, u⟩ := p
  simp only at h1 h2 h3 h4
  have e2 : u ≤ n := by omega
  have e1 : l ≤ u := by omega
  rcases optDat_R h hl with ⟨rfl, rfl⟩ | ⟨yl, cl, rfl, rfl, hRl⟩ <;> rcases optDat_R h hh with ⟨rfl, rfl⟩ | ⟨yh, ch, rfl, rfl, hRh⟩
  · rcases h3 with ⟨_, rfl⟩ | ⟨k, hk⟩ <;> rcases h4 with ⟨_, h4⟩ | ⟨k', hk'⟩ <;> first | cases hk | cases hk' | skip
    have : u = n := by omega
    subst this
    simp [Instr.sliceBounds]
  · rcases h3 with ⟨_, rfl⟩ | ⟨k, hk⟩ <;> rcases h4 with ⟨h4, _⟩ | ⟨k', hk'⟩ <;> first | cases hk | cases h4 | skip
    cases hk'
    have v := int_inv hRh
    simp [Instr.sliceBounds, v, run_sliceBound _ (show u ≤ cap by omega)]
  · rcases h3 with ⟨h3, _⟩ | ⟨k, hk⟩ <;> rcases h4 with ⟨_, h4⟩ | ⟨k', hk'⟩ <;> first | cases h3 | cases hk' | skip
    cases hk
    have v := int_inv hRl
    have : u = n := by omega
    subst this
    simp [Instr.sliceBounds, v, run_sliceBound _ e1]
  · rcases h3 with ⟨h3, _⟩ | ⟨k, hk⟩ <;> rcases h4 with ⟨h4, _⟩ | ⟨k', hk'⟩ <;> first | cases h3 | cases h4 | skip
    cases hk; cases hk'
    have v := int_inv hRl
    have v' := int_inv hRh
    simp [Instr.sliceBounds, v, v', run_sliceBound _ (show u ≤ cap by omega), run_sliceBound _ e1]

theorem flat_seg {sz : Nat} (xs : List AV) (hs : ∀ x ∈ xs, x.cells.length = sz) (l n : Nat) (j : Nat) (c : AV) (h : (flat ((xs.drop l).take n))[j]? = some c) : (flat xs)[l * sz + j]? = some c := by
  induction xs generalizing l with
  | nil => simp [flat] at h
  | cons x xs ih =>
    have hx := hs x (by simp)
    cases l with
    | succ l =>
      simp only [List.drop_succ_cons] at h
      have := ih (fun y hy => hs y (by simp [hy])) l h
      simp only [flat, List.flatMap_cons]
      rw [List.getElem?_append_right (by rw [hx, Nat.succ_mul]; omega), hx, show (l + 1) * sz + j - sz = l * sz + j by rw [Nat.succ_mul]; omega]
      exact this
    | zero =>
      simp only [List.drop_zero, Nat.zero_mul, Nat.zero_add] at h ⊢
      have hsplit : flat (x :: xs) = flat ((x :: xs).take n) ++ flat ((x :: xs).drop n) := by
        simp only [flat, ← List.flatMap_append, List.take_append_drop]
      rw [hsplit, List.getElem?_append_left (List.getElem?_eq_some_iff.1 h).1]
      exact h

theorem ok_slice (h : Tmps g w σ a) {t : TypeId} {x : Operand} {lo hi mx : Option Operand} {r : TV} (ho : o.op = .slice t x lo hi mx) (he : evalP P σ o = some r) : Makes P g w a o r := by
  simp only [evalP, ho] at he
  split at he
  · rename_i s dl dh hty hx hl hh
    obtain ⟨p, hp, rfl⟩ := Option.map_eq_some_iff.1 he
    have vx := str_inv (datR h hx)
    have hb := run_bounds (P := P) (isS := false) (cap := s.length) h hl hh hp (Nat.le_refl _)
    have hsz : (ByteArray.mk s.toArray).size = s.length := by simp [ByteArray.size]
    obtain ⟨h1, h2, _⟩ := sliceA_some hp
    refine ⟨_, ?_, .v _ _ (.str _)⟩
    simp only [execOp, ho]
    refine runV ?_
    rw [vx]
    have hext : (ByteArray.mk s.toArray).extract p.1 p.2 = ⟨((s.drop p.1).take (p.2 - p.1)).toArray⟩ := by
      apply ByteArray.ext
      apply Array.ext'
      rw [ByteArray.data_extract]
      simp
    simp [Instr.sliceAt, Instr.slice, run_underlying (aty_str hty), hsz, hb, hext, -ByteArray.size_data]
  · rename_i e sz by_ sz' xs dl dh hty hx hl hh
    split at he
    · cases he
    · rename_i hc
      obtain ⟨rfl, hz⟩ : sz = sz' ∧ sz ≠ 0 := by omega
      obtain ⟨p, hp, rfl⟩ := Option.map_eq_some_iff.1 he
      obtain ⟨hu, hse, _⟩ := aty_slice hty
      obtain ⟨h1, h2, _⟩ := sliceA_some hp
      rcases sl_inv (datR h hx) with ⟨rfl, a0, cap, hv, hmax, hnn⟩ | ⟨b, off, cap, vs, hv, hle, hmax, hs, hM, hR⟩
      · have hb := run_bounds (P := P) (isS := true) (n := 0) (cap := cap) h hl hh (by simpa using hp) (Nat.zero_le _)
        have e1 : p.1 = 0 := by simp at h2; omega
        have e2 : p.2 = 0 := by simp at h2; omega
        rw [e1, e2] at hb
        cases a0 with
        | none =>
          obtain rfl := hnn rfl
          refine ⟨.slice none 0 0, ?_, by simpa using RT.v _ _ (R.slN sz)⟩
          simp only [execOp, ho]
          refine runV ?_
          rw [hv]
          simp [Instr.sliceAt, Instr.slice, run_underlying hu, hb, run_sizeOf hse hz]
        | some a0 =>
          by_cases hc0 : cap = 0
          · subst hc0
            refine ⟨.slice (some a0) 0 0, ?_, by simpa using RT.v _ _ (R.slE sz a0 0 hmax)⟩
            simp only [execOp, ho]
            refine runV ?_
            rw [hv]
            simp [Instr.sliceAt, Instr.slice, run_underlying hu, hb, run_sizeOf hse hz]
          · refine ⟨.slice (some (a0.add 0)) 0 cap, ?_, by simpa using RT.v _ _ (R.slE sz (a0.add 0) cap hmax)⟩
            simp only [execOp, ho]
            refine runV ?_
            rw [hv]
            simp [Instr.sliceAt, Instr.slice, run_underlying hu, hb, run_sizeOf hse hz, hc0]
      · have hb := run_bounds (P := P) (isS := true) (n := xs.length) (cap := cap) h hl hh hp hle
        have hlen : ((xs.drop p.1).take (p.2 - p.1)).length = p.2 - p.1 := by simp; omega
        have fin : ∀ o', (∀ j c, (flat ((xs.drop p.1).take (p.2 - p.1)))[j]? = some c → o' + j = off + (p.1 * sz + j)) →
            R g.M (.sl sz ((xs.drop p.1).take (p.2 - p.1))) (.slice (some ⟨b, o', none⟩) (p.2 - p.1) (cap - p.1)) := fun o' ho' => by
          refine .sl b o' sz _ _ _ (fun j => vs (p.1 * sz + j)) hlen.symm (by omega) (by omega) (fun y hy => hs y (List.mem_of_mem_drop (List.mem_of_mem_take hy))) (fun j c hj => ?_) (fun j c hj => ?_)
          · rw [ho' j c hj]; exact hM _ c (flat_seg xs hs _ _ j c hj)
          · exact hR _ c (flat_seg xs hs _ _ j c hj)
        by_cases hcp : cap = p.1
        · refine ⟨.slice (some ⟨b, off, none⟩) (p.2 - p.1) (cap - p.1), ?_, .v _ _ (fin off fun j c hj => ?_)⟩
          · simp only [execOp, ho]
            refine runV ?_
            rw [hv]
            have hb' := hb
            rw [hcp] at hb'
            simp [Instr.sliceAt, Instr.slice, run_underlying hu, hb', run_sizeOf hse hz, hcp]
          · have : (xs.drop p.1).take (p.2 - p.1) = [] := List.eq_nil_of_length_eq_zero (by rw [hlen]; omega)
            rw [this] at hj; simp [flat] at hj
        · refine ⟨.slice (some ⟨b, off + p.1 * sz, none⟩) (p.2 - p.1) (cap - p.1), ?_, .v _ _ (fin _ fun j c hj => by omega)⟩
          simp only [execOp, ho]
          refine runV ?_
          rw [hv]
          simp [Instr.sliceAt, Instr.slice, run_underlying hu, hb, run_sizeOf hse hz, hcp, add_none]
  · cases he
end
end Go.Proofs.YtenigafbbdjagaaDoor.AL

/- Struct and array literals; zero values; and all that an operation makes. -/
namespace Go.Proofs.YtenigafbbdjagaaDoor.AL
open Go Go.RowKit
set_option linter.unusedVariables false
set_option linter.unusedSimpArgs false

section
variable {P : Program} {g : GS} {w : World} {σ : AS} {a : Act} {o : Oper} {M : Mem}

theorem zmatch_R {x : AV} {v : Value} (h : zmatch x v = true) : R M x v ∧ v.oneCell' = true := by
  unfold zmatch at h
  split at h
  · simp at h; subst h; exact ⟨.bool _, rfl⟩
  · simp at h; obtain ⟨rfl, rfl⟩ := h; exact ⟨.int _ _, rfl⟩
  · rename_i s
    have : s = ⟨(([] : List UInt8)).toArray⟩ := by
      apply ByteArray.ext
      simp at h
      simpa using h
    rw [this]
    exact ⟨.str [], rfl⟩
  · exact ⟨.slN _, rfl⟩
  · exact ⟨.nilF, rfl⟩
  · exact ⟨.nilP, rfl⟩
  · exact ⟨.nilI, rfl⟩
  · cases h

theorem zall_at : ∀ {as : List AV} {vs : List Value}, zall as vs = true → as.length = vs.length ∧ ∀ (j : Nat) x v, as[j]? = some x → vs[j]? = some v → R M x v ∧ v.oneCell' = true
  | [], [], _ => ⟨rfl, fun j x v h => by simp at h⟩
  | [], _ :: _, h => by simp [zall] at h
  | _ :: _, [], h => by simp [zall] at h
  | x :: as, v :: vs, h => by
    simp only [zall, Bool.and_eq_true] at h
    obtain ⟨q1, q2⟩ := zall_at (as := as) (vs := vs) h.2
    refine ⟨by simp [q1], fun j x' v' hx hv => ?_⟩
    cases j with
    | zero => simp at hx hv; subst hx; subst hv; exact zmatch_R h.1
    | succ j => simp at hx hv; exact q2 j x' v' hx hv

theorem zeroC_some {t : TypeId} {cs : List AV} (h : zeroC P t = some cs) : ∃ z, (∀ w, (zeroValue t).run P w = .ok z w) ∧ cs.length = (aty P t).size ∧ z.cells.size = cs.length ∧ aty P t ≠ .none ∧
    (∀ (j : Nat) x v, cs[j]? = some x → z.cells[j]? = some v → R M x v ∧ v.oneCell' = true) := by
  unfold zeroC at h
  split at h
  · rename_i z hz
    split at h
    · rename_i hc
      simp only [Bool.and_eq_true, beq_iff_eq] at hc
      obtain ⟨⟨h1, h2⟩, h3⟩ := hc
      simp only [Option.some.injEq] at h
      subst h
      obtain ⟨q1, q2⟩ := zall_at (M := M) h1
      refine ⟨z, fun w => ?_, h2.symm, by simpa using q1.symm, ?_, fun j x v hx hv => q2 j x v hx (by simpa using hv)⟩
      · cases hi : P.info? t with
        | none => simp [hi] at hz
        | some i =>
          simp only [hi, Option.bind_some] at hz
          simp [zeroValue, typeInfo, hi, hz]
      · intro e; rw [e] at h3; simp [ATy.ok] at h3
    · cases h
  · cases h

theorem datsOf_at {ps : List (Nat × TV)} {as : List (Nat × AV)} (h : datsOf ps = some as) : ps.map (·.1) = as.map (·.1) ∧ ∀ (j : Nat) i x, as[j]? = some (i, x) → ∃ tv, ps[j]? = some (i, tv) ∧ tv.dat = some x := by
  induction ps generalizing as with
  | nil => simp only [datsOf] at h; cases h; exact ⟨rfl, fun j i x hx => by simp at hx⟩
  | cons p l ih =>
    obtain ⟨i, tv⟩ := p
    simp only [datsOf] at h
    split at h
    · rename_i a' as' h1 h2
      cases h
      obtain ⟨q1, q2⟩ := ih h2
      refine ⟨by simp [q1], fun j i' x hx => ?_⟩
      cases j with
      | zero => simp at hx; obtain ⟨rfl, rfl⟩ := hx; exact ⟨tv, rfl, h1⟩
      | succ j => simp at hx ⊢; exact q2 j i' x hx
    · cases h

/-- Cells in step. -/
def Cells (M : Mem) (cs : List AV) (vs : Array Value) : Prop := cs.length = vs.size ∧ ∀ (j : Nat) x v, cs[j]? = some x → vs[j]? = some v → R M x v ∧ v.oneCell' = true

theorem cells_of {x : AV} {v : Value} (h : R M x v) : Cells M x.cells v.cells := by
  have one : ∀ (y : AV) (u : Value), y.cells = [y] → u.cells = #[u] → u.oneCell' = true → R M y u → Cells M y.cells u.cells := fun y u h1 h2 h3 h4 => by
    rw [h1, h2]
    refine ⟨rfl, fun j x v hx hv => ?_⟩
    cases j with
    | zero => simp at hx hv; subst hx; subst hv; exact ⟨h4, h3⟩
    | succ j => simp at hx
  cases h with
  | agg cs vs hn h1 h => exact ⟨hn, fun j x v hx hv => ⟨h j x v hx hv, h1 j v hv⟩⟩
  | bool b => exact one _ _ rfl rfl rfl (.bool b)
  | int k n => exact one _ _ rfl rfl rfl (.int k n)
  | str s => exact one _ _ rfl rfl rfl (.str s)
  | slN sz => exact one _ _ rfl rfl rfl (.slN sz)
  | slE sz a cap hmax => exact one _ _ rfl rfl rfl (.slE sz a cap hmax)
  | sl b off sz xs len cap vs hl hcap hmax hsz hM hR => exact one _ _ rfl rfl rfl (.sl b off sz xs len cap vs hl hcap hmax hsz hM hR)
  | fn f cs vs hn h => exact one _ _ rfl rfl rfl (.fn f cs vs hn h)
  | ro cs b off vs hM hR => exact one _ _ rfl rfl rfl (.ro cs b off vs hM hR)
  | nilF => exact one _ _ rfl rfl rfl .nilF
  | nilP => exact one _ _ rfl rfl rfl .nilP
  | nilI => exact one _ _ rfl rfl rfl .nilI
  | yld l => exact one _ _ rfl rfl rfl (.yld l)
  | val v hc h1 => exact one _ _ rfl hc h1 (.val v hc h1)
  | any v hc h1 => exact one _ _ rfl hc h1 (.any v hc h1)
  | iface t a v h => exact one _ _ rfl rfl rfl (.iface t a v h)

theorem foldl_set (vs : Array Value) : ∀ (l : List Value) (off k : Nat) (cs : Array Value),
    (l.zipIdx k).foldl (fun cs (c, j) => cs.setIfInBounds (off + j) c) cs = if off + k + l.length ≤ cs.size then (cs.toList.take (off + k) ++ l ++ cs.toList.drop (off + k + l.length)).toArray else (l.zipIdx k).foldl (fun cs (c, j) => cs.setIfInBounds (off + j) c) cs
  | [], off, k, cs => by
    split
    · simp
    · rfl
  | v :: l, off, k, cs => by
    split
    · rename_i h
      simp only [List.length_cons] at h
      simp only [List.zipIdx_cons, List.foldl_cons]
      rw [foldl_set vs l off (k + 1) (cs.setIfInBounds (off + k) v), if_pos (by simp; omega)]
      congr 1
      have e := list_seg_step cs.toList (off + k) v l (by simp; omega)
      simpa [Array.toList_setIfInBounds, Nat.add_assoc, Nat.add_comm 1] using e
    · rfl

theorem fill_one {place : Nat → Option (Nat × Nat)} {i off size : Nat} {v : Value} {rest : List (Nat × Value)} {cs : Array Value} (hp : place i = some (off, size)) (hv : v.cells.size = size) (hle : off + size ≤ cs.size) :
    Instr.fill place cs ((i, v) :: rest) = Instr.fill place (cs.toList.take off ++ v.cells.toList ++ cs.toList.drop (off + size)).toArray rest := by
  have h1 : ¬ (v.cells.size ≠ size ∨ off + v.cells.size > cs.size) := by omega
  simp only [Instr.fill, hp]
  have h2 : ((decide (v.cells.size ≠ size) || decide (off + v.cells.size > cs.size)) = true) = False := by simp; omega
  rw [if_neg (by simpa using h1)]
  congr 1
  have := foldl_set #[] v.cells.toList off 0 cs
  rw [if_pos (by simp; omega)] at this
  rw [← Array.foldl_toList, Array.toList_zipIdx]
  simp only [Nat.add_zero] at this
  rw [this]
  simp [hv]

theorem cells_put {cs : List AV} {vs : Array Value} (h : Cells M cs vs) {xs : List AV} {us : Array Value} (hx : Cells M xs us) {off : Nat} (hle : off + xs.length ≤ cs.length) :
    Cells M (cs.take off ++ xs ++ cs.drop (off + xs.length)) (vs.toList.take off ++ us.toList ++ vs.toList.drop (off + xs.length)).toArray := by
  have hl := h.1
  have hl' := hx.1
  refine ⟨by simp; omega, fun j x v hxj hvj => ?_⟩
  simp only [List.getElem?_toArray] at hvj
  rw [List.append_assoc, List.getElem?_append] at hxj hvj
  simp only [List.length_take, Array.length_toList] at hxj hvj
  rw [show min off cs.length = off by omega] at hxj
  rw [show min off vs.size = off by omega] at hvj
  split at hxj
  · rename_i hj
    rw [if_pos hj, List.getElem?_take, if_pos hj] at hvj
    rw [List.getElem?_take, if_pos hj] at hxj
    exact h.2 j x v hxj (by simpa using hvj)
  · rename_i hj
    rw [if_neg hj] at hvj
    rw [List.getElem?_append] at hxj hvj
    simp only [Array.length_toList] at hvj
    rw [← hl'] at hvj
    split at hxj
    · rename_i hj2
      rw [if_pos hj2] at hvj
      exact hx.2 _ x v hxj (by simpa using hvj)
    · rename_i hj2
      rw [if_neg hj2] at hvj
      rw [List.getElem?_drop] at hxj hvj
      exact h.2 _ x v hxj (by simpa using hvj)

theorem fill_ok {place : Nat → Option (Nat × Nat)} : ∀ {ps : List (Nat × AV)} {cs cs' : List AV} {vs : Array Value} {us : List (Nat × Value)}, Cells M cs vs → fillA place cs ps = some cs' → ps.map (·.1) = us.map (·.1) →
    (∀ (j : Nat) i x, ps[j]? = some (i, x) → ∃ v, us[j]? = some (i, v) ∧ R M x v) → ∃ vs', Instr.fill place vs us = some vs' ∧ Cells M cs' vs'
  | [], cs, cs', vs, us, hc, h, hm, hR => by
    simp only [fillA, Option.some.injEq] at h
    subst h
    cases us with
    | nil => exact ⟨vs, rfl, hc⟩
    | cons u us => simp at hm
  | (i, x) :: ps, cs, cs', vs, us, hc, h, hm, hR => by
    cases us with
    | nil => simp at hm
    | cons u us =>
      obtain ⟨i', v⟩ := u
      simp only [List.map_cons, List.cons.injEq] at hm
      obtain ⟨rfl, hm⟩ := hm
      obtain ⟨v', hv', hRv⟩ := hR 0 i x rfl
      simp only [List.getElem?_cons_zero, Option.some.injEq, Prod.mk.injEq, true_and] at hv'
      subst hv'
      simp only [fillA] at h
      split at h
      · cases h
      · rename_i off size hp
        split at h
        · cases h
        · rename_i hcond
          obtain ⟨e1, e2, e3⟩ : x.cells.length = size ∧ size ≠ 0 ∧ off + size ≤ cs.length := by omega
          have hxc := cells_of hRv
          rw [fill_one hp (by rw [← hxc.1]; exact e1) (by rw [← hc.1]; exact e3)]
          have hput := cells_put hc hxc (off := off) (by omega)
          rw [e1] at hput
          exact fill_ok hput h hm (fun j i x hj => by
            obtain ⟨v, hv, hR'⟩ := hR (j + 1) i x (by simpa using hj)
            exact ⟨v, by simpa using hv, hR'⟩)

theorem mapM_run {α β : Type} (f : α → Sem β) (r : α → β) (w : World) : ∀ (l : List α), (∀ x ∈ l, (f x).run P w = .ok (r x) w) → (l.mapM f).run P w = .ok (l.map r) w
  | [], _ => rfl
  | x :: l, h => by
    rw [List.mapM_cons]
    simp only [Sem.run_bind, h x (by simp), Result.andThen_ok, mapM_run f r w l (fun y hy => h y (by simp [hy]))]
    rfl

theorem ok_build (h : Tmps g w σ a) {t : TypeId} {parts : Array (Nat × Operand)} {r : TV} (ho : o.op = .build t parts) (he : evalP P σ o = some r) : Makes P g w a o r := by
  simp only [evalP, ho] at he
  split at he
  · rename_i pl z ps hpl hz hps
    obtain ⟨cs, hcs, rfl⟩ := Option.map_eq_some_iff.1 he
    obtain ⟨zv, hzv, hl1, hl2, hne, hzR⟩ := zeroC_some (M := g.M) hz
    obtain ⟨d1, d2⟩ := datsOf_at hps
    have hcells : Cells g.M z zv.cells := ⟨hl2.symm, hzR⟩
    have hu : (parts.map fun (i, x) => (i, a.eval x)).toList = parts.toList.map fun p => (p.1, a.eval p.2) := by simp
    obtain ⟨vs', hf, hc'⟩ := fill_ok (place := pl) (us := parts.toList.map fun p => (p.1, a.eval p.2)) hcells hcs (by rw [← d1]; simp) (fun j i x hj => by
      obtain ⟨tv, htv, hd⟩ := d2 j i x hj
      rw [List.getElem?_map] at htv ⊢
      cases hp : parts.toList[j]? with
      | none => simp [hp] at htv
      | some p =>
        simp only [hp, Option.map_some, Option.some.injEq, Prod.mk.injEq] at htv ⊢
        obtain ⟨rfl, rfl⟩ := htv
        exact ⟨_, ⟨rfl, rfl⟩, datR h hd⟩)
    refine ⟨.agg vs', ?_, .v _ _ (.agg cs vs' hc'.1 (fun j v hv => ?_) (fun j c v hc hv => (hc'.2 j c v hc hv).1))⟩
    · simp only [execOp, ho]
      refine runV ?_
      unfold pieces at hpl
      split at hpl
      · rename_i sz fs hty
        obtain ⟨gs, hus, _, hm⟩ := aty_struct hty
        split at hpl
        · rename_i hall
          simp only [Option.some.injEq] at hpl
          have hmap : (gs.mapM (fun (f : Field) => (do pure (f.offset, ← sizeOf f.type) : Sem (Nat × Nat)))).run P w = .ok (gs.map fun (f : Field) => (f.offset, szB P f.type)) w := by
            rcases gs with ⟨l⟩
            rw [List.mapM_toArray, Sem.run_map, mapM_run (P := P) _ (fun (f : Field) => (f.offset, szB P f.type)) w l (fun f hf => ?_)]
            · simp
            · have : szB P f.type ≠ 0 := by
                rw [← hm] at hall
                simp only [List.all_map, List.all_eq_true, Function.comp_apply, bne_iff_ne, ne_eq] at hall
                exact hall f hf
              simp [run_sizeOf rfl this]
          have hpe : (fun i => ((gs.map fun (f : Field) => (f.offset, szB P f.type))[i]?)) = pl := by
            rw [← hpl, ← hm]
            funext i
            simp only [Array.getElem?_map, List.getElem?_map, Array.getElem?_toList]
            cases gs[i]? <;> rfl
          have hf' := hf
          rw [← hpe] at hf'
          simp only [Instr.build, Sem.run_bind, hzv, run_underlying hus, Result.andThen_ok, hmap, hu, hf']
          rfl
        · cases hpl
      · rename_i sz n es ag hty
        split at hpl
        · cases hpl
        · rename_i hes
          cases hpl
          obtain ⟨e, hus, _, hse, _⟩ := aty_arr hty
          simp [Instr.build, hzv, run_underlying hus, run_sizeOf hse hes, hf]
      · cases hpl
    · have hlt : j < cs.length := by rw [hc'.1]; exact (Array.getElem?_eq_some_iff.1 hv).1
      exact (hc'.2 j cs[j] v (by simp [hlt]) hv).2
  · cases he
end
end Go.Proofs.YtenigafbbdjagaaDoor.AL

/- All that an operation makes, where it writes no memory and calls nobody. -/
namespace Go.Proofs.YtenigafbbdjagaaDoor.AL
open Go Go.RowKit
set_option linter.unusedVariables false
set_option linter.unusedSimpArgs false

theorem evalP_ok {P : Program} {g : GS} {w : World} {σ : AS} {a : Act} {o : Oper} {r : TV} (hw : Wf g w σ.b σ.k) (h : Tmps g w σ a) (he : evalP P σ o = some r) : Makes P g w a o r := by
  cases ho : o.op with
  | move x =>
    simp only [evalP, ho, Option.some.injEq] at he
    subst he
    exact ok_assign h (.inl ho)
  | assign x =>
    simp only [evalP, ho, Option.some.injEq] at he
    subst he
    exact ok_assign h (.inr ho)
  | pick c x y =>
    simp only [evalP, ho] at he
    split at he
    · rename_i t hc
      cases he
      exact ok_pick h ho hc
    · cases he
  | binOp op t x y yt => exact ok_bin h ho he
  | unOp op t x => exact ok_unOp h ho he
  | convert s d x => exact ok_convert h ho he
  | fieldAddr t x f => exact ok_fieldAddr h ho he
  | field t x f => exact ok_field h ho he
  | indexAddr t x i => exact ok_indexAddr h ho he
  | index t x i => exact ok_index h ho he
  | load t x => exact ok_load hw h ho he
  | extract x i => exact ok_extract h ho he
  | build t parts => exact ok_build h ho he
  | slice t x lo hi mx => exact ok_slice h ho he
  | makeFunc f first captured => exact ok_makeFunc h ho he
  | nilCheck x => exact ok_nilCheck h ho he
  | makeInterface t x => exact ok_iface h ho he
  | call c =>
    obtain ⟨callee, args, ats⟩ := c
    cases callee with
    | builtin b =>
      cases b <;> first
        | exact ok_len h ho he
        | exact ok_min h ho he
        | exact ok_max h ho he
        | (simp [evalP, ho] at he; done)
    | _ => simp [evalP, ho] at he
  | _ => simp [evalP, ho] at he
end Go.Proofs.YtenigafbbdjagaaDoor.AL
