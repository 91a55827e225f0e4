/- An abstract program logic: merged texts. -/
import Derived.Test.YtenigafbbdjagaaDoorYMB
/- Regions that leave their order open: what each operation makes does not hang on the order. -/
namespace Go.Proofs.YtenigafbbdjagaaDoor.AL
open Go Go.RowKit
set_option linter.unusedVariables false
set_option linter.unusedSimpArgs false

/-- What one operation of a region leaves: its slot, a variable of its own, a slice of its own, a slice's tail that it uses up. -/
structure Rc where
  d : Nat
  v : TV
  bx : Option (List TV)
  tk : Bool
  cs : Option Nat

def recE (P : Program) (σ : AS) (o : Oper) (d : Nat) : Option Rc :=
  match evalP P σ o with
  | some v => some ⟨d, v, none, false, none⟩
  | none =>
    match o.op with
    | .alloc t => (zeroC P t).map fun cs => ⟨d, .loc d 0, some (cs.map tvz), false, none⟩
    | .buildSlice t len parts => (bsA P σ t len parts).map fun p => ⟨d, .ap p.1 p.2 d, none, true, none⟩
    | .call { callee := .builtin .append, args, argTypes } =>
      match apA P σ args argTypes with
      | some (sz, zs, tk) => if tk = 999999 ∨ memK tk σ.k = true then some ⟨d, .ap sz zs d, none, true, some tk⟩ else none
      | none => none
    | _ => none

def callA (P : Program) (σ : AS) (o : Oper) : Option (FuncId × List AV) :=
  match o.op with
  | .call { callee := .value f, args, argTypes } =>
    match fnOf (ev σ f), datArgs P σ args.toList argTypes.toList with
    | some (fid, caps), some as => some (fid, as ++ caps)
    | _, _ => none
  | _ => none
def callRc (d : Nat) : TV → Rc
  | .ap sz xs _ => ⟨d, .ap sz xs d, none, true, none⟩
  | r => ⟨d, r, none, false, none⟩

def rT : List (Nat × Rc) → List (Nat × TV) → List (Nat × TV)
  | [], t => t
  | (_, r) :: l, t => (r.d, r.v) :: rT l t
def rB : List (Nat × Rc) → List (Nat × List TV) → List (Nat × List TV)
  | [], b => b
  | (_, r) :: l, b => match r.bx with | some c => (r.d, c) :: rB l b | none => rB l b
def rK0 : List (Nat × Rc) → List Nat → List Nat
  | [], k => k
  | (_, r) :: l, k => bif r.tk then r.d :: rK0 l k else rK0 l k
def rC : List (Nat × Rc) → List Nat
  | [] => []
  | (_, r) :: l => match r.cs with | some s => s :: rC l | none => rC l
def kdrop : List Nat → List Nat → List Nat
  | [], k => k
  | s :: ss, k => killK s (kdrop ss k)

/-- The state when these have been taken. -/
def fullS (l : List (Nat × Rc)) (σ : AS) : AS := ⟨σ.n, rT l σ.t, rB l σ.b, kdrop (rC l) (rK0 l σ.k)⟩
/-- What an operation may look at then. -/
def seeS (l : List (Nat × Rc)) (σ : AS) : AS := ⟨σ.n, rT l σ.t, σ.b, kdrop (rC l) (rK0 l σ.k)⟩

def RecOK (P : Program) (ops : List Oper) (σ : AS) (o : Oper) (r : Rc) : Prop :=
  o.dst = some r.d ∧ r.d < σ.n ∧ r.d < 999999 ∧
  ((wantA ops σ o = some false ∧ r = ⟨r.d, .tup [], none, false, none⟩) ∨
   (wantA ops σ o = some true ∧ (recE P σ o r.d = some r ∨ ∃ fid all rv, callA P σ o = some (fid, all) ∧ FC P fid all rv ∧ r = callRc r.d rv ∧ (∃ σ', σ.ret (some r.d) rv = some σ'))))

def DSeq (P : Program) (ops : List Oper) (σ : AS) : List Nat → List (Nat × Rc) → (List (Nat × Rc) → Prop) → Prop
  | [], acc, K => K acc
  | i :: is, acc, K => ∃ o r, ops[i]? = some o ∧ RecOK P ops (seeS acc σ) o r ∧ DSeq P ops σ is ((i, r) :: acc) K

/-! ### Nothing said of a place -/
mutual
def TV.hasn (d : Nat) : TV → Bool
  | .undef => true
  | .v _ => true
  | .loc s _ => !(s == d)
  | .ap _ _ s => !(s == d)
  | .fn _ cs => hasnL d cs
  | .tup cs => hasnL d cs
  | .mp s _ => !(s == d)
  | .it s _ _ => !(s == d)
def hasnL (d : Nat) : List TV → Bool
  | [] => true
  | x :: l => x.hasn d && hasnL d l
end
mutual
theorem kill_hasn {d : Nat} : ∀ (x : TV), x.hasn d = true → x.kill d = x
  | .undef, _ => rfl
  | .v _, _ => rfl
  | .loc s o, h => by simp only [TV.hasn, Bool.not_eq_true'] at h; simp [TV.kill, h]
  | .ap sz xs s, h => by simp only [TV.hasn, Bool.not_eq_true'] at h; simp [TV.kill, h]
  | .mp s _, h => by simp only [TV.hasn, Bool.not_eq_true'] at h; simp [TV.kill, h]
  | .it s _ _, h => by simp only [TV.hasn, Bool.not_eq_true'] at h; simp [TV.kill, h]
  | .fn f cs, h => by simp only [TV.hasn] at h; simp only [TV.kill, killL_hasn cs h]
  | .tup cs, h => by simp only [TV.hasn] at h; simp only [TV.kill, killL_hasn cs h]
theorem killL_hasn {d : Nat} : ∀ (l : List TV), hasnL d l = true → killL d l = l
  | [], _ => rfl
  | x :: l, h => by
    simp only [hasnL, Bool.and_eq_true] at h
    simp only [killL, kill_hasn x h.1, killL_hasn l h.2]
end

def hasnT (d : Nat) : List (Nat × TV) → Bool
  | [] => true
  | (t, x) :: l => (t == d || x.hasn d) && hasnT d l
def hasnB (d : Nat) : List (Nat × List TV) → Bool
  | [] => true
  | (s, cs) :: l => (s == d || hasnL d cs) && hasnB d l
def keyn (d : Nat) : List (Nat × List TV) → Bool
  | [] => true
  | (s, _) :: l => !(s == d) && keyn d l
theorem hasnT_get {d t : Nat} {x : TV} : ∀ {l : List (Nat × TV)}, hasnT d l = true → get t l = some x → t ≠ d → x.kill d = x
  | [], _, h, _ => by simp [get] at h
  | (m, y) :: l, h, hg, ht => by
    simp only [hasnT, Bool.and_eq_true, Bool.or_eq_true, beq_iff_eq] at h
    simp only [get] at hg
    cases hm : t == m
    · simp only [hm, cond_false] at hg; exact hasnT_get h.2 hg ht
    · simp only [hm, cond_true, Option.some.injEq] at hg
      simp only [beq_iff_eq] at hm
      subst hg; subst hm
      exact kill_hasn _ (h.1.resolve_left ht)
theorem hasnB_get {d t : Nat} {cs : List TV} : ∀ {l : List (Nat × List TV)}, hasnB d l = true → get t l = some cs → t ≠ d → killL d cs = cs
  | [], _, h, _ => by simp [get] at h
  | (m, y) :: l, h, hg, ht => by
    simp only [hasnB, Bool.and_eq_true, Bool.or_eq_true, beq_iff_eq] at h
    simp only [get] at hg
    cases hm : t == m
    · simp only [hm, cond_false] at hg; exact hasnB_get h.2 hg ht
    · simp only [hm, cond_true, Option.some.injEq] at hg
      simp only [beq_iff_eq] at hm
      subst hg; subst hm
      exact killL_hasn _ (h.1.resolve_left ht)
theorem keyn_get {d : Nat} : ∀ {l : List (Nat × List TV)}, keyn d l = true → get d l = none
  | [], _ => rfl
  | (m, y) :: l, h => by
    simp only [keyn, Bool.and_eq_true, Bool.not_eq_true', beq_eq_false_iff_ne] at h
    have : (d == m) = false := by simp only [beq_eq_false_iff_ne]; exact fun e => h.1 e.symm
    simp only [get, this, cond_false]
    exact keyn_get h.2

/-! ### Weaker knowledge, place by place -/
structure LeG (s s' : AS) : Prop where
  n : s.n = s'.n
  t : ∀ t x, get t s.t = some x → get t s'.t = some x
  b : ∀ t x, get t s.b = some x → get t s'.b = some x
  k : ∀ x, x ∈ s.k → x ∈ s'.k

section
variable {P : Program} {ro : Option Nat} {n : Nat} {E : E0} {g : GS} {w w' : World} {σ σ' : AS} {a : Act} {o : Oper} {d : Nat} {x : TV} {v : Value} {Q : Exit → AS → Prop}

theorem Rel.leG {s : AS} (h : Rel E σ a w) (hl : LeG s σ) : Rel E s a w := by
  obtain ⟨g, h1, h2, h3⟩ := h
  refine ⟨g, ?_, ?_, h3⟩
  · exact { h1 with
            box := fun t cs ht => h1.box t cs (hl.b _ _ ht)
            live := fun t ht => h1.live t (hl.k t ht) }
  · refine ⟨h2.1, by rw [hl.n]; exact h2.2.1, fun t y hy => ?_, h2.2.2.2⟩
    have := h2.2.2.1 t y (hl.t _ _ hy)
    rw [hl.n]; exact this

/-! ### What an operation looks at -/
theorem ev_congr {s s' : AS} {x : Operand} (h : ∀ t, x = .tmp t → get t s.t = get t s'.t) : ev s x = ev s' x := by
  cases x with
  | tmp t => simp only [ev, h t rfl]
  | _ => rfl
theorem evT_congr {s s' : AS} {x : Operand} {t : TypeId} (h : ∀ t, x = .tmp t → get t s.t = get t s'.t) : evT P t s x = evT P t s' x := by
  cases x with
  | const v => rfl
  | tmp t => exact ev_congr h
  | global g => rfl
  | func f => rfl

structure Sees (o : Oper) (s s' : AS) : Prop where
  t : ∀ t, .tmp t ∈ o.op.operands → get t s.t = get t s'.t
  b : ∀ q cs, get q s.b = some cs → get q s'.b = some cs

theorem Sees.ev {s s' : AS} (h : Sees o s s') {x : Operand} (hx : x ∈ o.op.operands) : ev s x = ev s' x := ev_congr fun t ht => h.t t (by rw [← ht]; exact hx)
theorem Sees.evT {s s' : AS} (h : Sees o s s') {x : Operand} (hx : x ∈ o.op.operands) (t : TypeId) : evT P t s x = AL.evT P t s' x := evT_congr fun t ht => h.t t (by rw [← ht]; exact hx)

theorem datsOf_congr {s s' : AS} {parts : Array (Nat × Operand)} {f f' : Operand → TV} (h : ∀ p ∈ parts.toList, f p.2 = f' p.2) : datsOf (parts.toList.map fun p => (p.1, f p.2)) = datsOf (parts.toList.map fun p => (p.1, f' p.2)) := by
  congr 1
  exact List.map_congr_left fun p hp => by rw [h p hp]

theorem optDat_congr {s s' : AS} {x : Option Operand} (h : ∀ y, x = some y → AL.ev s y = AL.ev s' y) : optDat s x = optDat s' x := by
  cases x with
  | none => rfl
  | some y => simp only [optDat, h y rfl]

theorem evalP_congr {s s' : AS} (h : Sees o s s') {r : TV} (he : evalP P s o = some r) : evalP P s' o = some r := by
  cases ho : o.op with
  | move x => simp only [evalP, ho] at he ⊢; rw [← h.evT (by rw [ho]; simp [Op.operands])]; exact he
  | assign x => simp only [evalP, ho] at he ⊢; rw [← h.evT (by rw [ho]; simp [Op.operands])]; exact he
  | pick c x y =>
    simp only [evalP, ho] at he ⊢
    rw [← h.ev (x := c) (by rw [ho]; simp [Op.operands]), ← h.ev (x := x) (by rw [ho]; simp [Op.operands]), ← h.ev (x := y) (by rw [ho]; simp [Op.operands])]; exact he
  | binOp op t x y yt =>
    simp only [evalP, ho] at he ⊢
    rw [← h.ev (x := x) (by rw [ho]; simp [Op.operands]), ← h.ev (x := y) (by rw [ho]; simp [Op.operands])]; exact he
  | unOp op t x => simp only [evalP, ho] at he ⊢; rw [← h.ev (x := x) (by rw [ho]; simp [Op.operands])]; exact he
  | convert q d x => simp only [evalP, ho] at he ⊢; rw [← h.ev (x := x) (by rw [ho]; simp [Op.operands])]; exact he
  | fieldAddr t x f => simp only [evalP, ho] at he ⊢; rw [← h.ev (x := x) (by rw [ho]; simp [Op.operands])]; exact he
  | field t x f => simp only [evalP, ho] at he ⊢; rw [← h.ev (x := x) (by rw [ho]; simp [Op.operands])]; exact he
  | indexAddr t x i => simp only [evalP, ho] at he ⊢; rw [← h.ev (x := x) (by rw [ho]; simp [Op.operands]), ← h.ev (x := i) (by rw [ho]; simp [Op.operands])]; exact he
  | index t x i => simp only [evalP, ho] at he ⊢; rw [← h.ev (x := x) (by rw [ho]; simp [Op.operands]), ← h.ev (x := i) (by rw [ho]; simp [Op.operands])]; exact he
  | load t x =>
    simp only [evalP, ho] at he ⊢
    rw [← h.ev (x := x) (by rw [ho]; simp [Op.operands])]
    split at he
    · cases he
    · rename_i hz
      rw [if_neg hz]
      split at he
      · rename_i q off hq
        (try simp only [hq])
        split at he
        · rename_i cs hb
          simp only [h.b q cs hb]; exact he
        · cases he
      · rename_i cs hq
        (try simp only [hq]); exact he
      · cases he
  | extract x i => simp only [evalP, ho] at he ⊢; rw [← h.ev (x := x) (by rw [ho]; simp [Op.operands])]; exact he
  | build t parts =>
    simp only [evalP, ho] at he ⊢
    rw [← datsOf_congr (s := s) (s' := s') (f := AL.ev s) (f' := AL.ev s') (fun p hp => h.ev (by rw [ho]; simp only [Op.operands]; exact List.mem_toArray.2 (List.mem_map.2 ⟨p, hp, rfl⟩)))]; exact he
  | slice t x lo hi mx =>
    simp only [evalP, ho] at he ⊢
    rw [← h.ev (x := x) (by rw [ho]; simp [Op.operands]), ← optDat_congr (s := s) (s' := s') (x := lo) (fun y hy => h.ev (by rw [ho, hy]; simp [Op.operands])), ← optDat_congr (s := s) (s' := s') (x := hi) (fun y hy => h.ev (by rw [ho, hy]; simp [Op.operands]))]; exact he
  | makeFunc f first captured =>
    cases f <;> simp only [evalP, ho] at he ⊢ <;> first | cases he | skip
    split at he
    · rename_i hf
      rw [if_pos hf, ← he]
      congr 2
      exact (List.map_congr_left fun x hx => h.ev (by rw [ho]; simp only [Op.operands]; simp at hx; simp [hx])).symm
    · cases he
  | nilCheck x => simp only [evalP, ho] at he ⊢; rw [← h.ev (x := x) (by rw [ho]; simp [Op.operands])]; exact he
  | makeInterface t x => simp only [evalP, ho] at he ⊢; rw [← h.ev (x := x) (by rw [ho]; simp [Op.operands])]; exact he
  | call c =>
    obtain ⟨callee, args, ats⟩ := c
    have hargs : ∀ x ∈ args, AL.ev s x = AL.ev s' x := fun x hx => h.ev (by rw [ho]; simp [Op.operands, Call.operands, hx])
    cases callee with
    | builtin b =>
      cases b <;> first
        | (simp [evalP, ho] at he; done)
        | skip
      · simp only [evalP, ho] at he ⊢
        have : (args[0]?).map (fun x => (AL.ev s' x).dat) = (args[0]?).map (fun x => (AL.ev s x).dat) := by
          cases ha : args[0]? with
          | none => rfl
          | some x => simp only [Option.map_some, hargs x (Array.mem_of_getElem? ha)]
        rw [this]; exact he
      · simp only [evalP, ho] at he ⊢
        rw [show args.toList.map (fun x => (AL.ev s' x).dat) = args.toList.map (fun x => (AL.ev s x).dat) from List.map_congr_left fun x hx => by rw [hargs x (by simpa using hx)]]; exact he
      · simp only [evalP, ho] at he ⊢
        rw [show args.toList.map (fun x => (AL.ev s' x).dat) = args.toList.map (fun x => (AL.ev s x).dat) from List.map_congr_left fun x hx => by rw [hargs x (by simpa using hx)]]; exact he
    | _ => simp [evalP, ho] at he
  | _ => simp [evalP, ho] at he
end
end Go.Proofs.YtenigafbbdjagaaDoor.AL

/- Regions that leave their order open: the state behind a set of operations. -/
namespace Go.Proofs.YtenigafbbdjagaaDoor.AL
open Go Go.RowKit
set_option linter.unusedVariables false
set_option linter.unusedSimpArgs false

abbrev RL := List (Nat × Rc)
def UD (L : RL) : Prop := ∀ p ∈ L, ∀ q ∈ L, p.2.d = q.2.d → p = q

theorem get_cons_ne {α : Type} {t m : Nat} {x : α} {l : List (Nat × α)} (h : t ≠ m) : get t ((m, x) :: l) = get t l := by
  have : (t == m) = false := by simpa using h
  simp [get, this]
theorem get_cons_eq {α : Type} {t : Nat} {x : α} {l : List (Nat × α)} : get t ((t, x) :: l) = some x := by simp [get]

theorem getT_mem {t : Nat} {x : TV} {T : List (Nat × TV)} : ∀ {L : RL}, get t (rT L T) = some x → (∃ p ∈ L, p.2.d = t ∧ x = p.2.v) ∨ ((∀ p ∈ L, p.2.d ≠ t) ∧ get t T = some x)
  | [], h => .inr ⟨fun p hp => (by cases hp), h⟩
  | (i, r) :: L, h => by
    simp only [rT] at h
    by_cases ht : t = r.d
    · subst ht
      rw [get_cons_eq] at h
      cases h
      exact .inl ⟨(i, r), by simp, rfl, rfl⟩
    · rw [get_cons_ne ht] at h
      rcases getT_mem h with ⟨p, hp, h1⟩ | ⟨h1, h2⟩
      · exact .inl ⟨p, by simp [hp], h1⟩
      · refine .inr ⟨fun p hp => ?_, h2⟩
        rcases List.mem_cons.1 hp with rfl | hp
        · exact fun e => ht e.symm
        · exact h1 p hp
theorem getT_out {t : Nat} {T : List (Nat × TV)} : ∀ {L : RL}, (∀ p ∈ L, p.2.d ≠ t) → get t (rT L T) = get t T
  | [], _ => rfl
  | (i, r) :: L, h => by
    simp only [rT]
    rw [get_cons_ne (fun e => h (i, r) (by simp) e.symm)]
    exact getT_out fun p hp => h p (by simp [hp])
theorem getT_in {T : List (Nat × TV)} {p : Nat × Rc} : ∀ {L : RL}, UD L → p ∈ L → get p.2.d (rT L T) = some p.2.v
  | [], _, h => by cases h
  | (i, r) :: L, hu, h => by
    simp only [rT]
    by_cases ht : p.2.d = r.d
    · have := hu p h (i, r) (by simp) ht
      subst this
      exact get_cons_eq
    · rw [get_cons_ne ht]
      refine getT_in (fun p hp q hq => hu p (by simp [hp]) q (by simp [hq])) ?_
      rcases List.mem_cons.1 h with rfl | h
      · exact absurd rfl ht
      · exact h
theorem getB_mem {t : Nat} {c : List TV} {B : List (Nat × List TV)} : ∀ {L : RL}, get t (rB L B) = some c → (∃ p ∈ L, p.2.d = t ∧ p.2.bx = some c) ∨ get t B = some c
  | [], h => .inr h
  | (i, r) :: L, h => by
    simp only [rB] at h
    have next : get t (rB L B) = some c → (∃ p ∈ (i, r) :: L, p.2.d = t ∧ p.2.bx = some c) ∨ get t B = some c := fun h => by
      rcases getB_mem h with ⟨p, hp, h1⟩ | h1
      · exact .inl ⟨p, by simp [hp], h1⟩
      · exact .inr h1
    split at h
    · rename_i c' hc
      by_cases ht : t = r.d
      · subst ht
        rw [get_cons_eq] at h
        cases h
        exact .inl ⟨(i, r), by simp, rfl, hc⟩
      · rw [get_cons_ne ht] at h; exact next h
    · exact next h
theorem getB_out {t : Nat} {B : List (Nat × List TV)} : ∀ {L : RL}, (∀ p ∈ L, p.2.bx.isSome = true → p.2.d ≠ t) → get t (rB L B) = get t B
  | [], _ => rfl
  | (i, r) :: L, h => by
    simp only [rB]
    have next : get t (rB L B) = get t B := getB_out fun p hp => h p (by simp [hp])
    split
    · rename_i c' hc
      rw [get_cons_ne (fun e => h (i, r) (by simp) (by simp [hc]) e.symm)]; exact next
    · exact next
theorem getB_in {B : List (Nat × List TV)} {p : Nat × Rc} {c : List TV} : ∀ {L : RL}, UD L → p ∈ L → p.2.bx = some c → get p.2.d (rB L B) = some c
  | [], _, h, _ => by cases h
  | (i, r) :: L, hu, h, hc => by
    simp only [rB]
    by_cases ht : p.2.d = r.d
    · have := hu p h (i, r) (by simp) ht
      subst this
      have hc' : r.bx = some c := hc
      simp only [hc']
      exact get_cons_eq
    · have next : get p.2.d (rB L B) = some c := by
        refine getB_in (fun p hp q hq => hu p (by simp [hp]) q (by simp [hq])) ?_ hc
        rcases List.mem_cons.1 h with rfl | h
        · exact absurd rfl ht
        · exact h
      split
      · rw [get_cons_ne ht]; exact next
      · exact next
theorem mem_rK0 {x : Nat} {k : List Nat} : ∀ {L : RL}, x ∈ rK0 L k ↔ (∃ p ∈ L, p.2.tk = true ∧ p.2.d = x) ∨ x ∈ k
  | [] => by simp [rK0]
  | (i, r) :: L => by
    simp only [rK0]
    cases h : r.tk
    · simp only [cond_false]; rw [mem_rK0]; simp [h]
    · simp only [cond_true, List.mem_cons]
      rw [mem_rK0]
      constructor
      · rintro (rfl | ⟨p, h1, h2⟩ | h1)
        · exact .inl ⟨(i, r), .inl rfl, h, rfl⟩
        · exact .inl ⟨p, .inr h1, h2⟩
        · exact .inr h1
      · rintro (⟨p, rfl | h1, h2, h3⟩ | h1)
        · exact .inl h3.symm
        · exact .inr (.inl ⟨p, h1, h2, h3⟩)
        · exact .inr (.inr h1)
theorem mem_rC {x : Nat} : ∀ {L : RL}, x ∈ rC L ↔ ∃ p ∈ L, p.2.cs = some x
  | [] => by simp [rC]
  | (i, r) :: L => by
    simp only [rC]
    split
    · rename_i s h
      simp only [List.mem_cons]
      rw [mem_rC]
      constructor
      · rintro (rfl | ⟨p, h1, h2⟩)
        · exact ⟨(i, r), .inl rfl, h⟩
        · exact ⟨p, .inr h1, h2⟩
      · rintro ⟨p, rfl | h1, h2⟩
        · have h3 : r.cs = some x := h2
          rw [h] at h3; cases h3; exact .inl rfl
        · exact .inr ⟨p, h1, h2⟩
    · rename_i h; rw [mem_rC]; simp [h]
theorem mem_killK_iff {x s : Nat} : ∀ {k : List Nat}, x ∈ killK s k ↔ x ≠ s ∧ x ∈ k
  | [] => by simp [killK]
  | y :: k => by
    simp only [killK]
    cases h : y == s
    · simp only [cond_false, List.mem_cons]
      rw [mem_killK_iff]
      simp only [beq_eq_false_iff_ne] at h
      constructor
      · rintro (rfl | h1)
        · exact ⟨h, .inl rfl⟩
        · exact ⟨h1.1, .inr h1.2⟩
      · rintro ⟨h1, rfl | h2⟩
        · exact .inl rfl
        · exact .inr ⟨h1, h2⟩
    · simp only [cond_true, List.mem_cons]
      rw [mem_killK_iff]
      simp only [beq_iff_eq] at h
      subst h
      constructor
      · exact fun h1 => ⟨h1.1, .inr h1.2⟩
      · rintro ⟨h1, rfl | h2⟩
        · exact absurd rfl h1
        · exact ⟨h1, h2⟩
theorem mem_kdrop {x : Nat} {k : List Nat} : ∀ {ss : List Nat}, x ∈ kdrop ss k ↔ x ∈ k ∧ x ∉ ss
  | [] => by simp [kdrop]
  | s :: ss => by
    simp only [kdrop]
    rw [mem_killK_iff, mem_kdrop]
    simp only [List.mem_cons, not_or]
    constructor
    · rintro ⟨a, b, c⟩; exact ⟨b, a, c⟩
    · rintro ⟨b, a, c⟩; exact ⟨a, b, c⟩
theorem memK_iff {s : Nat} : ∀ {l : List Nat}, memK s l = true ↔ s ∈ l
  | [] => by simp [memK]
  | m :: l => by
    simp only [memK, List.mem_cons]
    cases h : m == s
    · simp only [cond_false]; rw [memK_iff]
      simp only [beq_eq_false_iff_ne] at h
      exact ⟨.inr, fun e => e.resolve_left fun e => h e.symm⟩
    · simp only [beq_iff_eq] at h; simp [h]
theorem get_killB_ne {t d : Nat} {cs : List TV} : ∀ {l : List (Nat × List TV)}, t ≠ d → get t l = some cs → get t (killB d l) = some (killL d cs)
  | [], _, h => by simp [get] at h
  | (m, x) :: l, ht, h => by
    simp only [killB]
    by_cases hm : t = m
    · subst hm
      rw [get_cons_eq] at h
      cases h
      have : (t == d) = false := by simpa using ht
      simp only [this, cond_false]
      exact get_cons_eq
    · rw [get_cons_ne hm] at h
      cases hd : m == d
      · simp only [cond_false]; rw [get_cons_ne hm]; exact get_killB_ne ht h
      · simp only [cond_true]; exact get_killB_ne ht h

/-- What the states know, when one more has been taken. -/
theorem grow_leG {L L' : RL} {i : Nat} {r : Rc} {σ : AS} {T1 : List (Nat × TV)} {B1 : List (Nat × List TV)} {K1 : List Nat}
    (hL' : ∀ p, p ∈ L' ↔ p = (i, r) ∨ p ∈ L) (hu : UD L') (hn : (i, r) ∉ L) (hkey : ∀ p ∈ L', p.2.bx.isSome = true → get p.2.d σ.b = none)
    (hT : ∀ t x, t ≠ r.d → get t (rT L σ.t) = some x → get t T1 = some x)
    (hB : ∀ t c, ((t = r.d ∧ r.bx = some c) ∨ get t (rB L σ.b) = some c) → get t B1 = some c)
    (hK : ∀ x, ((x = r.d ∧ r.tk = true) ∨ (x ∈ kdrop (rC L) (rK0 L σ.k) ∧ r.cs ≠ some x)) → x ∈ K1) :
    LeG (fullS L' σ) ⟨σ.n, (r.d, r.v) :: T1, B1, K1⟩ := by
  have huL : UD L := fun p hp q hq => hu p ((hL' p).2 (.inr hp)) q ((hL' q).2 (.inr hq))
  have hmem : (i, r) ∈ L' := (hL' _).2 (.inl rfl)
  refine ⟨rfl, fun t x h => ?_, fun t c h => ?_, fun x h => ?_⟩
  · rcases getT_mem h with ⟨p, hp, rfl, rfl⟩ | ⟨h1, h2⟩
    · rcases (hL' p).1 hp with rfl | hp'
      · exact get_cons_eq
      · have hne : p.2.d ≠ r.d := fun e => hn (by rw [← hu p hp (i, r) hmem e]; exact hp')
        show get p.2.d ((r.d, r.v) :: T1) = _
        rw [get_cons_ne hne]
        exact hT _ _ hne (getT_in huL hp')
    · have hne : t ≠ r.d := fun e => h1 _ hmem e.symm
      show get t ((r.d, r.v) :: T1) = _
      rw [get_cons_ne hne]
      exact hT _ _ hne (by rw [getT_out fun p hp => h1 p ((hL' p).2 (.inr hp))]; exact h2)
  · refine hB t c ?_
    rcases getB_mem h with ⟨p, hp, h1, h2⟩ | h1
    · rcases (hL' p).1 hp with rfl | hp'
      · exact .inl ⟨h1.symm, h2⟩
      · exact .inr (by rw [← h1]; exact getB_in huL hp' h2)
    · refine .inr ?_
      rw [getB_out fun p hp hb e => ?_]
      · exact h1
      · have := hkey p ((hL' p).2 (.inr hp)) hb
        rw [e, h1] at this; cases this
  · refine hK x ?_
    simp only [fullS] at h
    obtain ⟨h1, h2⟩ := mem_kdrop.1 h
    rcases mem_rK0.1 h1 with ⟨p, hp, h3, h4⟩ | h3
    · rcases (hL' p).1 hp with rfl | hp'
      · exact .inl ⟨h4.symm, h3⟩
      · refine .inr ⟨mem_kdrop.2 ⟨mem_rK0.2 (.inl ⟨p, hp', h3, h4⟩), fun hx => h2 ?_⟩, fun hc => h2 (mem_rC.2 ⟨_, hmem, hc⟩)⟩
        obtain ⟨q, hq, hc⟩ := mem_rC.1 hx
        exact mem_rC.2 ⟨q, (hL' q).2 (.inr hq), hc⟩
    · refine .inr ⟨mem_kdrop.2 ⟨mem_rK0.2 (.inr h3), fun hx => h2 ?_⟩, fun hc => h2 (mem_rC.2 ⟨_, hmem, hc⟩)⟩
      obtain ⟨q, hq, hc⟩ := mem_rC.1 hx
      exact mem_rC.2 ⟨q, (hL' q).2 (.inr hq), hc⟩

/-- The facts on a creator's place. -/
structure Fresh (σ : AS) (L : RL) (d : Nat) : Prop where
  t : hasnT d σ.t = true
  b : hasnB d σ.b = true
  lt : ∀ p ∈ L, p.2.v.hasn d = true
  lb : ∀ p ∈ L, ∀ c, p.2.bx = some c → hasnL d c = true
  nb : get d (rB L σ.b) = none
  nk : d ∉ kdrop (rC L) (rK0 L σ.k)

theorem Fresh.T {σ : AS} {L : RL} {d : Nat} (h : Fresh σ L d) {t : Nat} {x : TV} (ht : t ≠ d) (hg : get t (rT L σ.t) = some x) : get t (killT d (rT L σ.t)) = some x := by
  rw [get_killT, hg, Option.map_some]
  congr 1
  rcases getT_mem hg with ⟨p, hp, _, rfl⟩ | ⟨_, h2⟩
  · exact kill_hasn _ (h.lt p hp)
  · exact hasnT_get h.t h2 ht
theorem Fresh.B {σ : AS} {L : RL} {d : Nat} (h : Fresh σ L d) {t : Nat} {c : List TV} (ht : t ≠ d) (hg : get t (rB L σ.b) = some c) : get t (killB d (rB L σ.b)) = some c := by
  rw [get_killB_ne ht hg]
  congr 1
  rcases getB_mem hg with ⟨p, hp, _, h2⟩ | h2
  · exact killL_hasn _ (h.lb p hp c h2)
  · exact hasnB_get h.b h2 ht
end Go.Proofs.YtenigafbbdjagaaDoor.AL

/- Regions that leave their order open: one operation's step. -/
namespace Go.Proofs.YtenigafbbdjagaaDoor.AL
open Go Go.RowKit
set_option linter.unusedVariables false
set_option linter.unusedSimpArgs false

theorem tvz_hasn {d : Nat} (h : d < 999999) : ∀ (cs : List AV), hasnL d (cs.map tvz) = true
  | [] => rfl
  | c :: cs => by
    simp only [List.map_cons, hasnL, tvz_hasn h cs, Bool.and_true]
    have hne : (999999 == d) = false := by simp only [beq_eq_false_iff_ne]; omega
    unfold tvz
    split
    · simp only [TV.hasn, hne, Bool.not_false]
    · rfl

section
variable {P : Program} {ro : Option Nat} {n : Nat} {E : E0} {g : GS} {w w' : World} {σ σ' : AS} {a : Act} {o : Oper} {d : Nat} {x : TV} {v : Value} {Q : Exit → Act → World → Prop}

theorem datArgs_congr {s s' : AS} : ∀ {xs : List Operand} {ts : List TypeId}, (∀ x ∈ xs, ∀ t, x = .tmp t → get t s.t = get t s'.t) → datArgs P s xs ts = datArgs P s' xs ts
  | [], _, _ => rfl
  | x :: xs, t :: ts, h => by
    simp only [datArgs]
    rw [evT_congr (s' := s') (fun q hq => h x (by simp) q hq), datArgs_congr (s' := s') fun y hy => h y (by simp [hy])]
  | x :: xs, [], h => by
    simp only [datArgs]
    rw [ev_congr (s' := s') (fun q hq => h x (by simp) q hq), datArgs_congr (s' := s') fun y hy => h y (by simp [hy])]

theorem callA_congr {s s' : AS} (h : Sees o s s') : callA P s o = callA P s' o := by
  unfold callA
  split
  · rename_i f args ats hc
    have h1 : ev s f = ev s' f := h.ev (by rw [hc]; simp [Op.operands, Call.operands])
    have h2 : datArgs P s args.toList ats.toList = datArgs P s' args.toList ats.toList := datArgs_congr fun x hx t ht => h.t t (by rw [← ht, hc]; simp only [Op.operands, Call.operands]; simp at hx; simp [hx])
    rw [h1, h2]
  · rfl

theorem wantA_congr {ops : List Oper} {s s' : AS} (h : ∀ j want d, o.guard = some (j, want) → (ops[j]?).bind (·.dst) = some d → get d s.t = get d s'.t) : wantA ops s o = wantA ops s' o := by
  unfold wantA
  split
  · rfl
  · rename_i j want hg
    split
    · rename_i d hd
      rw [h j want d hg hd]
    · rfl

theorem bsA_congr {s s' : AS} {t : TypeId} {len : Nat} {parts : Array (Nat × Operand)} (ho : o.op = .buildSlice t len parts) (h : Sees o s s') : bsA P s t len parts = bsA P s' t len parts := by
  unfold bsA
  split
  · rename_i e sz by_ hty
    have : datsOf (parts.toList.map fun p => (p.1, evT P e s p.2)) = datsOf (parts.toList.map fun p => (p.1, evT P e s' p.2)) :=
      datsOf_congr (s := s) (s' := s') (f := fun x => evT P e s x) (f' := fun x => evT P e s' x) fun p hp => h.evT (by rw [ho]; simp only [Op.operands]; exact List.mem_toArray.2 (List.mem_map.2 ⟨p, hp, rfl⟩)) e
    rw [this]
  · rfl

theorem apA_congr {s s' : AS} {args : Array Operand} {ats : Array TypeId} (ho : o.op = .call ⟨.builtin .append, args, ats⟩) (h : Sees o s s') : apA P s args ats = apA P s' args ats := by
  unfold apA
  split
  · rename_i x y t tx hx hy
    have hin : ∀ z ∈ args.toList, ∀ q, evT P q s z = evT P q s' z := fun z hz q => h.evT (by rw [ho]; simp only [Op.operands, Call.operands]; simp at hz; simp [hz]) q
    rw [hx] at hin
    unfold srcA
    rw [hin x (by simp) t, hin y (by simp) tx]
  · rfl

theorem drawOp_step {ops : Array Oper} {i : Nat} {r : Rc} {suf L L' : RL} {K : Act → World → Prop} (hio : ops[i]? = some o) (hok : RecOK P ops.toList (seeS suf σ) o r)
    (hsee : ∀ t ∈ o.looksAt ops, get t (rT suf σ.t) = get t (rT L σ.t))
    (hL' : ∀ p, p ∈ L' ↔ p = (i, r) ∨ p ∈ L) (hu : UD L') (hn : (i, r) ∉ L) (hkey : ∀ p ∈ L', p.2.bx.isSome = true → get p.2.d σ.b = none)
    (hfr : r.bx.isSome = true ∨ r.tk = true → Fresh σ L r.d)
    (hcs : ∀ s, r.cs = some s → s ≠ 999999 → s ∈ kdrop (rC suf) (rK0 suf σ.k) → s ∈ kdrop (rC L) (rK0 L σ.k))
    (hr : Rel E (fullS L σ) a w) (hK : ∀ a' w', Rel E (fullS L' σ) a' w' → K a' w') : wpOpIn (Fw ro) n P ops Q i K a w := by
  have hsees : Sees o (seeS suf σ) (fullS L σ) := by
    refine ⟨fun t ht => hsee t (List.mem_append_left _ (List.mem_filterMap.2 ⟨.tmp t, by simpa using ht, rfl⟩)), fun q cs hq => ?_⟩
    show get q (rB L σ.b) = some cs
    rw [getB_out fun p hp hb e => ?_]
    · exact hq
    · have := hkey p ((hL' p).2 (.inr hp)) hb
      have hq' : get q σ.b = some cs := hq
      rw [e, hq'] at this; cases this
  have hwant : wantA ops.toList (seeS suf σ) o = wantA ops.toList (fullS L σ) o := wantA_congr fun j want d hg hd => hsee d (List.mem_append_right _ (by
    have hd' : (ops[j]?).bind (·.dst) = some d := by simpa using hd
    simp only [hg, hd']; simp))
  obtain ⟨hd, hlt, hlt', hcase⟩ := hok
  unfold wpOpIn
  simp only [hio]
  rcases hcase with ⟨hw, hre⟩ | ⟨hw, hcase⟩
  · rw [hwant] at hw
    rw [if_neg (by simp [want_ok hr hw])]
    refine ⟨fenceW o w _, hK _ _ ?_⟩
    have hp : Rel E ((fullS L σ).put r.d (.tup [])) (a.put o.dst undef) w := by
      rw [hd]; exact hr.put hlt fun _ _ _ => .tup [] #[] rfl (fun j c v h => by simp at h)
    refine hp.leG ?_
    have h1 : r.v = .tup [] := by rw [hre]
    have h2 : r.bx = none := by rw [hre]
    have h3 : r.tk = false := by rw [hre]
    have := grow_leG (T1 := rT L σ.t) (B1 := rB L σ.b) (K1 := kdrop (rC L) (rK0 L σ.k)) hL' hu hn hkey (fun t x _ h => h) (fun t c h => h.elim (fun e => by rw [h2] at e; cases e.2) id) (fun x h => h.elim (fun e => by rw [h3] at e; cases e.2) (·.1))
    rw [h1] at this
    exact this
  · rw [hwant] at hw
    rw [if_pos (want_ok hr hw)]
    rcases hcase with hrec | ⟨fid, all, rv, hcall, hfc, hre, hret⟩
    · have go : ∀ σ', stepOp P (fullS L σ) o = some σ' → LeG (fullS L' σ) σ' → o.wpIn (Fw ro) n P a w K Q := fun σ' hs hle =>
        goes_wpIn (stepOp_defer hs) (stepOp_ok hr hs) fun v w' hr' => hK _ _ (hr'.leG hle)
      have hlt2 : r.d < (fullS L σ).n := hlt
      unfold recE at hrec
      split at hrec
      · rename_i v he
        have hrv : r = ⟨r.d, v, none, false, none⟩ := (Option.some.inj hrec).symm
        refine go ((fullS L σ).put r.d v) ?_ ?_
        · unfold stepOp
          simp only [hd, hlt2, if_true, evalP_congr hsees he]
        · have h1 : r.v = v := by rw [hrv]
          have h2 : r.bx = none := by rw [hrv]
          have h3 : r.tk = false := by rw [hrv]
          have := grow_leG (T1 := rT L σ.t) (B1 := rB L σ.b) (K1 := kdrop (rC L) (rK0 L σ.k)) hL' hu hn hkey (fun t x _ h => h) (fun t c h => h.elim (fun e => by rw [h2] at e; cases e.2) id) (fun x h => h.elim (fun e => by rw [h3] at e; cases e.2) (·.1))
          rw [h1] at this
          exact this
      · rename_i hen
        split at hrec
        · rename_i t hop
          obtain ⟨cs, hz, hre⟩ := Option.map_eq_some_iff.1 hrec
          have h1 : r.v = .loc r.d 0 := by rw [← hre]
          have h2 : r.bx = some (cs.map tvz) := by rw [← hre]
          have h3 : r.tk = false := by rw [← hre]
          have hF := hfr (.inl (by simp [h2]))
          refine go ((fullS L σ).newBox r.d (cs.map tvz)) ?_ ?_
          · unfold stepOp
            have hev : evalP P (fullS L σ) o = none := by simp [evalP, hop]
            simp only [hd, hlt2, if_true, hev, hlt', stepE, hop, hz, Option.map_some, killL_hasn _ (tvz_hasn hlt' cs)]
          · have := grow_leG (T1 := killT r.d (rT L σ.t)) (B1 := (r.d, cs.map tvz) :: killB r.d (rB L σ.b)) (K1 := killK r.d (kdrop (rC L) (rK0 L σ.k))) hL' hu hn hkey
              (fun t x ht h => hF.T ht h) (fun t c h => h.elim (fun e => by rw [h2] at e; cases e.2; rw [e.1]; exact get_cons_eq) fun h => by
                have hne : t ≠ r.d := fun e => by rw [e, hF.nb] at h; cases h
                rw [get_cons_ne hne]; exact hF.B hne h) (fun x h => h.elim (fun e => by rw [h3] at e; cases e.2) fun h => mem_killK_iff.2 ⟨fun e => hF.nk (by rw [← e]; exact h.1), h.1⟩)
            rw [h1] at this
            exact this
        · rename_i t len parts hop
          obtain ⟨⟨sz, xs⟩, hz, hre⟩ := Option.map_eq_some_iff.1 hrec
          have h1 : r.v = .ap sz xs r.d := by rw [← hre]
          have h2 : r.bx = none := by rw [← hre]
          have h3 : r.tk = true := by rw [← hre]
          have hF := hfr (.inr h3)
          refine go ((fullS L σ).newTok r.d sz xs) ?_ ?_
          · unfold stepOp
            have hev : evalP P (fullS L σ) o = none := by simp [evalP, hop]
            simp only [hd, hlt2, if_true, hev, hlt', stepE, hop, ← bsA_congr hop hsees, hz, Option.map_some]
          · have := grow_leG (T1 := killT r.d (rT L σ.t)) (B1 := killB r.d (rB L σ.b)) (K1 := r.d :: killK r.d (kdrop (rC L) (rK0 L σ.k))) hL' hu hn hkey
              (fun t x ht h => hF.T ht h) (fun t c h => h.elim (fun e => by rw [h2] at e; cases e.2) fun h => by
                have hne : t ≠ r.d := fun e => by rw [e, hF.nb] at h; cases h
                exact hF.B hne h) (fun x h => h.elim (fun e => by simp [e.1]) fun h => List.mem_cons_of_mem _ (mem_killK_iff.2 ⟨fun e => hF.nk (by rw [← e]; exact h.1), h.1⟩))
            rw [h1] at this
            exact this
        · rename_i args ats hop
          split at hrec
          · rename_i sz zs tk hap
            split at hrec
            · rename_i hlv
              have hre := Option.some.inj hrec
              have h1 : r.v = .ap sz zs r.d := by rw [← hre]
              have h2 : r.bx = none := by rw [← hre]
              have h3 : r.tk = true := by rw [← hre]
              have h4 : r.cs = some tk := by rw [← hre]
              have hF := hfr (.inr h3)
              have hlv' : tk = 999999 ∨ memK tk (fullS L σ).k = true := by
                by_cases h9 : tk = 999999
                · exact .inl h9
                · exact .inr (memK_iff.2 (hcs tk h4 h9 (memK_iff.1 (hlv.resolve_left h9))))
              refine go ⟨σ.n, (r.d, .ap sz zs r.d) :: killT r.d (rT L σ.t), killB r.d (rB L σ.b), r.d :: pushK r.d tk (kdrop (rC L) (rK0 L σ.k))⟩ ?_ ?_
              · unfold stepOp
                have hev : evalP P (fullS L σ) o = none := by simp [evalP, hop]
                simp only [hd, hlt2, if_true, hev, hlt', stepE, hop, ← apA_congr hop hsees, hap, hlv']
                rfl
              · have := grow_leG (T1 := killT r.d (rT L σ.t)) (B1 := killB r.d (rB L σ.b)) (K1 := r.d :: pushK r.d tk (kdrop (rC L) (rK0 L σ.k))) hL' hu hn hkey
                  (fun t x ht h => hF.T ht h) (fun t c h => h.elim (fun e => by rw [h2] at e; cases e.2) fun h => by
                    have hne : t ≠ r.d := fun e => by rw [e, hF.nb] at h; cases h
                    exact hF.B hne h) (fun x h => h.elim (fun e => by simp [e.1]) fun h => List.mem_cons_of_mem _ (mem_killK_iff.2 ⟨fun e => hF.nk (by rw [← e]; exact h.1), mem_killK_iff.2 ⟨fun e => h.2 (by rw [h4, e]), h.1⟩⟩))
                rw [h1] at this
                exact this
            · cases hrec
          · cases hrec
        · cases hrec
    · rw [callA_congr hsees] at hcall
      obtain ⟨σ0, hret⟩ := hret
      unfold callA at hcall
      split at hcall
      · rename_i f args ats hop
        split at hcall
        · rename_i fid' caps avs hf ha
          simp only [Option.some.injEq, Prod.mk.injEq] at hcall
          obtain ⟨rfl, rfl⟩ := hcall
          have fin : ∀ σ', (fullS L σ).ret o.dst rv = some σ' → LeG (fullS L' σ) σ' → o.wpIn (Fw ro) n P a w K Q := fun σ' hs hle => by
            refine step_ok (K := fun s => s = σ') hr ?_ (fun s a' w' hs hr' => hK _ _ (by subst hs; exact hr'.leG hle))
            refine .inl ?_
            unfold StepS
            rw [hop]
            simp only [hf, ha]
            exact ⟨rv, hfc, σ', hs, rfl⟩
          by_cases hrv : ∃ sz xs k, rv = .ap sz xs k
          · obtain ⟨sz, xs, k, rfl⟩ := hrv
            have h1 : r.v = .ap sz xs r.d := by rw [hre]; rfl
            have h2 : r.bx = none := by rw [hre]; rfl
            have h3 : r.tk = true := by rw [hre]; rfl
            have hF := hfr (.inr h3)
            refine fin ((fullS L σ).newTok r.d sz xs) ?_ ?_
            · unfold AS.ret
              rw [hd]
              have : r.d < (fullS L σ).n ∧ r.d < 999999 := ⟨hlt, hlt'⟩
              simp only [if_pos this]
            · have := grow_leG (T1 := killT r.d (rT L σ.t)) (B1 := killB r.d (rB L σ.b)) (K1 := r.d :: killK r.d (kdrop (rC L) (rK0 L σ.k))) hL' hu hn hkey
                (fun t x ht h => hF.T ht h) (fun t c h => h.elim (fun e => by rw [h2] at e; cases e.2) fun h => by
                  have hne : t ≠ r.d := fun e => by rw [e, hF.nb] at h; cases h
                  exact hF.B hne h) (fun x h => h.elim (fun e => by simp [e.1]) fun h => List.mem_cons_of_mem _ (mem_killK_iff.2 ⟨fun e => hF.nk (by rw [← e]; exact h.1), h.1⟩))
              rw [h1] at this
              exact this
          · have e0 : callRc r.d rv = ⟨r.d, rv, none, false, none⟩ := by
              unfold callRc
              split
              · rename_i sz xs k; exact absurd ⟨_, _, _, rfl⟩ hrv
              · rfl
            have h1 : r.v = rv := by rw [hre, e0]
            have h2 : r.bx = none := by rw [hre, e0]
            have h3 : r.tk = false := by rw [hre, e0]
            refine fin ((fullS L σ).put r.d rv) ?_ ?_
            · unfold AS.ret
              rw [hd]
              have : r.d < (fullS L σ).n ∧ r.d < 999999 := ⟨hlt, hlt'⟩
              cases rv <;> first | (exact absurd ⟨_, _, _, rfl⟩ hrv) | simp only [if_pos this]
            · have := grow_leG (T1 := rT L σ.t) (B1 := rB L σ.b) (K1 := kdrop (rC L) (rK0 L σ.k)) hL' hu hn hkey (fun t x _ h => h) (fun t c h => h.elim (fun e => by rw [h2] at e; cases e.2) id) (fun x h => h.elim (fun e => by rw [h3] at e; cases e.2) (·.1))
              rw [h1] at this
              exact this
        · cases hcall
      · cases hcall
end
end Go.Proofs.YtenigafbbdjagaaDoor.AL

/- Regions that leave their order open: all of them. -/
namespace Go.Proofs.YtenigafbbdjagaaDoor.AL
open Go Go.RowKit
set_option linter.unusedVariables false
set_option linter.unusedSimpArgs false

def bnd (e : Edge) : Bool := Region.binds .any e
def dep (o : Oper) (k : Nat) : Bool := o.after.toList.any fun e => bnd e && e.on == k
def isMk (r : Rc) : Bool := r.bx.isSome || r.tk

def okR1 (ops : Array Oper) (k0 : List Nat) (all : RL) (i : Nat) (r : Rc) (suf : RL) : Bool :=
  match ops[i]? with
  | none => false
  | some o =>
    (o.after.toList.all fun e => !bnd e || suf.any fun p => p.1 == e.on) &&
    ((o.looksAt ops).all fun t => (suf.any fun p => p.2.d == t && dep o p.1) || all.all fun p => !(p.2.d == t)) &&
    (all.all fun p => !isMk p.2 || (p.1 == i || (r.v.hasn p.2.d || (o.after.toList.any fun e => bnd e && (e.on == p.1 || suf.any fun q => q.1 == e.on && !q.2.v.hasn p.2.d))))) &&
    (match r.cs with | some s => s == 999999 || (memK s k0 || suf.any fun p => p.2.d == s && (p.2.tk && dep o p.1)) | none => true) &&
    (suf.all fun p => !(p.1 == i) && (!(p.2.d == r.d) && (match p.2.cs, r.cs with | some s, some s' => !(s == s') || s == 999999 | _, _ => true)))
def okR (ops : Array Oper) (k0 : List Nat) (all : RL) : RL → Bool
  | [] => true
  | (i, r) :: suf => okR1 ops k0 all i r suf && okR ops k0 all suf
def okS (σ : AS) (all : RL) : Bool :=
  all.all fun p => !isMk p.2 || (hasnT p.2.d σ.t && (hasnB p.2.d σ.b && (keyn p.2.d σ.b && (!memK p.2.d σ.k && all.all fun q => match q.2.bx with | some c => hasnL p.2.d c | none => true))))
def okT (ops : Array Oper) : List Nat → List Nat → Bool
  | _, [] => true
  | prev, j :: τ =>
    (match ops[j]? with
     | some o => (o.after.toList.all fun e => !bnd e || prev.contains e.on) && prev.all fun k => dep o k
     | none => false) && !prev.contains j && okT ops (j :: prev) τ
def okC (n : Nat) (is : List Nat) : Bool := (List.range n).all fun i => is.contains i
def okD (ops : Array Oper) (σ : AS) (τ : List Nat) (recs : RL) : Bool :=
  okR ops σ.k recs recs && okS σ recs && okT ops (recs.map (·.1)) τ && okC ops.size (recs.map (·.1) ++ τ)

def Lst (listed : Array Bool) (i : Nat) : Prop := listed.getD i false = true

theorem unl_iff {listed : Array Bool} {i : Nat} (h : i < listed.size) : listed.getD i true = false ↔ ¬ Lst listed i := by
  unfold Lst
  simp only [Array.getD, h, dite_true]
  cases listed[i] <;> simp
theorem lst_set {listed : Array Bool} {i j : Nat} (h : i < listed.size) : Lst (listed.setIfInBounds i true) j ↔ j = i ∨ Lst listed j := by
  unfold Lst
  by_cases hij : i = j
  · subst hij; simp [h]
  · rw [getD_set_ne false hij]
    exact ⟨.inr, fun e => e.resolve_left fun e => hij e.symm⟩
theorem lst_lt {listed : Array Bool} {i : Nat} (h : Lst listed i) : i < listed.size := by
  unfold Lst at h
  rcases Nat.lt_or_ge i listed.size with h' | h'
  · exact h'
  · simp [Array.getD, Nat.not_lt.2 h'] at h

section
variable {P : Program} {ro : Option Nat} {n : Nat} {E : E0} {σ : AS} {ops : Array Oper} {all recs : RL} {listed : Array Bool} {k0 : List Nat} {τ : List Nat}

theorem ready_iff (hs : listed.size = ops.size) {j : Nat} : j ∈ Region.ready .any ops listed ↔ ¬ Lst listed j ∧ ∃ o, ops[j]? = some o ∧ ∀ k, dep o k = true → Lst listed k := by
  rw [mem_ready]
  constructor
  · rintro ⟨h0, o, ho, h⟩
    have hlt : j < listed.size := by rw [hs]; exact (Array.getElem?_eq_some_iff.1 ho).1
    refine ⟨(unl_iff hlt).1 h0, o, ho, fun k hk => ?_⟩
    simp only [dep, List.any_eq_true, Bool.and_eq_true, beq_iff_eq] at hk
    obtain ⟨e, he, hb, rfl⟩ := hk
    exact h e (by simpa using he) hb
  · rintro ⟨h0, o, ho, h⟩
    have hlt : j < listed.size := by rw [hs]; exact (Array.getElem?_eq_some_iff.1 ho).1
    refine ⟨(unl_iff hlt).2 h0, o, ho, fun e he hb => h e.on ?_⟩
    simp only [dep, List.any_eq_true, Bool.and_eq_true, beq_iff_eq]
    exact ⟨e, by simpa using he, hb, rfl⟩

structure R1 (ops : Array Oper) (k0 : List Nat) (all : RL) (i : Nat) (r : Rc) (suf : RL) (o : Oper) : Prop where
  at_ : ops[i]? = some o
  top : ∀ k, dep o k = true → ∃ p ∈ suf, p.1 = k
  opd : ∀ t ∈ o.looksAt ops, (∃ p ∈ suf, p.2.d = t ∧ dep o p.1 = true) ∨ ∀ p ∈ all, p.2.d ≠ t
  men : ∀ p ∈ all, isMk p.2 = true → p.1 = i ∨ r.v.hasn p.2.d = true ∨ dep o p.1 = true ∨ ∃ q ∈ suf, dep o q.1 = true ∧ q.2.v.hasn p.2.d = false
  cns : ∀ s, r.cs = some s → s ≠ 999999 → s ∈ k0 ∨ ∃ p ∈ suf, p.2.d = s ∧ p.2.tk = true ∧ dep o p.1 = true
  apart : ∀ p ∈ suf, p.1 ≠ i ∧ p.2.d ≠ r.d ∧ ∀ s, p.2.cs = some s → r.cs = some s → s = 999999

theorem okR1_spec {i : Nat} {r : Rc} {suf : RL} (h : okR1 ops k0 all i r suf = true) : ∃ o, R1 ops k0 all i r suf o := by
  unfold okR1 at h
  split at h
  · cases h
  · rename_i o ho
    simp only [Bool.and_eq_true, List.all_eq_true, Bool.or_eq_true, Bool.not_eq_true', List.any_eq_true, beq_iff_eq] at h
    obtain ⟨⟨⟨⟨h1, h2⟩, h3⟩, h4⟩, h5⟩ := h
    refine ⟨o, ho, fun k hk => ?_, fun t ht => ?_, fun p hp hm => ?_, fun s hs h9 => ?_, fun p hp => ?_⟩
    · simp only [dep, List.any_eq_true, Bool.and_eq_true, beq_iff_eq] at hk
      obtain ⟨e, he, hb, rfl⟩ := hk
      exact (h1 e he).resolve_left (by simp [hb])
    · refine (h2 t ht).imp id fun h p hp => ?_
      simpa using h p hp
    · rcases h3 p hp with h | h | h | ⟨e, he, hb, h | ⟨q, hq, e1, e2⟩⟩
      · rw [hm] at h; cases h
      · exact .inl h
      · exact .inr (.inl h)
      · exact .inr (.inr (.inl (by simp only [dep, List.any_eq_true, Bool.and_eq_true, beq_iff_eq]; exact ⟨e, he, hb, h⟩)))
      · exact .inr (.inr (.inr ⟨q, hq, by simp only [dep, List.any_eq_true, Bool.and_eq_true, beq_iff_eq]; exact ⟨e, he, hb, e1.symm⟩, e2⟩))
    · rw [hs] at h4
      simp only [Bool.or_eq_true, beq_iff_eq, List.any_eq_true, Bool.and_eq_true] at h4
      rcases h4 with h | h | ⟨p, hp, e1, e2, e3⟩
      · exact absurd h h9
      · exact .inl (memK_iff.1 h)
      · exact .inr ⟨p, hp, e1, e2, e3⟩
    · obtain ⟨e1, e2, e3⟩ := h5 p hp
      refine ⟨by simpa using e1, by simpa using e2, fun s hs hs' => ?_⟩
      simp only [hs, hs', beq_self_eq_true, Bool.not_true, Bool.false_or, beq_iff_eq] at e3
      simpa using e3

/-- What the records came out of. -/
def GoodR (P : Program) (ops : List Oper) (σ : AS) : RL → Prop
  | [] => True
  | (i, r) :: suf => (∃ o, ops[i]? = some o ∧ RecOK P ops (seeS suf σ) o r) ∧ GoodR P ops σ suf

theorem dseq_good {K : RL → Prop} : ∀ {order : List Nat} {acc : RL}, DSeq P ops.toList σ order acc K → GoodR P ops.toList σ acc → ∃ recs, GoodR P ops.toList σ recs ∧ K recs
  | [], acc, h, hg => ⟨acc, hg, h⟩
  | i :: is, acc, ⟨o, r, ho, hok, h⟩, hg => dseq_good h ⟨⟨o, ho, hok⟩, hg⟩

theorem good_at (hg : GoodR P ops.toList σ recs) (hr : okR ops k0 all recs = true) : ∀ p ∈ recs, ∃ suf o, (∀ q ∈ suf, q ∈ recs) ∧ okR ops k0 all suf = true ∧ R1 ops k0 all p.1 p.2 suf o ∧ RecOK P ops.toList (seeS suf σ) o p.2 ∧ UD suf := by
  have huk : ∀ recs : RL, okR ops k0 all recs = true → UD recs := by
    intro recs
    induction recs with
    | nil => intro _ p hp; cases hp
    | cons q suf ih =>
      obtain ⟨i, r⟩ := q
      intro h
      simp only [okR, Bool.and_eq_true] at h
      obtain ⟨o, h1⟩ := okR1_spec h.1
      intro p hp q hq e
      rcases List.mem_cons.1 hp with rfl | hp <;> rcases List.mem_cons.1 hq with rfl | hq
      · rfl
      · exact absurd e.symm (h1.apart q hq).2.1
      · exact absurd e (h1.apart p hp).2.1
      · exact ih h.2 p hp q hq e
  induction recs with
  | nil => intro p hp; cases hp
  | cons q suf ih =>
    obtain ⟨i, r⟩ := q
    simp only [okR, Bool.and_eq_true] at hr
    intro p hp
    rcases List.mem_cons.1 hp with rfl | hp
    · obtain ⟨o, h1⟩ := okR1_spec hr.1
      obtain ⟨o', ho', hok⟩ := hg.1
      have : o = o' := by
        have h2 := h1.at_
        have h3 : ops[i]? = some o' := by simpa using ho'
        rw [h2] at h3; exact Option.some.inj h3
      subst this
      exact ⟨suf, o, fun q hq => by simp [hq], hr.2, h1, hok, huk suf hr.2⟩
    · obtain ⟨s, o, h1, h2⟩ := ih hg.2 hr.2 p hp
      exact ⟨s, o, fun q hq => by simp [h1 q hq], h2⟩

theorem okR_ud : ∀ {recs : RL}, okR ops k0 all recs = true → UD recs ∧ (∀ p ∈ recs, ∀ q ∈ recs, p.1 = q.1 → p = q) ∧ ∀ p ∈ recs, ∀ q ∈ recs, ∀ s, s ≠ 999999 → p.2.cs = some s → q.2.cs = some s → p = q
  | [], _ => ⟨fun p hp => (by cases hp), fun p hp => (by cases hp), fun p hp => (by cases hp)⟩
  | (i, r) :: suf, h => by
    simp only [okR, Bool.and_eq_true] at h
    obtain ⟨o, h1⟩ := okR1_spec h.1
    obtain ⟨u1, u2, u3⟩ := okR_ud h.2
    refine ⟨fun p hp q hq e => ?_, fun p hp q hq e => ?_, fun p hp q hq s h9 e e' => ?_⟩ <;> rcases List.mem_cons.1 hp with rfl | hp <;> rcases List.mem_cons.1 hq with rfl | hq
    · rfl
    · exact absurd e.symm (h1.apart q hq).2.1
    · exact absurd e (h1.apart p hp).2.1
    · exact u1 p hp q hq e
    · rfl
    · exact absurd e.symm (h1.apart q hq).1
    · exact absurd e (h1.apart p hp).1
    · exact u2 p hp q hq e
    · rfl
    · exact absurd ((h1.apart q hq).2.2 s e' e) h9
    · exact absurd ((h1.apart p hp).2.2 s e e') h9
    · exact u3 p hp q hq s h9 e e'

/-- Who speaks of a place, comes behind its maker. -/
theorem men_listed {m : Nat × Rc} (hm : m ∈ all) (hmk : isMk m.2 = true) (hdc : ∀ p ∈ all, Lst listed p.1 → ∀ o, ops[p.1]? = some o → ∀ k, dep o k = true → Lst listed k) :
    ∀ {suf : RL}, (∀ q ∈ suf, q ∈ all) → okR ops k0 all suf = true → ∀ q ∈ suf, Lst listed q.1 → q.2.v.hasn m.2.d = false → Lst listed m.1
  | [], _, _, q, hq, _, _ => by cases hq
  | (i, r) :: suf, hin, h, q, hq, hl, hh => by
    simp only [okR, Bool.and_eq_true] at h
    have ih := men_listed hm hmk hdc (suf := suf) (fun q hq => hin q (by simp [hq])) h.2
    rcases List.mem_cons.1 hq with rfl | hq
    · obtain ⟨o, h1⟩ := okR1_spec h.1
      have hl' : ∀ k, dep o k = true → Lst listed k := hdc _ (hin _ (by simp)) hl o h1.at_
      rcases h1.men m hm hmk with e | e | e | ⟨q, hq, e1, e2⟩
      · rw [e]; exact hl
      · rw [hh] at e; cases e
      · exact hl' _ e
      · exact ih q hq (hl' _ e1) e2
    · exact ih q hq hl hh

theorem all_listed (hs : listed.size = ops.size) (hr : Region.ready .any ops listed = []) : ∀ {suf : RL}, okR ops k0 all suf = true → ∀ q ∈ suf, Lst listed q.1
  | [], _, q, hq => by cases hq
  | (i, r) :: suf, h, q, hq => by
    simp only [okR, Bool.and_eq_true] at h
    have ih := all_listed hs hr h.2
    rcases List.mem_cons.1 hq with rfl | hq
    · obtain ⟨o, h1⟩ := okR1_spec h.1
      rcases Classical.em (Lst listed i) with hl | hl
      · exact hl
      · have : i ∈ Region.ready .any ops listed := (ready_iff hs).2 ⟨hl, o, h1.at_, fun k hk => by
          obtain ⟨p, hp, rfl⟩ := h1.top k hk
          exact ih p hp⟩
        rw [hr] at this; cases this
    · exact ih q hq

/-- How many are not listed yet. -/
def left (m : Nat) (listed : Array Bool) : Nat := ((List.range m).filter fun i => !listed.getD i false).length
theorem left_set {i : Nat} (hi : i < listed.size) (hn : ¬ Lst listed i) : left listed.size (listed.setIfInBounds i true) + 1 ≤ left listed.size listed := by
  unfold left
  have key : ∀ l : List Nat, i ∈ l → (l.filter fun j => !(listed.setIfInBounds i true).getD j false).length + 1 ≤ (l.filter fun j => !listed.getD j false).length := by
    have mono : ∀ l : List Nat, (l.filter fun j => !(listed.setIfInBounds i true).getD j false).length ≤ (l.filter fun j => !listed.getD j false).length := by
      intro l
      induction l with
      | nil => simp
      | cons j l ih =>
        rw [List.filter_cons, List.filter_cons]
        by_cases hj : Lst listed j
        · have h2 : (listed.setIfInBounds i true).getD j false = true := (lst_set hi).2 (.inr hj)
          have h3 : listed.getD j false = true := hj
          rw [h2, h3]; simpa using ih
        · have h3 : listed.getD j false = false := by simpa [Lst] using hj
          rw [h3]
          split
          · simp only [Bool.not_false, if_true, List.length_cons]; omega
          · simp only [Bool.not_false, if_true, List.length_cons]; omega
    intro l
    induction l with
    | nil => intro h; cases h
    | cons j l ih =>
      intro h
      rw [List.filter_cons, List.filter_cons]
      by_cases hj : j = i
      · subst hj
        have h2 : (listed.setIfInBounds j true).getD j false = true := (lst_set hi).2 (.inl rfl)
        have h3 : listed.getD j false = false := by simpa [Lst] using hn
        rw [h2, h3]
        have := mono l
        simp only [Bool.not_true, Bool.not_false, if_true, List.length_cons]
        simpa using this
      · have h4 := ih ((List.mem_cons.1 h).resolve_left fun e => hj e.symm)
        rw [getD_set_ne false fun e => hj e.symm]
        split
        · simp only [List.length_cons]; omega
        · exact h4
  exact key _ (List.mem_range.2 hi)
theorem left_zero (h : left listed.size listed = 0) {i : Nat} (hi : i < listed.size) : Lst listed i := by
  unfold left at h
  have := List.length_eq_zero_iff.1 h
  have h2 : i ∉ (List.range listed.size).filter fun i => !listed.getD i false := by rw [this]; simp
  simp only [List.mem_filter, List.mem_range, not_and, Bool.not_eq_true', Bool.not_eq_false] at h2
  exact h2 hi
end
end Go.Proofs.YtenigafbbdjagaaDoor.AL

/- Regions that leave their order open: the rule. -/
namespace Go.Proofs.YtenigafbbdjagaaDoor.AL
open Go Go.RowKit
set_option linter.unusedVariables false
set_option linter.unusedSimpArgs false

def tails (ops : List Oper) : List Nat → List Oper
  | [] => []
  | j :: τ => match ops[j]? with | some o => o :: tails ops τ | none => tails ops τ

section
variable {P : Program} {ro : Option Nat} {n : Nat} {E : E0} {σ : AS} {ops : Array Oper} {all recs : RL} {listed : Array Bool} {k0 : List Nat}

theorem okT_cons {prev τ : List Nat} {j : Nat} (h : okT ops prev (j :: τ) = true) : ∃ o, ops[j]? = some o ∧ (∀ k, dep o k = true → k ∈ prev) ∧ (∀ k ∈ prev, dep o k = true) ∧ j ∉ prev ∧ okT ops (j :: prev) τ = true := by
  simp only [okT] at h
  split at h
  · rename_i o ho
    simp only [Bool.and_eq_true, List.all_eq_true, Bool.or_eq_true, Bool.not_eq_true', List.contains_eq_mem, decide_eq_true_eq, decide_eq_false_iff_not] at h
    obtain ⟨⟨⟨h1, h2⟩, h3⟩, h4⟩ := h
    refine ⟨o, ho, fun k hk => ?_, h2, h3, h4⟩
    simp only [dep, List.any_eq_true, Bool.and_eq_true, beq_iff_eq] at hk
    obtain ⟨e, he, hb, rfl⟩ := hk
    exact (h1 e he).resolve_left (by simp [hb])
  · simp at h

theorem okT_dep : ∀ {τ prev : List Nat}, okT ops prev τ = true → ∀ i ∈ τ, ∃ o, ops[i]? = some o ∧ ∀ k ∈ prev, dep o k = true
  | [], _, _, i, hi => by cases hi
  | j :: τ, prev, h, i, hi => by
    obtain ⟨o, h1, h2, h3, h4, h5⟩ := okT_cons h
    rcases List.mem_cons.1 hi with rfl | hi
    · exact ⟨o, h1, h3⟩
    · obtain ⟨o', q1, q2⟩ := okT_dep h5 i hi
      exact ⟨o', q1, fun k hk => q2 k (by simp [hk])⟩

theorem phase2 {K : AS → Prop} {Q' : Exit → Act → World → Prop} (hK : ∀ s a w, K s → Rel E s a w → Q' .normal a w) : ∀ (fuel : Nat) (τ prev : List Nat) (listed : Array Bool) (a : Act) (w : World) (s : AS), okT ops prev τ = true → listed.size = ops.size →
    (∀ i, i < ops.size → i ∈ prev ∨ i ∈ τ) → (∀ i ∈ prev, Lst listed i) → (∀ j ∈ τ, ¬ Lst listed j) → left listed.size listed ≤ fuel → SeqOps P ops.toList (tails ops.toList τ) s K → Rel E s a w → wpAnyIn (Fw ro) n P .any ops Q' fuel listed a w := by
  intro fuel
  have done : ∀ (fuel : Nat) (prev : List Nat) (listed : Array Bool) (a : Act) (w : World) (s : AS), listed.size = ops.size → (∀ i, i < ops.size → i ∈ prev ∨ i ∈ ([] : List Nat)) → (∀ i ∈ prev, Lst listed i) → K s → Rel E s a w → wpAnyIn (Fw ro) n P .any ops Q' fuel listed a w := by
    intro fuel prev listed a w s hs hcov hp hk hr
    refine wpAnyIn_done ?_ (hK _ _ _ hk hr) fuel
    refine List.eq_nil_iff_forall_not_mem.2 fun i hi => ?_
    obtain ⟨h1, o, ho, _⟩ := (ready_iff hs).1 hi
    have hlt : i < ops.size := (Array.getElem?_eq_some_iff.1 ho).1
    exact h1 (hp i ((hcov i hlt).resolve_right (by simp)))
  induction fuel with
  | zero =>
    intro τ prev listed a w s hT hs hcov hp hτ hl hq hr
    cases τ with
    | nil => exact done _ prev listed a w s hs hcov hp hq hr
    | cons j τ =>
      obtain ⟨o, ho, _⟩ := okT_cons hT
      exact absurd (left_zero (Nat.le_zero.1 hl) (i := j) (by rw [hs]; exact (Array.getElem?_eq_some_iff.1 ho).1)) (hτ j (by simp))
  | succ fuel ih =>
    intro τ prev listed a w s hT hs hcov hp hτ hl hq hr
    cases τ with
    | nil => exact done _ prev listed a w s hs hcov hp hq hr
    | cons j τ =>
      obtain ⟨o, ho, hd1, hd2, hj, hT'⟩ := okT_cons hT
      have hjlt : j < listed.size := by rw [hs]; exact (Array.getElem?_eq_some_iff.1 ho).1
      have hjn := hτ j (by simp)
      have hjr : j ∈ Region.ready .any ops listed := (ready_iff hs).2 ⟨hjn, o, ho, fun k hk => hp k (hd1 k hk)⟩
      refine ⟨fun h0 => (by rw [h0] at hjr; cases hjr), fun i hi => ?_⟩
      have hij : i = j := by
        obtain ⟨h1, o', ho', hdep⟩ := (ready_iff hs).1 hi
        have hlt : i < ops.size := (Array.getElem?_eq_some_iff.1 ho').1
        rcases hcov i hlt with h | h
        · exact absurd (hp i h) h1
        · rcases List.mem_cons.1 h with rfl | h
          · rfl
          · obtain ⟨o2, ho2, hd⟩ := okT_dep hT' i h
            rw [ho'] at ho2; cases ho2
            exact absurd (hdep j (hd j (by simp))) hjn
      subst hij
      have next : ∀ s' a' w', SeqOps P ops.toList (tails ops.toList τ) s' K → Rel E s' a' w' → wpAnyIn (Fw ro) n P .any ops Q' fuel (listed.setIfInBounds i true) a' w' := fun s' a' w' hq' hr' => by
        refine ih τ (i :: prev) _ a' w' s' hT' (by simpa using hs) (fun k hk => ?_) (fun k hk => ?_) (fun k hk hkl => ?_) ?_ hq' hr'
        · rcases hcov k hk with h | h
          · exact .inl (by simp [h])
          · rcases List.mem_cons.1 h with rfl | h
            · exact .inl (by simp)
            · exact .inr h
        · rcases List.mem_cons.1 hk with rfl | hk
          · exact (lst_set hjlt).2 (.inl rfl)
          · exact (lst_set hjlt).2 (.inr (hp k hk))
        · rcases (lst_set hjlt).1 hkl with rfl | h
          · obtain ⟨o2, ho2, hd⟩ := okT_dep hT' k hk
            rw [ho] at ho2; cases ho2
            have h5 := hd1 k (hd k (by simp))
            exact hj h5
          · exact hτ k (by simp [hk]) h
        · have := left_set hjlt hjn
          simp only [Array.size_setIfInBounds]
          omega
      have hto : ops.toList[i]? = some o := by simpa using ho
      simp only [tails, hto] at hq
      obtain ⟨c, hc, h1, h2⟩ := hq
      have hw := want_ok hr hc
      unfold wpOpIn
      simp only [ho]
      cases c with
      | true => rw [if_pos hw]; exact step_ok hr (h1 rfl) next
      | false =>
        rw [if_neg (by simp [hw])]
        obtain ⟨σ', hs', hr'⟩ := skip_ok hr (h2 rfl)
        exact ⟨fenceW o w _, next _ _ _ hs' hr'⟩

def lf (recs : RL) (listed : Array Bool) : RL := recs.filter fun p => listed.getD p.1 false
theorem mem_lf {p : Nat × Rc} : p ∈ lf recs listed ↔ p ∈ recs ∧ Lst listed p.1 := by simp [lf, Lst, List.mem_filter]

theorem phase1 {K : AS → Prop} {τ : List Nat} {Q' : Exit → Act → World → Prop} (hK : ∀ s a w, K s → Rel E s a w → Q' .normal a w) (hg : GoodR P ops.toList σ recs) (hd : okD ops σ τ recs = true) (hq : SeqOps P ops.toList (tails ops.toList τ) (fullS recs σ) K) :
    ∀ (fuel : Nat) (listed : Array Bool) (a : Act) (w : World), listed.size = ops.size → left listed.size listed ≤ fuel → (∀ p ∈ recs, Lst listed p.1 → ∀ o, ops[p.1]? = some o → ∀ k, dep o k = true → Lst listed k) →
      (∀ j ∈ τ, ¬ Lst listed j) → Rel E (fullS (lf recs listed) σ) a w → wpAnyIn (Fw ro) n P .any ops Q' fuel listed a w := by
  simp only [okD, Bool.and_eq_true] at hd
  obtain ⟨⟨⟨hR, hS⟩, hT⟩, hC⟩ := hd
  obtain ⟨u1, u2, u3⟩ := okR_ud hR
  have hat := good_at hg hR
  have hcov : ∀ i, i < ops.size → i ∈ recs.map (·.1) ∨ i ∈ τ := fun i hi => by
    simp only [okC, List.all_eq_true, List.mem_range, List.contains_eq_mem, decide_eq_true_eq, List.mem_append] at hC
    exact hC i hi
  have hSp : ∀ p ∈ recs, isMk p.2 = true → hasnT p.2.d σ.t = true ∧ hasnB p.2.d σ.b = true ∧ keyn p.2.d σ.b = true ∧ memK p.2.d σ.k = false ∧ ∀ q ∈ recs, ∀ c, q.2.bx = some c → hasnL p.2.d c = true := fun p hp hm => by
    simp only [okS, List.all_eq_true, Bool.or_eq_true, Bool.not_eq_true', Bool.and_eq_true] at hS
    obtain ⟨h1, h2, h3, h4, h5⟩ := (hS p hp).resolve_left (by simp [hm])
    exact ⟨h1, h2, h3, h4, fun q hq c hc => by have := h5 q hq; rw [hc] at this; exact this⟩
  intro fuel
  have full : ∀ (fuel : Nat) (listed : Array Bool) (a : Act) (w : World), listed.size = ops.size → left listed.size listed ≤ fuel → (∀ j ∈ τ, ¬ Lst listed j) → (∀ p ∈ recs, Lst listed p.1) → Rel E (fullS (lf recs listed) σ) a w → wpAnyIn (Fw ro) n P .any ops Q' fuel listed a w := by
    intro fuel listed a w hs hl hτ hall hr
    have e : lf recs listed = recs := List.filter_eq_self.2 fun p hp => hall p hp
    rw [e] at hr
    exact phase2 hK fuel τ (recs.map (·.1)) listed a w _ hT hs hcov (fun i hi => by obtain ⟨p, hp, rfl⟩ := List.mem_map.1 hi; exact hall p hp) hτ hl hq hr
  induction fuel with
  | zero =>
    intro listed a w hs hl hdc hτ hr
    refine full 0 listed a w hs hl hτ (fun p hp => ?_) hr
    obtain ⟨suf, o, _, _, h1, _⟩ := hat p hp
    exact left_zero (Nat.le_zero.1 hl) (by rw [hs]; exact (Array.getElem?_eq_some_iff.1 h1.at_).1)
  | succ fuel ih =>
    intro listed a w hs hl hdc hτ hr
    by_cases hall : ∀ p ∈ recs, Lst listed p.1
    · exact full _ listed a w hs hl hτ hall hr
    refine ⟨fun h0 => absurd (all_listed hs h0 hR) hall, fun i hi => ?_⟩
    obtain ⟨hin, o, ho, hdep⟩ := (ready_iff hs).1 hi
    have hlt : i < ops.size := (Array.getElem?_eq_some_iff.1 ho).1
    have hlt' : i < listed.size := by rw [hs]; exact hlt
    rcases hcov i hlt with h | h
    · obtain ⟨⟨i', r⟩, hp, e⟩ := List.mem_map.1 h
      simp only at e
      subst e
      obtain ⟨suf, o', hsuf, hokS, h1, hok, hus⟩ := hat _ hp
      have e : o' = o := by have := h1.at_; simp only at this; rw [ho] at this; exact (Option.some.inj this).symm
      subst e
      have huL : UD (lf recs listed) := fun p hp q hq => u1 p (mem_lf.1 hp).1 q (mem_lf.1 hq).1
      have hnL : (i', r) ∉ lf recs listed := fun h => hin (mem_lf.1 h).2
      have hdep' : ∀ p ∈ suf, dep o' p.1 = true → p ∈ lf recs listed := fun p hp hd => mem_lf.2 ⟨hsuf p hp, hdep _ hd⟩
      refine drawOp_step (L := lf recs listed) (L' := lf recs (listed.setIfInBounds i' true)) h1.at_ hok (fun t ht => ?_) (fun p => ?_) (fun p hp q hq => u1 p (mem_lf.1 hp).1 q (mem_lf.1 hq).1) hnL (fun p hp hb => ?_) (fun hmk => ?_) (fun s hs' h9 hm => ?_) hr fun a' w' hr' => ?_
      · rcases h1.opd t ht with ⟨p, hp', rfl, hd⟩ | hno
        · rw [getT_in hus hp', getT_in huL (hdep' p hp' hd)]
        · rw [getT_out fun p hp' => hno p (hsuf p hp'), getT_out fun p hp' => hno p (mem_lf.1 hp').1]
      · rw [mem_lf, mem_lf, lst_set hlt']
        constructor
        · rintro ⟨h2, e | h3⟩
          · exact .inl (u2 p h2 (i', r) hp e)
          · exact .inr ⟨h2, h3⟩
        · rintro (rfl | ⟨h2, h3⟩)
          · exact ⟨hp, .inl rfl⟩
          · exact ⟨h2, .inr h3⟩
      · exact keyn_get (hSp p (mem_lf.1 hp).1 (by simp [isMk, hb])).2.2.1
      · have hmk' : isMk r = true := by simpa [isMk] using hmk
        obtain ⟨s1, s2, s3, s4, s5⟩ := hSp _ hp hmk'
        refine ⟨s1, s2, fun q hq => ?_, fun q hq c hc => s5 q (mem_lf.1 hq).1 c hc, ?_, fun hk => ?_⟩
        · cases hh : q.2.v.hasn r.d with
          | true => rfl
          | false =>
            exfalso
            obtain ⟨q1, q2⟩ := mem_lf.1 hq
            exact hin (men_listed (m := (i', r)) hp hmk' hdc (fun q hq => hq) hR q q1 q2 hh)
        · rw [getB_out fun p hp' hb e => ?_]
          · exact keyn_get s3
          · have := u1 p (mem_lf.1 hp').1 (i', r) hp e
            rw [this] at hp'
            exact hnL hp'
        · obtain ⟨k1, _⟩ := mem_kdrop.1 hk
          rcases mem_rK0.1 k1 with ⟨p, hp', _, e⟩ | k2
          · have := u1 p (mem_lf.1 hp').1 (i', r) hp e
            rw [this] at hp'
            exact hnL hp'
          · rw [memK_iff.2 k2] at s4; cases s4
      · refine mem_kdrop.2 ⟨mem_rK0.2 ?_, fun hc => ?_⟩
        · rcases h1.cns s hs' h9 with h2 | ⟨p, hp', e1, e2, e3⟩
          · exact .inr h2
          · exact .inl ⟨p, hdep' p hp' e3, e2, e1⟩
        · obtain ⟨q, hq, hqc⟩ := mem_rC.1 hc
          have := u3 q (mem_lf.1 hq).1 (i', r) hp s h9 hqc hs'
          rw [this] at hq
          exact hnL hq
      · refine ih _ a' w' (by simpa using hs) ?_ (fun p hp hl o'' ho'' k hk => ?_) (fun j hj hl => ?_) hr'
        · have := left_set hlt' hin
          simp only [Array.size_setIfInBounds]
          omega
        · refine (lst_set hlt').2 (.inr ?_)
          rcases (lst_set hlt').1 hl with e | hl
          · rw [e, ho] at ho''; cases ho''; exact hdep k hk
          · exact hdc p hp hl o'' ho'' k hk
        · rcases (lst_set hlt').1 hl with rfl | hl
          · obtain ⟨o2, ho2, hd2⟩ := okT_dep hT j hj
            rw [ho] at ho2; cases ho2
            exact hin (hdep j (hd2 j (List.mem_map.2 ⟨(j, r), hp, rfl⟩)))
          · exact hτ j hj hl
    · obtain ⟨o2, ho2, hd⟩ := okT_dep hT i h
      rw [ho] at ho2; cases ho2
      exact absurd (fun p hp => hdep _ (hd p.1 (List.mem_map.2 ⟨p, hp, rfl⟩))) hall

/-- A region that leaves its order open. -/
theorem tri_draw {id : Nat} {ops : List Oper} {Q : Exit → AS → Prop} (hm : P.follows .mixedOrders = true) (order τ : List Nat)
    (h : DSeq P ops σ order [] fun recs => okD ops.toArray σ τ recs = true ∧ SeqOps P ops (tails ops τ) (fullS recs σ) (Q .normal)) : Tri P ro n (.region id ops.toArray true) σ Q := by
  intro E hE a w hr
  refine wpIn_region_any hm ?_
  obtain ⟨recs, hg, hd, hq⟩ := dseq_good (P := P) (σ := σ) (ops := ops.toArray) (order := order) (acc := []) (K := fun recs => okD ops.toArray σ τ recs = true ∧ SeqOps P ops (tails ops τ) (fullS recs σ) (Q .normal)) (by simpa using h) (by simp [GoodR])
  have hne : ∀ i, ¬ Lst (Array.replicate ops.toArray.size false) i := fun i hi => by
    unfold Lst at hi
    simp [Array.getD] at hi
  have hdrew : Rel E σ a { w with drawn := w.drawn + 1 } := by
    obtain ⟨g, h1, h2, h3⟩ := hr
    refine ⟨g, h1.heap rfl, ⟨h2.1, h2.2.1, fun t x hx => ⟨(h2.2.2.1 t x hx).1, (h2.2.2.1 t x hx).2.heap rfl⟩, h2.2.2.2⟩, h3.trans Ext.drew⟩
  have hl : left (Array.replicate ops.toArray.size false).size (Array.replicate ops.toArray.size false) ≤ ops.toArray.size := by
    unfold left
    refine Nat.le_trans (List.length_filter_le _ _) ?_
    simp
  refine phase1 (ops := ops.toArray) (recs := recs) (τ := τ) (K := Q .normal) (fun s a' w' hk hr' => ⟨s, hk, hr'⟩) hg hd (by simpa using hq) _ _ _ _ (by simp) hl (fun p _ hl => absurd hl (hne _)) (fun j _ => hne j) ?_
  have e : lf recs (Array.replicate ops.toArray.size false) = [] := List.filter_eq_nil_iff.2 fun p hp => by
    have := hne p.1
    simpa [Lst] using this
  rw [e]
  exact hdrew
end
end Go.Proofs.YtenigafbbdjagaaDoor.AL
