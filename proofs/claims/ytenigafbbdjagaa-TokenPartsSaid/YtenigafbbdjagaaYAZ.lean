/- Quick rules for the code of iterators. -/
import Derived.Test.YtenigafbbdjagaaYAW
import Derived.Test.YtenigafbbdjagaaYMD
namespace Go.Proofs.Ytenigafbbdjagaa.AL
open Go
set_option linter.unusedVariables false
set_option linter.unusedSimpArgs false
section
variable {J : Hold} {φ0 : Nat → Option Nat} {y : Option Nat} {σ s : AS} {Q : Exit → Option Nat → AS → Prop} {KY K : Option Nat → AS → Prop} {c c' : Code} {ops rest : List Oper} {o : Oper} {co : Operand} {e : Bool} {d j n : Nat} {want : Bool}
  {tm : List (Nat × TV)} {bx : List (Nat × List TV)} {k : List Nat}
theorem thenY_n (h : KY y s) : thenY KY Q .normal y s := h
theorem thenY_r (h : Q .ret y s) : thenY KY Q .ret y s := h
theorem thenY_e {id : Nat} (h : Q (.exit id) y s) : thenY KY Q (.exit id) y s := h
theorem blkY_n {id : Nat} (h : Q .normal y s) : blkY id Q .normal y s := h
theorem blkY_r {id : Nat} (h : Q .ret y s) : blkY id Q .ret y s := h
theorem blkY_e {id : Nat} (h : Q .normal y s) : blkY id Q (.exit id) y s := by simp [blkY, h]
theorem blkY_o {id id' : Nat} (h : Q (.exit id') y s) (hne : (id' == id) = false) : blkY id Q (.exit id') y s := by
  simp only [beq_eq_false_iff_ne] at hne
  simp [blkY, hne, h]
theorem qy_ct (hc : ev σ co = .v (.bool e)) (he : e = true) (h : TriY Try.prog J φ0 c y σ Q) : TriY Try.prog J φ0 (.cond co c c') y σ Q := ty_cond hc (fun _ => h) (fun e' => by rw [he] at e'; cases e')
theorem qy_cf (hc : ev σ co = .v (.bool e)) (he : e = false) (h : TriY Try.prog J φ0 c' y σ Q) : TriY Try.prog J φ0 (.cond co c c') y σ Q := ty_cond hc (fun e' => by rw [he] at e'; cases e') (fun _ => h)
theorem qy_cond (hc : ev σ co = .v (.bool e)) (hu : Unk e) (h1 : e = true → TriY Try.prog J φ0 c y σ Q) (h2 : e = false → TriY Try.prog J φ0 c' y σ Q) : TriY Try.prog J φ0 (.cond co c c') y σ Q := ty_cond hc h1 h2
theorem oy_w (hJ : Stab J) (hw : Wt ops σ o true) (h : SG o σ fun s => OpsY Try.prog J φ0 ops rest y s K) : OpsY Try.prog J φ0 ops (o :: rest) y σ K :=
  oy_step hw (sy_own hJ h.h fun _ h => h)
theorem oy_n (hw : Wt ops ⟨n, tm, bx, k⟩ o false) (hd : o.dst = some d) (hn : Nat.blt d n = true) (h : OpsY Try.prog J φ0 ops rest y ⟨n, (d, .tup []) :: tm, bx, k⟩ K) : OpsY Try.prog J φ0 ops (o :: rest) y ⟨n, tm, bx, k⟩ K :=
  oy_skip hw hd (by simpa [Nat.blt_eq] using hn) h
theorem oy_if (hg : o.guard = some (j, want)) (hd : (ops[j]?).bind (·.dst) = some d) (he : get d σ.t = some (.v (.bool e))) (hu : Unk e) (h1 : e = true → OpsY Try.prog J φ0 ops (o :: rest) y σ K) (h2 : e = false → OpsY Try.prog J φ0 ops (o :: rest) y σ K) : OpsY Try.prog J φ0 ops (o :: rest) y σ K := by
  cases e
  · exact h2 rfl
  · exact h1 rfl
/-- A round is asked for. -/
theorem oy_y {l t i : Nat} {xs : List (List AV)} {avs : List AV} {args : Array Operand} {ats : Array TypeId} {T : TypeId} {pos : String} {after : Array Edge} {gd : Option (Nat × Bool)} (hJ : Stab J) (hY : YldOk Try.prog J l xs)
    (hw : Wt ops ⟨n, tm, bx, k⟩ ⟨some d, .call { callee := .value (.tmp t), args := args, argTypes := ats }, T, pos, after, gd⟩ true) (hn : Nat.blt d n = true) (hf : get t tm = some (.v (.yld l))) (ha : datArgs Try.prog ⟨n, tm, bx, k⟩ args.toList ats.toList = some avs)
    (hi : ∃ h : i < xs.length, xs[i] = avs) (h1 : OpsY Try.prog J φ0 ops rest (some (i + 1)) ⟨n, (d, .v (.bool true)) :: tm, bx, k⟩ K) (h2 : OpsY Try.prog J φ0 ops rest none ⟨n, (d, .v (.bool false)) :: tm, bx, k⟩ K) :
    OpsY Try.prog J φ0 ops (⟨some d, .call { callee := .value (.tmp t), args := args, argTypes := ats }, T, pos, after, gd⟩ :: rest) (some i) ⟨n, tm, bx, k⟩ K := by
  obtain ⟨hlt, rfl⟩ := hi
  exact oy_step hw (sy_yield hJ hY hlt (by simpa [Nat.blt_eq] using hn) hf ha h1 h2)
/-- A call of a function that asks for rounds. -/
theorem oy_f {f t i m : Nat} {caps : Array Value} {avs cas all : List AV} {args : Array Operand} {ats : Array TypeId} {T : TypeId} {pos : String} {after : Array Edge} {gd : Option (Nat × Bool)} (hJ : Stab J)
    (hw : Wt ops ⟨n, tm, bx, k⟩ ⟨some d, .call { callee := .value (.tmp t), args := args, argTypes := ats }, T, pos, after, gd⟩ true) (hn : Nat.blt d n = true) (hf : get t tm = some (.v (.val (.func (.func f) #[] caps)))) (ha : datArgs Try.prog ⟨n, tm, bx, k⟩ args.toList ats.toList = some avs)
    (hcap : ∀ U N W, J (some i) U N W → ArgsR N cas caps) (hall : avs ++ cas = all) (hy : YF Try.prog J f all i m) (h1 : OpsY Try.prog J φ0 ops rest (some (i + m)) ⟨n, (d, .v (.bool true)) :: tm, bx, k⟩ K) (h2 : OpsY Try.prog J φ0 ops rest none ⟨n, (d, .v (.bool false)) :: tm, bx, k⟩ K) :
    OpsY Try.prog J φ0 ops (⟨some d, .call { callee := .value (.tmp t), args := args, argTypes := ats }, T, pos, after, gd⟩ :: rest) (some i) ⟨n, tm, bx, k⟩ K := by
  subst hall
  exact oy_step hw (sy_yf hJ (by simpa [Nat.blt_eq] using hn) hf ha hcap hy h1 h2)
/-- The knot is tied. -/
theorem oy_knot {f l t i m s3 s2 : Nat} {xs : List (List AV)} {avs : List AV} {dst : Option Nat} {args : Array Operand} {ats : Array TypeId} {T : TypeId} {pos : String} {after : Array Edge} {gd : Option (Nat × Bool)} (hJ : Stab J) (hY : YldOk Try.prog J l xs)
    (hw : Wt ops σ ⟨dst, .call { callee := .value (.tmp t), args := args, argTypes := ats }, T, pos, after, gd⟩ true) (hf : get t σ.t = some (.fn f [.loc s3 0, .loc s2 0])) (hb3 : get s3 σ.b = some [.fn f [.loc s3 0, .loc s2 0]]) (hb2 : get s2 σ.b = some [.v (.yld l)])
    (ha : datArgs Try.prog σ args.toList ats.toList = some avs) (hy : ∀ J' b3 b2, Stab J' → YldOk Try.prog J' l xs → KnotM J' f b3 b2 l → YF Try.prog J' f (avs ++ [.ro [.val (kV f b3 b2)], .ro [.yld l]]) i m)
    (h1 : OpsY Try.prog J (fun _ => none) ops rest (some (i + m)) ⟨σ.n, [], [], []⟩ K) (h2 : OpsY Try.prog J (fun _ => none) ops rest none ⟨σ.n, [], [], []⟩ K) :
    OpsY Try.prog J (fun _ => none) ops (⟨dst, .call { callee := .value (.tmp t), args := args, argTypes := ats }, T, pos, after, gd⟩ :: rest) (some i) σ K :=
  oy_step hw (sy_knot hJ hY hb3 hb2 hf ha hy h1 h2)
end
end Go.Proofs.Ytenigafbbdjagaa.AL
