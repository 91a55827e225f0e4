/- Quick rules: one for each kind of operation; what an operation looks at is found by looking. -/
import Derived.Test.YtenigafbbdjagaaDoorYAS2
namespace Go.Proofs.YtenigafbbdjagaaDoor.AL
open Go
set_option linter.unusedVariables false
set_option linter.unusedSimpArgs false

/-- Not known yet. -/
def Unk (e : Bool) : Prop := True
theorem unk_t {e : Bool} (h : e = true) : Unk e := trivial
theorem unk_f {e : Bool} (h : e = false) : Unk e := trivial
theorem unk_i {e : Bool} : Unk e := trivial

def Wt (ops : List Oper) (σ : AS) (o : Oper) (b : Bool) : Prop := wantA ops σ o = some b

section
variable {ro : Option Nat} {m : Nat} {ops rest : List Oper} {σ σ' : AS} {o : Oper} {K C : AS → Prop} {Q : Exit → AS → Prop} {d t n : Nat} {c : Operand} {e b want : Bool} {r v v' : TV} {a a' : AV}
  {dst : Option Nat} {op : Op} {T : TypeId} {pos : String} {after : Array Edge} {g : Option (Nat × Bool)} {x y z : Operand} {tm : List (Nat × TV)} {bx : List (Nat × List TV)} {k : List Nat} {j : Nat}

theorem wt_n (h : o.guard = none) : Wt ops σ o true := by simp [Wt, wantA, h]
theorem wt_g (h : o.guard = some (j, want)) (hd : (ops[j]?).bind (·.dst) = some d) (he : get d σ.t = some (.v (.bool e))) (hb : e = want) : Wt ops σ o true := by
  subst hb; simp [Wt, wantA, h, hd, he]
theorem wt_ft (h : o.guard = some (j, true)) (hd : (ops[j]?).bind (·.dst) = some d) (he : get d σ.t = some (.v (.bool e))) (hb : e = false) : Wt ops σ o false := by
  subst hb; simp [Wt, wantA, h, hd, he]
theorem wt_ff (h : o.guard = some (j, false)) (hd : (ops[j]?).bind (·.dst) = some d) (he : get d σ.t = some (.v (.bool e))) (hb : e = true) : Wt ops σ o false := by
  subst hb; simp [Wt, wantA, h, hd, he]

theorem wt_u (h : o.guard = some (j, want)) (hd : (ops[j]?).bind (·.dst) = some d) (he : get d σ.t = some (.tup [])) : Wt ops σ o false := by
  simp [Wt, wantA, h, hd, he]

/-! ### Operands -/
theorem lk_t (h : get t σ.t = some v) : ev σ (.tmp t) = v := by simp [ev, h]
theorem lk_i {k : IntKind} {i : Int} : ev σ (.const (.int k i)) = .v (.int k i) := rfl
theorem lk_g {l : List UInt8} : ev σ (.const (.string ⟨l.toArray⟩)) = .v (.str l) := rfl
theorem lt_g {l : List UInt8} : evT Tryd.prog T σ (.const (.string ⟨l.toArray⟩)) = .v (.str l) := rfl
theorem dk_g {l : List UInt8} : (ev σ (.const (.string ⟨l.toArray⟩))).dat = some (.str l) := rfl
theorem dt_g {l : List UInt8} : (evT Tryd.prog T σ (.const (.string ⟨l.toArray⟩))).dat = some (.str l) := rfl
theorem lk_b : ev σ (.const (.bool b)) = .v (.bool b) := rfl
theorem lk_f {f : Nat} : ev σ (.func f) = .v (.fn f []) := rfl
theorem lk_nf : ev σ (.const .nilFunc) = .v .nilF := rfl
theorem lt_t (h : get t σ.t = some v) : evT Tryd.prog T σ (.tmp t) = v := by simp [evT, ev, h]
theorem lt_i {k : IntKind} {i : Int} : evT Tryd.prog T σ (.const (.int k i)) = .v (.int k i) := rfl
theorem lt_b : evT Tryd.prog T σ (.const (.bool b)) = .v (.bool b) := rfl
theorem lt_f {f : Nat} : evT Tryd.prog T σ (.func f) = .v (.fn f []) := rfl
theorem lt_nf : evT Tryd.prog T σ (.const .nilFunc) = .v .nilF := rfl
theorem lt_s {el sz by_ : Nat} (h : aty Tryd.prog T = .slice el sz by_) : evT Tryd.prog T σ (.const (.slice none 0 0)) = .ap sz [] 999999 := by
  simp [evT, cv, nilOf, h]
theorem dk_v (h : get t σ.t = some (.v a)) : (ev σ (.tmp t)).dat = some a := by simp [ev, h, TV.dat]
theorem dk_a {sz s : Nat} {xs : List AV} (h : get t σ.t = some (.ap sz xs s)) : (ev σ (.tmp t)).dat = some (.sl sz xs) := by simp [ev, h, TV.dat]
theorem dk_n {f : Nat} {cs : List TV} {avs : List AV} (h : get t σ.t = some (.fn f cs)) (hc : TV.dat.datL cs = some avs) : (ev σ (.tmp t)).dat = some (.fn f avs) := by simp [ev, h, TV.dat, hc]
theorem dk_i {k : IntKind} {i : Int} : (ev σ (.const (.int k i))).dat = some (.int k i) := rfl
theorem dk_b : (ev σ (.const (.bool b))).dat = some (.bool b) := rfl
theorem dk_f {f : Nat} : (ev σ (.func f)).dat = some (.fn f []) := rfl
theorem dt_v (h : get t σ.t = some (.v a)) : (evT Tryd.prog T σ (.tmp t)).dat = some a := by simp [evT, ev, h, TV.dat]
theorem dt_a {sz s : Nat} {xs : List AV} (h : get t σ.t = some (.ap sz xs s)) : (evT Tryd.prog T σ (.tmp t)).dat = some (.sl sz xs) := by simp [evT, ev, h, TV.dat]
theorem dt_n {f : Nat} {cs : List TV} {avs : List AV} (h : get t σ.t = some (.fn f cs)) (hc : TV.dat.datL cs = some avs) : (evT Tryd.prog T σ (.tmp t)).dat = some (.fn f avs) := by simp [evT, ev, h, TV.dat, hc]
theorem dt_i {k : IntKind} {i : Int} : (evT Tryd.prog T σ (.const (.int k i))).dat = some (.int k i) := rfl
theorem dt_b : (evT Tryd.prog T σ (.const (.bool b))).dat = some (.bool b) := rfl
theorem dt_f {f : Nat} : (evT Tryd.prog T σ (.func f)).dat = some (.fn f []) := rfl
theorem dt_s {el sz by_ : Nat} (h : aty Tryd.prog T = .slice el sz by_) : (evT Tryd.prog T σ (.const (.slice none 0 0))).dat = some (.sl sz []) := by
  rw [lt_s h]; rfl
theorem da_nil : datArgs Tryd.prog σ [] [] = some [] := rfl
theorem da_cons {xs : List Operand} {ts : List TypeId} {avs : List AV} (h : (evT Tryd.prog T σ x).dat = some a) (hr : datArgs Tryd.prog σ xs ts = some avs) : datArgs Tryd.prog σ (x :: xs) (T :: ts) = some (a :: avs) := by
  simp [datArgs, h, hr]

/-- What a quiet operation makes. -/
structure EvG (σ : AS) (o : Oper) (r : TV) : Prop where
  h : evalP Tryd.prog σ o = some r

/-! ### What quiet operations make -/
theorem e_mv (h : evT Tryd.prog T σ x = v) : EvG σ ⟨dst, .move x, T, pos, after, g⟩ v := by
  constructor
  simp [evalP, h]
theorem e_as (h : evT Tryd.prog T σ x = v) : EvG σ ⟨dst, .assign x, T, pos, after, g⟩ v := by
  constructor
  simp [evalP, h]
theorem e_pt (hc : ev σ c = .v (.bool e)) (he : e = true) (h : ev σ x = v) : EvG σ ⟨dst, .pick c x y, T, pos, after, g⟩ v := by
  constructor
  subst he; simp [evalP, hc, h]
theorem e_pf (hc : ev σ c = .v (.bool e)) (he : e = false) (h : ev σ y = v) : EvG σ ⟨dst, .pick c x y, T, pos, after, g⟩ v := by
  constructor
  subst he; simp [evalP, hc, h]
theorem e_lL {T' s o' : Nat} {cs : List TV} {ty : ATy} (hx : ev σ x = .loc s o') (hb : get s σ.b = some cs) (ht : aty Tryd.prog T' = ty) (hz : (ty.size == 0 || ty.isAgg) = false) (hv : cs[o']? = some v) :
    EvG σ ⟨dst, .load T' x, T, pos, after, g⟩ v := by
  constructor
  simp only [Bool.or_eq_false_iff, beq_eq_false_iff_ne] at hz
  simp [evalP, hx, hb, ht, hz.1, hz.2, hv]
theorem e_lLA {T' s o' : Nat} {cs : List TV} {ty : ATy} {avs : List AV} (hx : ev σ x = .loc s o') (hb : get s σ.b = some cs) (ht : aty Tryd.prog T' = ty) (hz : (!(ty.size == 0) && (ty.isAgg && Nat.ble (o' + ty.size) cs.length)) = true)
    (hv : TV.dat.datL ((cs.drop o').take ty.size) = some avs) : EvG σ ⟨dst, .load T' x, T, pos, after, g⟩ (.v (.agg avs)) := by
  constructor
  simp only [Bool.and_eq_true, Bool.not_eq_true', beq_eq_false_iff_ne, Nat.ble_eq] at hz
  simp [evalP, hx, hb, ht, hz.1, hz.2.1, hz.2.2, hv]
theorem e_lR {T' : Nat} {cs : List AV} {ty : ATy} (hx : ev σ x = .v (.ro cs)) (ht : aty Tryd.prog T' = ty) (hz : (ty.size == 0 || ty.isAgg) = false) (hv : cs[0]? = some a) :
    EvG σ ⟨dst, .load T' x, T, pos, after, g⟩ (.v a) := by
  constructor
  simp only [Bool.or_eq_false_iff, beq_eq_false_iff_ne] at hz
  simp [evalP, hx, ht, hz.1, hz.2, hv]
theorem e_lRA {T' : Nat} {cs avs : List AV} {ty : ATy} (hx : ev σ x = .v (.ro cs)) (ht : aty Tryd.prog T' = ty) (hz : (!(ty.size == 0) && (ty.isAgg && Nat.ble ty.size cs.length)) = true) (hv : cs.take ty.size = avs) :
    EvG σ ⟨dst, .load T' x, T, pos, after, g⟩ (.v (.agg avs)) := by
  constructor
  simp only [Bool.and_eq_true, Bool.not_eq_true', beq_eq_false_iff_ne, Nat.ble_eq] at hz
  simp [evalP, hx, ht, hz.1, hz.2.1, hz.2.2, hv]
theorem e_fL {T' s o' f off sz w q : Nat} {fs : List (Nat × Nat × Bool)} {ag : Bool} (hx : ev σ x = .loc s o') (ht : aty Tryd.prog T' = .struct w fs) (hf : fs[f]? = some (off, sz, ag)) (hz : (sz == 0) = false) (hk : o' + off = q) :
    EvG σ ⟨dst, .fieldAddr T' x f, T, pos, after, g⟩ (.loc s q) := by
  constructor
  simp only [beq_eq_false_iff_ne] at hz
  subst hk; simp [evalP, hx, ht, hf, hz]
theorem e_fR {T' f off sz w : Nat} {fs : List (Nat × Nat × Bool)} {ag : Bool} {cs cs' : List AV} (hx : ev σ x = .v (.ro cs)) (ht : aty Tryd.prog T' = .struct w fs) (hf : fs[f]? = some (off, sz, ag)) (hz : (sz == 0) = false) (hk : cs.drop off = cs') :
    EvG σ ⟨dst, .fieldAddr T' x f, T, pos, after, g⟩ (.v (.ro cs')) := by
  constructor
  simp only [beq_eq_false_iff_ne] at hz
  subst hk; simp [evalP, hx, ht, hf, hz]
theorem e_ix {T' el sz by_ : Nat} {xs : List AV} {kk : IntKind} {i : Int} {cs : List AV} (hx : (ev σ x).dat = some (.sl sz xs)) (hi : (ev σ y).dat = some (.int kk i)) (ht : aty Tryd.prog T' = .slice el sz by_) (hz : (sz == 0) = false) (he : ixA xs i = some a) (hc : a.cells = cs) :
    EvG σ ⟨dst, .indexAddr T' x y, T, pos, after, g⟩ (.v (.ro cs)) := by
  constructor
  simp only [beq_eq_false_iff_ne] at hz
  subst hc; simp [evalP, hx, hi, ht, hz, he]
def isShift : BinOp → Bool | .shl | .shr => true | _ => false
theorem e_bi {T' T'' : Nat} {bop : BinOp} {kk : IntKind} {i i' : Int} (hx : (ev σ x).dat = some (.int kk i)) (hy : (ev σ y).dat = some (.int kk i')) (hs : isShift bop = false) (h : binI bop kk i i' = some a) :
    EvG σ ⟨dst, .binOp bop T' x y T'', T, pos, after, g⟩ (.v a) := by
  constructor
  cases bop <;> first | (simp [isShift] at hs; done) | simp [evalP, hx, hy, h]
theorem e_nt {T' : Nat} {e' : Bool} (hx : (ev σ x).dat = some (.bool e)) (h : (!e) = e') : EvG σ ⟨dst, .unOp .not T' x, T, pos, after, g⟩ (.v (.bool e')) := by
  constructor
  subst h; simp [evalP, hx]
theorem e_ln {T' el sz by_ sz' : Nat} {xs : List AV} {i : Int} (hx : (ev σ x).dat = some (.sl sz' xs)) (ht : aty Tryd.prog T' = .slice el sz by_) (hn : (xs.length : Int) = i) :
    EvG σ ⟨dst, .call { callee := .builtin .len, args := #[x], argTypes := #[T'] }, T, pos, after, g⟩ (.v (.int .i64 i)) := by
  constructor
  subst hn; simp [evalP, ht, hx]

/-! ### Steps of a region in order -/
/-- A wanted operation, and what follows. -/
structure SG (o : Oper) (σ : AS) (C : AS → Prop) : Prop where
  h : StepP Tryd.prog σ o C
theorem s_w (hw : Wt ops σ o true) (h : SG o σ fun σ' => SeqOps Tryd.prog ops rest σ' K) : SeqOps Tryd.prog ops (o :: rest) σ K :=
  ⟨true, hw, fun _ => h.h, fun e => (by cases e)⟩
theorem s_n (hw : Wt ops ⟨n, tm, bx, k⟩ o false) (hd : o.dst = some d) (hn : Nat.blt d n = true) (h : SeqOps Tryd.prog ops rest ⟨n, (d, .tup []) :: tm, bx, k⟩ K) : SeqOps Tryd.prog ops (o :: rest) ⟨n, tm, bx, k⟩ K := by
  have hlt : d < n := by simpa [Nat.blt_eq] using hn
  refine ⟨false, hw, fun e => (by cases e), fun _ => ?_⟩
  rw [hd]
  exact ⟨hlt, h⟩
theorem s_if (hg : o.guard = some (j, want)) (hd : (ops[j]?).bind (·.dst) = some d) (he : get d σ.t = some (.v (.bool e))) (hu : Unk e) (h1 : e = true → SeqOps Tryd.prog ops (o :: rest) σ K) (h2 : e = false → SeqOps Tryd.prog ops (o :: rest) σ K) : SeqOps Tryd.prog ops (o :: rest) σ K := by
  cases e
  · exact h2 rfl
  · exact h1 rfl
def nosT (d : Nat) : List (Nat × TV) → Bool
  | [] => true
  | (_, x) :: l => x.hasn d && nosT d l
def nosB (d : Nat) : List (Nat × List TV) → Bool
  | [] => true
  | (s, cs) :: l => (!(s == d) && hasnL d cs) && nosB d l
theorem nosT_eq {d : Nat} : ∀ {l : List (Nat × TV)}, nosT d l = true → killT d l = l
  | [], _ => rfl
  | (t, x) :: l, h => by
    simp only [nosT, Bool.and_eq_true] at h
    simp [killT, kill_hasn x h.1, nosT_eq h.2]
theorem nosB_eq {d : Nat} : ∀ {l : List (Nat × List TV)}, nosB d l = true → killB d l = l
  | [], _ => rfl
  | (s, cs) :: l, h => by
    simp only [nosB, Bool.and_eq_true, Bool.not_eq_true', beq_eq_false_iff_ne] at h
    have e1 : (s == d) = false := by simp [h.1.1]
    simp [killB, e1, killL_hasn cs h.1.2, nosB_eq h.2]
theorem nosK_eq {d : Nat} : ∀ {l : List Nat}, memK d l = false → killK d l = l
  | [], _ => rfl
  | s :: l, h => by
    simp only [memK] at h
    cases hs : s == d
    · simp only [hs, cond_false] at h
      simp [killK, hs, nosK_eq h]
    · simp [hs] at h
def Nos (d : Nat) (tm : List (Nat × TV)) (bx : List (Nat × List TV)) (k : List Nat) : Bool := nosT d tm && (nosB d bx && !memK d k)
theorem Nos.eqs (h : Nos d tm bx k = true) : killT d tm = tm ∧ killB d bx = bx ∧ killK d k = k := by
  simp only [Nos, Bool.and_eq_true, Bool.not_eq_true'] at h
  exact ⟨nosT_eq h.1, nosB_eq h.2.1, nosK_eq h.2.2⟩
theorem sg_e {σ' : AS} (hs : stepOp Tryd.prog σ o = some σ') (hc : ∀ f args ats, o.op ≠ .call { callee := .value f, args := args, argTypes := ats }) (h : C σ') : SG o σ C := by
  constructor
  refine .inl ?_
  unfold StepS
  split
  · rename_i f args ats hop; exact absurd hop (hc f args ats)
  · exact ⟨_, hs, h⟩
theorem sg_q (hd : o.dst = some d) (hn : (Nat.blt d n && Nat.blt d 999999) = true) (he : EvG ⟨n, tm, bx, k⟩ o r) (h : C ⟨n, (d, r) :: tm, bx, k⟩) : SG o ⟨n, tm, bx, k⟩ C := by
  simp only [Bool.and_eq_true, Nat.blt_eq] at hn
  have he := he.h
  refine sg_e (σ' := ⟨n, (d, r) :: tm, bx, k⟩) (by simp [stepOp, hd, hn.1, he, AS.put]) (fun f args ats hc => ?_) h
  simp [evalP, hc] at he
/-- The state behind a call. -/
structure RtG (d : Nat) (σ : AS) (r : TV) (σ' : AS) : Prop where
  h : σ.ret (some d) r = some σ'
theorem rt_v (hn : (Nat.blt d n && Nat.blt d 999999) = true) : RtG d ⟨n, tm, bx, k⟩ (.v a) ⟨n, (d, .v a) :: tm, bx, k⟩ := by
  simp only [Bool.and_eq_true, Nat.blt_eq] at hn
  exact ⟨by simp [AS.ret, hn.1, hn.2, AS.put]⟩
theorem rt_t {vs : List TV} (hn : (Nat.blt d n && Nat.blt d 999999) = true) : RtG d ⟨n, tm, bx, k⟩ (.tup vs) ⟨n, (d, .tup vs) :: tm, bx, k⟩ := by
  simp only [Bool.and_eq_true, Nat.blt_eq] at hn
  exact ⟨by simp [AS.ret, hn.1, hn.2, AS.put]⟩
theorem rt_a {sz s : Nat} {xs : List AV} (hn : (Nat.blt d n && Nat.blt d 999999) = true) (hk : Nos d tm bx k = true) : RtG d ⟨n, tm, bx, k⟩ (.ap sz xs s) ⟨n, (d, .ap sz xs d) :: tm, bx, d :: k⟩ := by
  simp only [Bool.and_eq_true, Nat.blt_eq] at hn
  obtain ⟨h1, h2, h3⟩ := Nos.eqs hk
  exact ⟨by simp [AS.ret, hn.1, hn.2, AS.newTok, h1, h2, h3]⟩
/-- A call of a function by its name. -/
theorem sg_k {fid : FuncId} {args : Array Operand} {ats : Array TypeId} {avs : List AV} {σ' : AS} (ha : datArgs Tryd.prog σ args.toList ats.toList = some avs) (hfc : FC Tryd.prog fid avs r) (hr : RtG d σ r σ') (h : C σ') :
    SG ⟨some d, .call { callee := .value (.func fid), args := args, argTypes := ats }, T, pos, after, g⟩ σ C := by
  constructor
  refine .inl ?_
  simp only [StepS, ev, fnOf, ha, List.append_nil]
  exact ⟨_, hfc, σ', hr.h, h⟩
/-- A call of a function value. -/
theorem sg_kv {fid : FuncId} {args : Array Operand} {ats : Array TypeId} {avs caps all : List AV} {σ' : AS} (hv : get t σ.t = some (.v (.fn fid caps))) (ha : datArgs Tryd.prog σ args.toList ats.toList = some avs) (hl : avs ++ caps = all) (hfc : FC Tryd.prog fid all r) (hr : RtG d σ r σ') (h : C σ') :
    SG ⟨some d, .call { callee := .value (.tmp t), args := args, argTypes := ats }, T, pos, after, g⟩ σ C := by
  constructor
  subst hl
  refine .inl ?_
  simp only [StepS, ev, hv, Option.getD_some, fnOf, ha]
  exact ⟨_, hfc, σ', hr.h, h⟩
theorem sg_bx {T' : Nat} {cs : List TV} (hn : (Nat.blt d n && Nat.blt d 999999) = true) (hv : evT Tryd.prog T' ⟨n, tm, bx, k⟩ x = v) (hc : tcells v = some cs) (hk : (Nos d tm bx k && hasnL d cs) = true)
    (h : C ⟨n, (d, .loc d 0) :: tm, (d, cs) :: bx, k⟩) : SG ⟨some d, .box T' x, T, pos, after, g⟩ ⟨n, tm, bx, k⟩ C := by
  simp only [Bool.and_eq_true, Nat.blt_eq] at hn hk
  obtain ⟨h1, h2, h3⟩ := Nos.eqs hk.1
  refine sg_e ?_ (by intros; simp) h
  simp [stepOp, evalP, stepE, hn.1, hn.2, hv, hc, AS.newBox, h1, h2, h3, killL_hasn cs hk.2]
theorem sg_al {T' : Nat} {zs : List AV} {cs : List TV} (hn : (Nat.blt d n && Nat.blt d 999999) = true) (hz : zeroC Tryd.prog T' = some zs) (hc : zs.map tvz = cs) (hk : (Nos d tm bx k && hasnL d cs) = true)
    (h : C ⟨n, (d, .loc d 0) :: tm, (d, cs) :: bx, k⟩) : SG ⟨some d, .alloc T', T, pos, after, g⟩ ⟨n, tm, bx, k⟩ C := by
  simp only [Bool.and_eq_true, Nat.blt_eq] at hn hk
  obtain ⟨h1, h2, h3⟩ := Nos.eqs hk.1
  subst hc
  refine sg_e ?_ (by intros; simp) h
  simp [stepOp, evalP, stepE, hn.1, hn.2, hz, AS.newBox, h1, h2, h3, killL_hasn _ hk.2]
theorem sg_st {T' s off : Nat} {nc cs : List TV} {bx' : List (Nat × List TV)} {ty : ATy} (hx : ev ⟨n, tm, bx, k⟩ x = .loc s off) (hv : evT Tryd.prog T' ⟨n, tm, bx, k⟩ y = v) (hc : tcells v = some nc) (hb : get s bx = some cs) (ht : aty Tryd.prog T' = ty)
    (hz : (Nat.beq nc.length ty.size && (!(Nat.beq nc.length 0) && Nat.ble (off + nc.length) cs.length)) = true) (hs : setB s (cs.take off ++ nc ++ cs.drop (off + nc.length)) bx = bx')
    (h : C ⟨n, tm, bx', k⟩) : SG ⟨none, .store T' x y, T, pos, after, g⟩ ⟨n, tm, bx, k⟩ C := by
  subst hs
  simp only [Bool.and_eq_true, Bool.not_eq_true', Nat.ble_eq] at hz
  have z1 : nc.length = ty.size := Nat.eq_of_beq_eq_true hz.1
  have z2 : nc.length ≠ 0 := fun e => by rw [e] at hz; simp at hz
  refine sg_e ?_ (by intros; simp) h
  simp only [stepOp, hx, hv, hc, hb, ht]
  rw [if_pos ⟨z1, z2, hz.2.2⟩]

/-! ### Branches, ends -/
theorem qs_cond {xc yc : Code} (hc : ev σ c = .v (.bool e)) (hu : Unk e) (h1 : e = true → Tri Tryd.prog ro m xc σ Q) (h2 : e = false → Tri Tryd.prog ro m yc σ Q) : Tri Tryd.prog ro m (.cond c xc yc) σ Q := tri_cond hc h1 h2
theorem qs_ct {xc yc : Code} (hc : ev σ c = .v (.bool e)) (he : e = true) (h : Tri Tryd.prog ro m xc σ Q) : Tri Tryd.prog ro m (.cond c xc yc) σ Q := tri_cond hc (fun _ => h) (fun e' => by rw [he] at e'; cases e')
theorem qs_cf {xc yc : Code} (hc : ev σ c = .v (.bool e)) (he : e = false) (h : Tri Tryd.prog ro m yc σ Q) : Tri Tryd.prog ro m (.cond c xc yc) σ Q := tri_cond hc (fun e' => by rw [he] at e'; cases e') (fun _ => h)
theorem r1_t {t : Nat} {s : AS} (h : get t s.t = some v) (hv : v.dat = some a) : outV s (.tmp t) = some a := by simp [outV, res1, h, hv]
end

/-! ### Steps of a region in any order -/
section
variable {ro : Option Nat} {m : Nat} {ops rest : List Oper} {σ σ' s : AS} {o : Oper} {KD : List (Nat × Rc) → Prop} {K' : AS → Prop} {Q : Exit → AS → Prop} {d t n i : Nat} {e b want : Bool} {r v v' : TV} {a a' : AV}
  {dst : Option Nat} {op : Op} {T : TypeId} {pos : String} {after : Array Edge} {g : Option (Nat × Bool)} {x y z : Operand} {is : List Nat} {acc : List (Nat × Rc)} {j : Nat} {bx : List (Nat × List TV)} {k : List Nat}
/-- A wanted operation, and what follows. -/
structure DG (ops : List Oper) (i : Nat) (o : Oper) (is : List Nat) (acc : List (Nat × Rc)) (σ : AS) (KD : List (Nat × Rc) → Prop) : Prop where
  h : ∃ r : Rc, o.dst = some r.d ∧ r.d < σ.n ∧ r.d < 999999 ∧ (recE Tryd.prog (seeS acc σ) o r.d = some r ∨ ∃ fid all rv, callA Tryd.prog (seeS acc σ) o = some (fid, all) ∧ FC Tryd.prog fid all rv ∧ r = callRc r.d rv ∧ (∃ σ', (seeS acc σ).ret (some r.d) rv = some σ')) ∧ DSeq Tryd.prog ops σ is ((i, r) :: acc) KD
theorem d_w (ho : ops[i]? = some o) (hw : Wt ops (seeS acc σ) o true) (h : DG ops i o is acc σ KD) : DSeq Tryd.prog ops σ (i :: is) acc KD := by
  obtain ⟨r, h1, h2, h3, h4, h5⟩ := h.h
  exact ⟨o, r, ho, ⟨h1, h2, h3, .inr ⟨hw, h4⟩⟩, h5⟩
theorem d_n (ho : ops[i]? = some o) (hw : Wt ops (seeS acc σ) o false) (hd : o.dst = some d) (hn : (Nat.blt d σ.n && Nat.blt d 999999) = true) (h : DSeq Tryd.prog ops σ is ((i, ⟨d, .tup [], none, false, none⟩) :: acc) KD) : DSeq Tryd.prog ops σ (i :: is) acc KD := by
  simp only [Bool.and_eq_true, Nat.blt_eq] at hn
  exact ⟨o, _, ho, ⟨hd, hn.1, hn.2, .inl ⟨hw, rfl⟩⟩, h⟩
theorem d_if (ho : ops[i]? = some o) (hg : o.guard = some (j, want)) (hd : (ops[j]?).bind (·.dst) = some d) (he : get d (seeS acc σ).t = some (.v (.bool e))) (hu : Unk e) (h1 : e = true → DSeq Tryd.prog ops σ (i :: is) acc KD) (h2 : e = false → DSeq Tryd.prog ops σ (i :: is) acc KD) : DSeq Tryd.prog ops σ (i :: is) acc KD := by
  cases e
  · exact h2 rfl
  · exact h1 rfl
theorem dg_e {rc : Rc} (hd : o.dst = some d) (hn : (Nat.blt d σ.n && Nat.blt d 999999) = true) (hs : recE Tryd.prog (seeS acc σ) o d = some rc) (h : DSeq Tryd.prog ops σ is ((i, rc) :: acc) KD) : DG ops i o is acc σ KD := by
  simp only [Bool.and_eq_true, Nat.blt_eq] at hn
  have hrd := recE_d hs
  subst hrd
  exact ⟨rc, hd, hn.1, hn.2, .inl hs, h⟩
theorem dg_q (hd : o.dst = some d) (hn : (Nat.blt d σ.n && Nat.blt d 999999) = true) (he : EvG (seeS acc σ) o r) (h : DSeq Tryd.prog ops σ is ((i, ⟨d, r, none, false, none⟩) :: acc) KD) : DG ops i o is acc σ KD :=
  dg_e hd hn (by simp [recE, he.h]) h
/-- What a call leaves. -/
structure CrG (d : Nat) (r : TV) (rc : Rc) : Prop where
  h : callRc d r = rc
theorem cr_v : CrG d (.v a) ⟨d, .v a, none, false, none⟩ := ⟨rfl⟩
theorem cr_t {vs : List TV} : CrG d (.tup vs) ⟨d, .tup vs, none, false, none⟩ := ⟨rfl⟩
theorem cr_a {sz s : Nat} {xs : List AV} : CrG d (.ap sz xs s) ⟨d, .ap sz xs d, none, true, none⟩ := ⟨rfl⟩
theorem dg_c {fid : FuncId} {all : List AV} {rc : Rc} (hd : o.dst = some d) (hn : (Nat.blt d σ.n && Nat.blt d 999999) = true) (ha : callA Tryd.prog (seeS acc σ) o = some (fid, all)) (hfc : FC Tryd.prog fid all r) (hr : CrG d r rc) (h : DSeq Tryd.prog ops σ is ((i, rc) :: acc) KD) : DG ops i o is acc σ KD := by
  have hr := hr.h
  subst hr
  simp only [Bool.and_eq_true, Nat.blt_eq] at hn
  have hdd : (callRc d r).d = d := by unfold callRc; split <;> rfl
  refine ⟨callRc d r, by rw [hdd]; exact hd, by rw [hdd]; exact hn.1, by rw [hdd]; exact hn.2, .inr ⟨fid, all, r, ha, hfc, by rw [hdd], ?_⟩, h⟩
  rw [hdd]
  unfold AS.ret
  have hl' : d < (seeS acc σ).n ∧ d < 999999 := hn
  cases r <;> simp only [if_pos hl'] <;> exact ⟨_, rfl⟩
theorem dg_k {fid : FuncId} {args : Array Operand} {ats : Array TypeId} {avs : List AV} {rc : Rc} (hn : (Nat.blt d σ.n && Nat.blt d 999999) = true) (ha : datArgs Tryd.prog (seeS acc σ) args.toList ats.toList = some avs) (hfc : FC Tryd.prog fid avs r) (hr : CrG d r rc)
    (h : DSeq Tryd.prog ops σ is ((i, rc) :: acc) KD) : DG ops i ⟨some d, .call { callee := .value (.func fid), args := args, argTypes := ats }, T, pos, after, g⟩ is acc σ KD :=
  dg_c (fid := fid) (all := avs) rfl hn (by simp only [callA, ev, fnOf, ha, List.append_nil]) hfc hr h
theorem dg_kv {fid : FuncId} {args : Array Operand} {ats : Array TypeId} {avs caps all : List AV} {rc : Rc} (hn : (Nat.blt d σ.n && Nat.blt d 999999) = true) (hv : get t (seeS acc σ).t = some (.v (.fn fid caps))) (ha : datArgs Tryd.prog (seeS acc σ) args.toList ats.toList = some avs) (hl : avs ++ caps = all) (hfc : FC Tryd.prog fid all r) (hr : CrG d r rc)
    (h : DSeq Tryd.prog ops σ is ((i, rc) :: acc) KD) : DG ops i ⟨some d, .call { callee := .value (.tmp t), args := args, argTypes := ats }, T, pos, after, g⟩ is acc σ KD :=
  dg_c (fid := fid) (all := all) rfl hn (by simp only [callA, ev, hv, Option.getD_some, fnOf, ha, hl]) hfc hr h
theorem dg_al {T' : Nat} {zs : List AV} {cs : List TV} (hn : (Nat.blt d σ.n && Nat.blt d 999999) = true) (hz : zeroC Tryd.prog T' = some zs) (hc : zs.map tvz = cs)
    (h : DSeq Tryd.prog ops σ is ((i, ⟨d, .loc d 0, some cs, false, none⟩) :: acc) KD) : DG ops i ⟨some d, .alloc T', T, pos, after, g⟩ is acc σ KD := by
  subst hc
  exact dg_e rfl hn (by simp [recE, evalP, hz]) h
theorem d_end {τ : List Nat} {l : List Oper} (hd : okD ops.toArray σ τ acc = true) (ht : tails ops τ = l) (hb : rB acc σ.b = bx) (hk : kdrop (rC acc) (rK0 acc σ.k) = k) (h : SeqOps Tryd.prog ops l ⟨σ.n, rT acc σ.t, bx, k⟩ K') : okD ops.toArray σ τ acc = true ∧ SeqOps Tryd.prog ops (tails ops τ) (fullS acc σ) K' := by
  subst ht; subst hb; subst hk; exact ⟨hd, h⟩
end
attribute [go_sem] rT rB rC rK0 kdrop callRc
end Go.Proofs.YtenigafbbdjagaaDoor.AL
