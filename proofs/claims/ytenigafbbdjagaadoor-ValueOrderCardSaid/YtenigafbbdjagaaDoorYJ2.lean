/- Contracts of Go's library that the kit's shelf has: strconv.FormatInt and strconv.ParseInt, base 10. -/
import Derived.Test.YtenigafbbdjagaaDoorYMB
import Derived.Test.YtenigafbbdjagaaDoorProg
import Derived.Shelf.Strconv.Itoa4
import Derived.Shelf.Strconv.ErrVarParseInt
import Derived.Lib.AppendIntMem
namespace Go.Proofs.YtenigafbbdjagaaDoor.AL
open Go Go.Proofs
set_option linter.unusedVariables false
def laysFi_ren : Go.Shelf.Ren := ⟨fun | 173 => 25 | 246 => 30 | 283 => 38 | 284 => 39 | 285 => 40 | 286 => 41 | 129 => 49 | 317 => 48 | 318 => 50 | 319 => 51 | 320 => 52 | 337 => 54 | 338 => 55 | n => n, fun | 2 => 2 | 3 => 3 | 9 => 9 | 4 => 4 | 171 => 62 | 0 => 0 | 53 => 48 | 37 => 65 | 5 => 5 | 173 => 66 | 212 => 75 | 51 => 76 | 20 => 20 | 213 => 77 | 46 => 57 | 232 => 85 | 233 => 86 | n => n, fun | 17 => 2 | 18 => 3 | 19 => 4 | n => n⟩
theorem laysFi : Go.Proofs.LaysM.n173 Tryd.prog laysFi_ren where
  mixed := by kernel_rfl
  f129 := Tryd.func49.trans (congrArg some (by kernel_rfl))
  f173 := Tryd.func25.trans (congrArg some (by kernel_rfl))
  f246 := Tryd.func30.trans (congrArg some (by kernel_rfl))
  f283 := Tryd.func38.trans (congrArg some (by kernel_rfl))
  f284 := Tryd.func39.trans (congrArg some (by kernel_rfl))
  f285 := Tryd.func40.trans (congrArg some (by kernel_rfl))
  f286 := Tryd.func41.trans (congrArg some (by kernel_rfl))
  f317 := Tryd.func48.trans (congrArg some (by kernel_rfl))
  f318 := Tryd.func50.trans (congrArg some (by kernel_rfl))
  f319 := Tryd.func51.trans (congrArg some (by kernel_rfl))
  f320 := Tryd.func52.trans (congrArg some (by kernel_rfl))
  f337 := Tryd.func54.trans (congrArg some (by kernel_rfl))
  f338 := Tryd.func55.trans (congrArg some (by kernel_rfl))
  t0 := Tryd.underlying0
  a0 := Tryd.isAgg0
  z0 := Tryd.sizeOf0
  v0 := Tryd.zeroValue0
  t2 := Tryd.underlying2
  a2 := Tryd.isAgg2
  z2 := Tryd.sizeOf2
  v2 := Tryd.zeroValue2
  t3 := Tryd.underlying3
  a3 := Tryd.isAgg3
  z3 := Tryd.sizeOf3
  v3 := Tryd.zeroValue3
  t4 := Tryd.underlying4
  a4 := Tryd.isAgg4
  z4 := Tryd.sizeOf4
  v4 := Tryd.zeroValue4
  t5 := Tryd.underlying5
  a5 := Tryd.isAgg5
  z5 := Tryd.sizeOf5
  v5 := Tryd.zeroValue5
  t9 := Tryd.underlying9
  a9 := Tryd.isAgg9
  z9 := Tryd.sizeOf9
  v9 := Tryd.zeroValue9
  t20 := Tryd.underlying20
  a20 := Tryd.isAgg20
  z20 := Tryd.sizeOf20
  v20 := Tryd.zeroValue20
  t37 := Tryd.underlying65
  a37 := Tryd.isAgg65
  z37 := Tryd.sizeOf65
  v37 := Tryd.zeroValue65
  t46 := Tryd.underlying57
  a46 := Tryd.isAgg57
  z46 := Tryd.sizeOf57
  v46 := Tryd.zeroValue57
  t51 := Tryd.underlying76
  a51 := Tryd.isAgg76
  z51 := Tryd.sizeOf76
  v51 := Tryd.zeroValue76
  t53 := Tryd.underlying48
  a53 := Tryd.isAgg48
  z53 := Tryd.sizeOf48
  v53 := Tryd.zeroValue48
  t171 := Tryd.underlying62
  a171 := Tryd.isAgg62
  z171 := Tryd.sizeOf62
  v171 := Tryd.zeroValue62
  t173 := Tryd.underlying66
  a173 := Tryd.isAgg66
  z173 := Tryd.sizeOf66
  v173 := Tryd.zeroValue66
  t212 := Tryd.underlying75
  a212 := Tryd.isAgg75
  z212 := Tryd.sizeOf75
  v212 := Tryd.zeroValue75
  t213 := Tryd.underlying77
  a213 := Tryd.isAgg77
  z213 := Tryd.sizeOf77
  t232 := Tryd.underlying85
  a232 := Tryd.isAgg85
  z232 := Tryd.sizeOf85
  v232 := Tryd.zeroValue85
  t233 := Tryd.underlying86
  a233 := Tryd.isAgg86
  z233 := Tryd.sizeOf86
  v233 := Tryd.zeroValue86
  g17 := by kernel_rfl
  g18 := by kernel_rfl
  g19 := by kernel_rfl
  i0 := by kernel_rfl
  i2 := by kernel_rfl
  i3 := by kernel_rfl
  i4 := by kernel_rfl
  i5 := by kernel_rfl
  i9 := by kernel_rfl
  i20 := by kernel_rfl
  i37 := by kernel_rfl
  i46 := by kernel_rfl
  i51 := by kernel_rfl
  i53 := by kernel_rfl
  i171 := by kernel_rfl
  i173 := by kernel_rfl
  i212 := by kernel_rfl
  i232 := by kernel_rfl
  i233 := by kernel_rfl
  m17 := by kernel_rfl
  m18 := by kernel_rfl
  m19 := by kernel_rfl
def laysPi_ren : Go.Shelf.Ren := ⟨fun | 174 => 24 | 247 => 28 | 245 => 29 | 287 => 33 | 279 => 34 | 280 => 35 | 281 => 36 | 282 => 37 | 321 => 43 | 322 => 44 | 316 => 45 | 171 => 47 | 205 => 46 | 243 => 53 | 246 => 30 | 283 => 38 | 284 => 39 | 285 => 40 | 286 => 41 | 129 => 49 | 317 => 48 | 318 => 50 | 319 => 51 | 320 => 52 | 337 => 54 | 338 => 55 | n => n, fun | 9 => 9 | 3 => 3 | 2 => 2 | 75 => 45 | 85 => 46 | 4 => 4 | 167 => 54 | 5 => 5 | 53 => 48 | 175 => 55 | 46 => 57 | 168 => 58 | 37 => 65 | 0 => 0 | 210 => 72 | 21 => 21 | 127 => 80 | 145 => 83 | 143 => 81 | 171 => 62 | 173 => 66 | 212 => 75 | 51 => 76 | 20 => 20 | 213 => 77 | 232 => 85 | 233 => 86 | 80 => 38 | n => n, fun | 15 => 0 | 16 => 1 | 17 => 2 | 18 => 3 | 19 => 4 | n => n⟩
theorem laysPi : Go.Proofs.LaysC.n174 Tryd.prog laysPi_ren where
  mixed := by kernel_rfl
  f129 := Tryd.func49.trans (congrArg some (by kernel_rfl))
  f171 := Tryd.func47.trans (congrArg some (by kernel_rfl))
  f174 := Tryd.func24.trans (congrArg some (by kernel_rfl))
  f205 := Tryd.func46.trans (congrArg some (by kernel_rfl))
  f243 := Tryd.func53.trans (congrArg some (by kernel_rfl))
  f245 := Tryd.func29.trans (congrArg some (by kernel_rfl))
  f246 := Tryd.func30.trans (congrArg some (by kernel_rfl))
  f247 := Tryd.func28.trans (congrArg some (by kernel_rfl))
  f279 := Tryd.func34.trans (congrArg some (by kernel_rfl))
  f280 := Tryd.func35.trans (congrArg some (by kernel_rfl))
  f281 := Tryd.func36.trans (congrArg some (by kernel_rfl))
  f282 := Tryd.func37.trans (congrArg some (by kernel_rfl))
  f283 := Tryd.func38.trans (congrArg some (by kernel_rfl))
  f284 := Tryd.func39.trans (congrArg some (by kernel_rfl))
  f285 := Tryd.func40.trans (congrArg some (by kernel_rfl))
  f286 := Tryd.func41.trans (congrArg some (by kernel_rfl))
  f287 := Tryd.func33.trans (congrArg some (by kernel_rfl))
  f316 := Tryd.func45.trans (congrArg some (by kernel_rfl))
  f317 := Tryd.func48.trans (congrArg some (by kernel_rfl))
  f318 := Tryd.func50.trans (congrArg some (by kernel_rfl))
  f319 := Tryd.func51.trans (congrArg some (by kernel_rfl))
  f320 := Tryd.func52.trans (congrArg some (by kernel_rfl))
  f321 := Tryd.func43.trans (congrArg some (by kernel_rfl))
  f322 := Tryd.func44.trans (congrArg some (by kernel_rfl))
  f337 := Tryd.func54.trans (congrArg some (by kernel_rfl))
  f338 := Tryd.func55.trans (congrArg some (by kernel_rfl))
  t0 := Tryd.underlying0
  a0 := Tryd.isAgg0
  z0 := Tryd.sizeOf0
  v0 := Tryd.zeroValue0
  t2 := Tryd.underlying2
  a2 := Tryd.isAgg2
  z2 := Tryd.sizeOf2
  v2 := Tryd.zeroValue2
  t3 := Tryd.underlying3
  a3 := Tryd.isAgg3
  z3 := Tryd.sizeOf3
  v3 := Tryd.zeroValue3
  t4 := Tryd.underlying4
  a4 := Tryd.isAgg4
  z4 := Tryd.sizeOf4
  v4 := Tryd.zeroValue4
  t5 := Tryd.underlying5
  a5 := Tryd.isAgg5
  z5 := Tryd.sizeOf5
  v5 := Tryd.zeroValue5
  t9 := Tryd.underlying9
  a9 := Tryd.isAgg9
  z9 := Tryd.sizeOf9
  v9 := Tryd.zeroValue9
  t20 := Tryd.underlying20
  a20 := Tryd.isAgg20
  z20 := Tryd.sizeOf20
  v20 := Tryd.zeroValue20
  t21 := Tryd.underlying21
  a21 := Tryd.isAgg21
  z21 := Tryd.sizeOf21
  v21 := Tryd.zeroValue21
  t37 := Tryd.underlying65
  a37 := Tryd.isAgg65
  z37 := Tryd.sizeOf65
  v37 := Tryd.zeroValue65
  t46 := Tryd.underlying57
  a46 := Tryd.isAgg57
  z46 := Tryd.sizeOf57
  v46 := Tryd.zeroValue57
  t51 := Tryd.underlying76
  a51 := Tryd.isAgg76
  z51 := Tryd.sizeOf76
  v51 := Tryd.zeroValue76
  t53 := Tryd.underlying48
  a53 := Tryd.isAgg48
  z53 := Tryd.sizeOf48
  v53 := Tryd.zeroValue48
  t75 := Tryd.underlying45
  a75 := Tryd.isAgg45
  z75 := Tryd.sizeOf45
  v75 := Tryd.zeroValue45
  t85 := Tryd.underlying46
  a85 := Tryd.isAgg46
  z85 := Tryd.sizeOf46
  v85 := Tryd.zeroValue46
  t127 := Tryd.underlying80
  a127 := Tryd.isAgg80
  z127 := Tryd.sizeOf80
  v127 := Tryd.zeroValue80
  t143 := Tryd.underlying81
  a143 := Tryd.isAgg81
  z143 := Tryd.sizeOf81
  v143 := Tryd.zeroValue81
  t145 := Tryd.underlying83
  a145 := Tryd.isAgg83
  z145 := Tryd.sizeOf83
  v145 := Tryd.zeroValue83
  t167 := Tryd.underlying54
  a167 := Tryd.isAgg54
  z167 := Tryd.sizeOf54
  v167 := Tryd.zeroValue54
  t168 := Tryd.underlying58
  a168 := Tryd.isAgg58
  z168 := Tryd.sizeOf58
  v168 := Tryd.zeroValue58
  t171 := Tryd.underlying62
  a171 := Tryd.isAgg62
  z171 := Tryd.sizeOf62
  v171 := Tryd.zeroValue62
  t173 := Tryd.underlying66
  a173 := Tryd.isAgg66
  z173 := Tryd.sizeOf66
  v173 := Tryd.zeroValue66
  t175 := Tryd.underlying55
  a175 := Tryd.isAgg55
  z175 := Tryd.sizeOf55
  v175 := Tryd.zeroValue55
  t210 := Tryd.underlying72
  a210 := Tryd.isAgg72
  z210 := Tryd.sizeOf72
  v210 := Tryd.zeroValue72
  t212 := Tryd.underlying75
  a212 := Tryd.isAgg75
  z212 := Tryd.sizeOf75
  v212 := Tryd.zeroValue75
  t213 := Tryd.underlying77
  a213 := Tryd.isAgg77
  z213 := Tryd.sizeOf77
  t232 := Tryd.underlying85
  a232 := Tryd.isAgg85
  z232 := Tryd.sizeOf85
  v232 := Tryd.zeroValue85
  t233 := Tryd.underlying86
  a233 := Tryd.isAgg86
  z233 := Tryd.sizeOf86
  v233 := Tryd.zeroValue86
  g15 := by kernel_rfl
  g16 := by kernel_rfl
  g17 := by kernel_rfl
  g18 := by kernel_rfl
  g19 := by kernel_rfl
  t80 := Tryd.underlying38
  a80 := Tryd.isAgg38
  z80 := Tryd.sizeOf38
  v80 := Tryd.zeroValue38
  i0 := by kernel_rfl
  i2 := by kernel_rfl
  i3 := by kernel_rfl
  i4 := by kernel_rfl
  i5 := by kernel_rfl
  i9 := by kernel_rfl
  i20 := by kernel_rfl
  i21 := by kernel_rfl
  i37 := by kernel_rfl
  i46 := by kernel_rfl
  i51 := by kernel_rfl
  i53 := by kernel_rfl
  i75 := by kernel_rfl
  i80 := by kernel_rfl
  i85 := by kernel_rfl
  i127 := by kernel_rfl
  i143 := by kernel_rfl
  i145 := by kernel_rfl
  i167 := by kernel_rfl
  i168 := by kernel_rfl
  i171 := by kernel_rfl
  i173 := by kernel_rfl
  i175 := by kernel_rfl
  i210 := by kernel_rfl
  i212 := by kernel_rfl
  i232 := by kernel_rfl
  i233 := by kernel_rfl
  m15 := by kernel_rfl
  m16 := by kernel_rfl
  m17 := by kernel_rfl
  m18 := by kernel_rfl
  m19 := by kernel_rfl
  c0 := by kernel_rfl
  c2 := by kernel_rfl
  c3 := by kernel_rfl
  c4 := by kernel_rfl
  c5 := by kernel_rfl
  c9 := by kernel_rfl
  c20 := by kernel_rfl
  c21 := by kernel_rfl
  c37 := by kernel_rfl
  c46 := by kernel_rfl
  c51 := by kernel_rfl
  c53 := by kernel_rfl
  c75 := by kernel_rfl
  c80 := by kernel_rfl
  c85 := by kernel_rfl
  c127 := by kernel_rfl
  c143 := by kernel_rfl
  c145 := by kernel_rfl
  c167 := by kernel_rfl
  c168 := by kernel_rfl
  c171 := by kernel_rfl
  c173 := by kernel_rfl
  c175 := by kernel_rfl
  c210 := by kernel_rfl
  c212 := by kernel_rfl
  c213 := by kernel_rfl
  c232 := by kernel_rfl
  c233 := by kernel_rfl

theorem enter_of {f : Nat} {fn : Func} (hf : Tryd.prog.funcs[f]? = some fn) (hb : fn.body.isSome = true) (hn : (fn.name == "runtime.NumGoroutine") = false) (vs : Array Value) (w : World) : (callFunc f vs).run Tryd.prog w = .ok (.enter f vs) w := by
  obtain ⟨c, hc⟩ := Option.isSome_iff_exists.mp hb
  have hn' : ¬ fn.name = "runtime.NumGoroutine" := by simpa using hn
  simp [callFunc, hf, hn', hc]
theorem memOk_below {M : Mem} {w w' : World} (hM : MemOk M w) (hb : RowKit.Below w.heap.size w w') : MemOk M w' := fun b o v hv => by
  obtain ⟨q1, q2⟩ := hM b o v hv
  have hlt : b < w.heap.size := by
    by_cases hlt : b < w.heap.size
    · exact hlt
    · have : w.heap[b]? = none := by rw [Array.getElem?_eq_none_iff]; omega
      simp [World.cell?, this] at q1
  exact ⟨(World.cell?_of_block (hb.block b hlt)).trans q1, q2⟩
theorem tab_is {M : Mem} {w : World} (h : TabP M w) : Lib.TabIs Tryd.prog w "internal/strconv.uint64pow10" .u64 Lib.pow10Tab := by
  obtain ⟨e, fr, he⟩ := h.w (2, pow10.map (.int .u64)) List.mem_cons_self
  have hg : Tryd.prog.globalNamed "internal/strconv.uint64pow10" = some 2 := by kernel_rfl
  unfold Lib.TabIs World.var?
  rw [hg]
  simp only [Option.bind_some]
  rw [he]
  rfl
theorem three {vals : Array Value} (h : 3 = vals.size) : ∃ a b c, vals = #[a, b, c] := by
  rcases vals with ⟨l⟩
  match l, h with
  | [a, b, c], _ => exact ⟨a, b, c, rfl⟩
theorem two {vals : Array Value} (h : 2 = vals.size) : ∃ a b, vals = #[a, b] := by
  rcases vals with ⟨l⟩
  match l, h with
  | [a, b], _ => exact ⟨a, b, rfl⟩
theorem c_fmt (n : Int) (h0 : -9223372036854775808 ≤ n) (h1 : n ≤ 9223372036854775807) : FC Tryd.prog 25 [.int .i64 n, .int .i64 10] (.v (.str (Lib.itoa n))) := by
  refine ⟨enter_of Tryd.func25 rfl rfl, fun M w vals hM hT hn hR => ?_⟩
  obtain ⟨a, b, rfl⟩ := two (by simpa using hn)
  have e0 := int_inv (hR 0 _ a rfl rfl)
  have e1 := int_inv (hR 1 _ b rfl rfl)
  subst e0; subst e1
  refine (Any.strconv_FormatInt_10 laysFi n h0 h1 w (tab_is hT)).mono fun e w' ⟨he, k, os, hw⟩ => ?_
  subst hw
  have hb : RowKit.Below w.heap.size w (Go.Sort.grow (w.drewN k) os) := Go.Lib.below_grow _ _ (Nat.le_refl _) _ _
  exact ⟨_, M, he, hb, MLe.refl _, fun _ _ _ h => .inl h, memOk_below hM hb, .v _ _ (.str _)⟩
theorem tup2 {M : Mem} {w w' : World} {a b : AV} {u v : Value} (h1 : R M a u) (h2 : R M b v) : ResP M w w' (.tup [.v a, .v b]) (.tuple #[u, v]) := by
  refine .tup [a, b] #[u, v] rfl fun j c x hc hx => ?_
  match j, hc, hx with
  | 0, hc, hx => cases hc; cases hx; exact h1
  | 1, hc, hx => cases hc; cases hx; exact h2
theorem c_pi_ok (s : List UInt8) (v : Int) (hs : s.length ≤ 100000) (h : Lib.parseIntB 64 s = .ok v) : FC Tryd.prog 24 [.str s, .int .i64 10, .int .i64 64] (.tup [.v (.int .i64 v), .v .nilI]) := by
  refine ⟨enter_of Tryd.func24 rfl rfl, fun M w vals hM hT hn hR => ?_⟩
  obtain ⟨a, b, c, rfl⟩ := three (by simpa using hn)
  have e0 := str_inv (hR 0 _ a rfl rfl)
  have e1 := int_inv (hR 1 _ b rfl rfl)
  have e2 := int_inv (hR 2 _ c rfl rfl)
  subst e0; subst e1; subst e2
  refine (Any.strconv_ParseInt_10_at64_ok laysPi ⟨s.toArray⟩ (by show s.toArray.size ≤ _; simp; omega) v h w).mono fun e w' ⟨he, hw⟩ => ?_
  have hb : RowKit.Below w.heap.size w w' := by
    rcases hw with rfl | ⟨t, rfl⟩
    · exact RowKit.Below.refl _ _
    · exact ⟨rfl, rfl, rfl, by rw [Lib.bytesWorld_size]; omega, fun j hj => Lib.bytesWorld_at_old w _ t j hj⟩
  exact ⟨_, M, he, hb, MLe.refl _, fun _ _ _ h => .inl h, memOk_below hM hb, tup2 (.int _ _) .nilI⟩
theorem c_pi_err (s : List UInt8) (hs : s.length ≤ 100000) (h : Lib.parseIntB 64 s = .«syntax» ∨ Lib.parseIntB 64 s = .range) : ∃ x, FC Tryd.prog 24 [.str s, .int .i64 10, .int .i64 64] (.tup [.v (.int .i64 x), .v (.iface 58 .any)]) := by
  have hl : (ByteArray.mk s.toArray).size ≤ 281474976710656 := by show s.toArray.size ≤ _; simp; omega
  rcases h with h | h
  · refine ⟨0, enter_of Tryd.func24 rfl rfl, fun M w vals hM hT hn hR => ?_⟩
    obtain ⟨a, b, c, rfl⟩ := three (by simpa using hn)
    have e0 := str_inv (hR 0 _ a rfl rfl)
    have e1 := int_inv (hR 1 _ b rfl rfl)
    have e2 := int_inv (hR 2 _ c rfl rfl)
    subst e0; subst e1; subst e2
    obtain ⟨tp, p, hp⟩ := hT.e 0 (by decide)
    refine (Any.strconv_ParseInt_10_at64_syntax laysPi ⟨s.toArray⟩ hl h (.iface tp p) w (hM 0 0 _ hp).1 (.inr ⟨tp, p, rfl⟩)).mono fun e w' ⟨N, he, _, _, hb⟩ => ?_
    exact ⟨_, M, he, hb, MLe.refl _, fun _ _ _ h => .inl h, memOk_below hM hb, tup2 (.int _ _) (.iface _ _ _ (.any _ rfl rfl))⟩
  · refine ⟨Lib.intSat 64 s, enter_of Tryd.func24 rfl rfl, fun M w vals hM hT hn hR => ?_⟩
    obtain ⟨a, b, c, rfl⟩ := three (by simpa using hn)
    have e0 := str_inv (hR 0 _ a rfl rfl)
    have e1 := int_inv (hR 1 _ b rfl rfl)
    have e2 := int_inv (hR 2 _ c rfl rfl)
    subst e0; subst e1; subst e2
    obtain ⟨tp, p, hp⟩ := hT.e 1 (by decide)
    refine (Any.strconv_ParseInt_10_at64_range laysPi ⟨s.toArray⟩ hl h (.iface tp p) w (hM 1 0 _ hp).1 (.inr ⟨tp, p, rfl⟩)).mono fun e w' ⟨N, he, _, _, hb⟩ => ?_
    exact ⟨_, M, he, hb, MLe.refl _, fun _ _ _ h => .inl h, memOk_below hM hb, tup2 (.int _ _) (.iface _ _ _ (.any _ rfl rfl))⟩
end Go.Proofs.YtenigafbbdjagaaDoor.AL
