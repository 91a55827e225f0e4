/- Contracts of Go's library that the kit's shelf has: strings.Join, strings.ContainsRune. -/
import Derived.Test.YtenigafbbdjagaaYMB
import Derived.Test.YtenigafbbdjagaaProg
import Derived.Shelf.Strings.OnBuilder
import Derived.Shelf.Strings.Runes
namespace Go.Proofs.Ytenigafbbdjagaa.AL
open Go Go.Proofs
set_option linter.unusedVariables false
def laysJoin_ren : Go.Shelf.Ren := ⟨fun | 156 => 19 | 165 => 24 | 166 => 25 | 169 => 26 | 240 => 28 | 241 => 29 | 276 => 34 | 277 => 35 | n => n, fun | 31 => 46 | 9 => 9 | 3 => 3 | 4 => 4 | 0 => 0 | 20 => 20 | 72 => 51 | 76 => 55 | 70 => 48 | 37 => 49 | 75 => 54 | 127 => 59 | 164 => 64 | 5 => 5 | 80 => 57 | n => n, fun | n => n⟩
theorem laysJoin : Go.Proofs.Lays.n156 Try.prog laysJoin_ren where
  mixed := by kernel_rfl
  f156 := Try.func19.trans (congrArg some (by kernel_rfl))
  f165 := Try.func24.trans (congrArg some (by kernel_rfl))
  f166 := Try.func25.trans (congrArg some (by kernel_rfl))
  f169 := Try.func26.trans (congrArg some (by kernel_rfl))
  f240 := Try.func28.trans (congrArg some (by kernel_rfl))
  f241 := Try.func29.trans (congrArg some (by kernel_rfl))
  f276 := Try.func34.trans (congrArg some (by kernel_rfl))
  f277 := Try.func35.trans (congrArg some (by kernel_rfl))
  t0 := Try.underlying0
  a0 := Try.isAgg0
  z0 := Try.sizeOf0
  v0 := Try.zeroValue0
  t3 := Try.underlying3
  a3 := Try.isAgg3
  z3 := Try.sizeOf3
  v3 := Try.zeroValue3
  t4 := Try.underlying4
  a4 := Try.isAgg4
  z4 := Try.sizeOf4
  v4 := Try.zeroValue4
  t9 := Try.underlying9
  a9 := Try.isAgg9
  z9 := Try.sizeOf9
  v9 := Try.zeroValue9
  t20 := Try.underlying20
  a20 := Try.isAgg20
  z20 := Try.sizeOf20
  v20 := Try.zeroValue20
  t31 := Try.underlying46
  a31 := Try.isAgg46
  z31 := Try.sizeOf46
  v31 := Try.zeroValue46
  t37 := Try.underlying49
  a37 := Try.isAgg49
  z37 := Try.sizeOf49
  v37 := Try.zeroValue49
  t70 := Try.underlying48
  a70 := Try.isAgg48
  z70 := Try.sizeOf48
  v70 := Try.zeroValue48
  t72 := Try.underlying51
  a72 := Try.isAgg51
  z72 := Try.sizeOf51
  v72 := Try.zeroValue51
  t75 := Try.underlying54
  a75 := Try.isAgg54
  z75 := Try.sizeOf54
  v75 := Try.zeroValue54
  t76 := Try.underlying55
  a76 := Try.isAgg55
  z76 := Try.sizeOf55
  v76 := Try.zeroValue55
  t127 := Try.underlying59
  a127 := Try.isAgg59
  z127 := Try.sizeOf59
  v127 := Try.zeroValue59
  t164 := Try.underlying64
  a164 := Try.isAgg64
  z164 := Try.sizeOf64
  v164 := Try.zeroValue64
def laysCr_ren : Go.Shelf.Ren := ⟨fun | 151 => 21 | 152 => 27 | 137 => 30 | 119 => 31 | 224 => 32 | 225 => 33 | 217 => 36 | 266 => 37 | n => n, fun | 9 => 9 | 21 => 21 | 4 => 4 | 3 => 3 | 5 => 5 | 0 => 0 | 46 => 62 | n => n, fun | n => n⟩
theorem laysCr : Go.Proofs.Lays.n151 Try.prog laysCr_ren where
  mixed := by kernel_rfl
  f119 := Try.func31.trans (congrArg some (by kernel_rfl))
  f137 := Try.func30.trans (congrArg some (by kernel_rfl))
  f151 := Try.func21.trans (congrArg some (by kernel_rfl))
  f152 := Try.func27.trans (congrArg some (by kernel_rfl))
  f217 := Try.func36.trans (congrArg some (by kernel_rfl))
  f224 := Try.func32.trans (congrArg some (by kernel_rfl))
  f225 := Try.func33.trans (congrArg some (by kernel_rfl))
  f266 := Try.func37.trans (congrArg some (by kernel_rfl))
  t0 := Try.underlying0
  a0 := Try.isAgg0
  z0 := Try.sizeOf0
  v0 := Try.zeroValue0
  t3 := Try.underlying3
  a3 := Try.isAgg3
  z3 := Try.sizeOf3
  v3 := Try.zeroValue3
  t4 := Try.underlying4
  a4 := Try.isAgg4
  z4 := Try.sizeOf4
  v4 := Try.zeroValue4
  t5 := Try.underlying5
  a5 := Try.isAgg5
  z5 := Try.sizeOf5
  v5 := Try.zeroValue5
  t9 := Try.underlying9
  a9 := Try.isAgg9
  z9 := Try.sizeOf9
  v9 := Try.zeroValue9
  t21 := Try.underlying21
  a21 := Try.isAgg21
  z21 := Try.sizeOf21
  v21 := Try.zeroValue21
  t46 := Try.underlying62
  a46 := Try.isAgg62
  z46 := Try.sizeOf62
  v46 := Try.zeroValue62

theorem exJoin : Builder.Extra Try.prog laysJoin_ren where
  sizeBuilder := by kernel_rfl
  liesBuilder := by kernel_rfl
  t5 := Try.underlying5
  a5 := Try.isAgg5
  z5 := Try.sizeOf5
  v5 := Try.zeroValue5
  infoByte := by kernel_rfl
  cellsByte := by kernel_rfl
  sizeByte := by kernel_rfl
  neB5 := by decide
theorem flat_strs : ∀ l : List (List UInt8), flat (l.map AV.str) = l.map AV.str
  | [] => rfl
  | x :: l => by
    have ih := flat_strs l
    simp only [List.map_cons, flat, List.flatMap_cons] at ih ⊢
    rw [ih]; rfl
theorem enter_of {f : Nat} {fn : Func} (hf : Try.prog.funcs[f]? = some fn) (hb : fn.body.isSome = true) (hn : (fn.name == "runtime.NumGoroutine") = false) (vs : Array Value) (w : World) : (callFunc f vs).run Try.prog w = .ok (.enter f vs) w := by
  obtain ⟨c, hc⟩ := Option.isSome_iff_exists.mp hb
  have hn' : ¬ fn.name = "runtime.NumGoroutine" := by simpa using hn
  simp [callFunc, hf, hn', hc]
theorem c_join (xs : List (List UInt8)) (sep : List UInt8) (hN : xs.length ≤ 140737488355328) (hlen : (Lib.join xs sep).length ≤ 140737488355328) : FC Try.prog 19 [.sl 1 (xs.map AV.str), .str sep] (.v (.str (Lib.join xs sep))) := by
  refine ⟨enter_of Try.func19 rfl rfl, fun M w vals hM hT hn hR => ?_⟩
  have hv : vals.size = 2 := by simpa using hn.symm
  obtain ⟨u, y, rfl⟩ : ∃ u y, vals = #[u, y] := by
    rcases vals with ⟨l⟩
    match l, hv with
    | [u, y], _ => exact ⟨u, y, rfl⟩
  have h0 := hR 0 _ u rfl rfl
  have h1 := str_inv (hR 1 _ y rfl rfl)
  subst h1
  have fin : ∀ (e : Ending) (w' : World), e = .returned (.string ⟨(Lib.join xs sep).toArray⟩) → RowKit.Below w.heap.size w w' →
      ∃ v M', e = .returned v ∧ RowKit.Below w.heap.size w w' ∧ MLe M M' ∧ (∀ b o v, M' b o = some v → M b o = some v ∨ w.heap.size ≤ b) ∧ MemOk M' w' ∧ ResP M' w w' (.v (.str (Lib.join xs sep))) v := fun e w' he hb =>
    ⟨_, M, he, hb, MLe.refl _, fun _ _ _ h => .inl h, fun b o v hv => by
      obtain ⟨q1, q2⟩ := hM b o v hv
      have hlt : b < w.heap.size := by
        by_cases hlt : b < w.heap.size
        · exact hlt
        · have : w.heap[b]? = none := by rw [Array.getElem?_eq_none_iff]; omega
          simp [World.cell?, this] at q1
      exact ⟨(World.cell?_of_block (hb.block b hlt)).trans q1, q2⟩, .v _ _ (.str _)⟩
  rcases sl_inv h0 with ⟨hx, a0, cap, rfl, _, _⟩ | ⟨b, off, cap, vs, rfl, hcap, _, _, hMc, hRc⟩
  · have hx' : xs = [] := by simpa using hx
    subst hx'
    refine (Any.strings_Join_none laysJoin exJoin a0 cap ⟨sep.toArray⟩ w).mono fun e w' ⟨he, hw⟩ => ?_
    subst hw
    exact fin e w' he (RowKit.Below.refl _ _)
  · rw [List.length_map] at hcap ⊢
    have hcells : ∀ (j : Nat) x, (xs.map fun l => (⟨l.toArray⟩ : ByteArray))[j]? = some x → w.cell? ⟨b, off + j, none⟩ = some (.string x) := fun j x hj => by
      rw [List.getElem?_map] at hj
      cases hxj : xs[j]? with
      | none => rw [hxj] at hj; cases hj
      | some l =>
        rw [hxj] at hj
        simp only [Option.map_some, Option.some.injEq] at hj
        subst hj
        have hf : (flat (xs.map AV.str))[j]? = some (.str l) := by rw [flat_strs, List.getElem?_map, hxj]; rfl
        have h2 := hMc j _ hf
        have h3 := str_inv (hRc j _ hf)
        rw [h3] at h2
        exact (hM b (off + j) _ h2).1
    by_cases hxn : xs = []
    · subst hxn
      refine (Any.strings_Join_none laysJoin exJoin (some ⟨b, off, none⟩) cap ⟨sep.toArray⟩ w).mono fun e w' ⟨he, hw⟩ => ?_
      subst hw
      exact fin e w' he (RowKit.Below.refl _ _)
    have hb : b < w.heap.size := by
      obtain ⟨l, r, rfl⟩ := List.exists_cons_of_ne_nil hxn
      have h2 := hcells 0 _ rfl
      by_cases hlt : b < w.heap.size
      · exact hlt
      · have : w.heap[b]? = none := by rw [Array.getElem?_eq_none_iff]; omega
        simp [World.cell?, this] at h2
    have e1 : (xs.map fun l => (⟨l.toArray⟩ : ByteArray)).map (fun x => x.data.toList) = xs := by simp [Function.comp_def]
    have hJ := Any.strings_Join laysJoin exJoin b off cap (xs.map fun l => (⟨l.toArray⟩ : ByteArray)) ⟨sep.toArray⟩ w hcells hb (by simpa using hN) (by simpa using hcap) (by rw [e1]; simpa using hlen)
    rw [e1, List.length_map] at hJ
    refine hJ.mono fun e w' ⟨he, hw⟩ => fin e w' ?_ hw
    rw [he]
end Go.Proofs.Ytenigafbbdjagaa.AL
