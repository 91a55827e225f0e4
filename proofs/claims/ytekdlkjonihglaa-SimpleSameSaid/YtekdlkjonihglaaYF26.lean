/- The plain law of law 06: tables. -/
import Derived.Test.YtekdlkjonihglaaYF25
namespace Go.Proofs.Ytekdlkjonihglaa.AL
open Go
set_option maxRecDepth 20000
def Wd (x : Int) : Prop := ∃ n : Nat, n < 18446744073709551616 ∧ x = (n : Int)
theorem bor_nat {a b : Nat} (ha : a < 18446744073709551616) (hb : b < 18446744073709551616) : bits .or .u64 (a : Int) (b : Int) = ((a ||| b : Nat) : Int) := u64_or_nat a b ha hb
theorem lor_lt {a b : Nat} (ha : a < 18446744073709551616) (hb : b < 18446744073709551616) : a ||| b < 18446744073709551616 := by
  have := Nat.or_lt_two_pow (n := 64) (x := a) (y := b) (by simpa using ha) (by simpa using hb)
  simpa using this
theorem Wd.or {a b : Int} (ha : Wd a) (hb : Wd b) : Wd (bits .or .u64 a b) := by
  obtain ⟨n, h1, rfl⟩ := ha
  obtain ⟨m, h2, rfl⟩ := hb
  rw [bor_nat h1 h2]
  exact ⟨_, lor_lt h1 h2, rfl⟩
theorem bor_assoc {a b c : Int} (ha : Wd a) (hb : Wd b) (hc : Wd c) : bits .or .u64 (bits .or .u64 a b) c = bits .or .u64 a (bits .or .u64 b c) := by
  obtain ⟨n, h1, rfl⟩ := ha
  obtain ⟨m, h2, rfl⟩ := hb
  obtain ⟨q, h3, rfl⟩ := hc
  rw [bor_nat h1 h2, bor_nat (lor_lt h1 h2) h3, bor_nat h2 h3, bor_nat h1 (lor_lt h2 h3), Nat.or_assoc]
theorem bor_zero {a : Int} (ha : Wd a) : bits .or .u64 0 a = a := by
  obtain ⟨n, h1, rfl⟩ := ha
  have := bor_nat (a := 0) (b := n) (by omega) h1
  simpa using this
theorem wd0 : Wd 0 := ⟨0, by omega, rfl⟩
theorem wd_one (i : Int) : Wd (oneF i) := by
  unfold oneF
  split
  · exact wd0
  · rename_i h
    refine ⟨2 ^ i.toNat, ?_, rfl⟩
    have h1 : (2 : Nat) ^ i.toNat < 2 ^ 64 := Nat.pow_lt_pow_right (by omega) (by omega)
    simpa using h1
theorem wd_trm (t : Trm) : Wd (trmTabF t) := by
  unfold trmTabF
  split
  · exact wd0.or (wd_one _)
  · exact wd0
theorem wd_refTrm (t : Trm) : Wd (refTrmTabF t) := trm_tab t ▸ wd_trm t
theorem refL_wd : ∀ {l : List Prd}, (∀ x ∈ l, Wd (refTabsF x)) → ∀ {s : Int}, Wd s → Wd (refTabsL s l)
  | [], _, s, hs => by rw [refTabsL]; exact hs
  | p :: l, h, s, hs => by rw [refTabsL]; exact refL_wd (fun x hx => h x (by simp [hx])) (hs.or (h p (by simp)))
theorem refF_wd (p : Prd) : Wd (refTabsF p) := by
  induction p using Prd.ind
  rename_i p ih
  rw [refTabsF_eq]
  exact refL_wd ih ((wd_refTrm _).or (wd_refTrm _))
theorem refL_or : ∀ (l : List Prd) {s t : Int}, Wd s → Wd t → refTabsL (bits .or .u64 s t) l = bits .or .u64 s (refTabsL t l)
  | [], s, t, _, _ => by simp only [refTabsL]
  | p :: l, s, t, hs, ht => by
    simp only [refTabsL]
    rw [bor_assoc hs ht (refF_wd p), refL_or l hs (ht.or (refF_wd p))]
theorem fold_gath (p : Prd) : ∀ s, Wd s → (gathF tab1F p).foldl (fun a x => bits .or .u64 a x) s = bits .or .u64 s (refTabsF p) := by
  induction p using Prd.ind
  rename_i p ih
  have key : ∀ l : List Prd, (∀ x ∈ l, x ∈ p.parts) → ∀ s, Wd s → (gathL tab1F l).foldl (fun a x => bits .or .u64 a x) s = refTabsL s l := by
    intro l
    induction l with
    | nil => intro _ s _; simp only [gathL, List.foldl_nil, refTabsL]
    | cons x l ihl =>
      intro hl s hs
      simp only [gathL, List.foldl_append, refTabsL]
      rw [ih x (hl x (by simp)) s hs]
      exact ihl (fun y hy => hl y (by simp [hy])) _ (hs.or (refF_wd x))
  intro s hs
  rw [gathF_eq, List.foldl_append, key _ (fun x h => h) _ (by simp only [tab1F, List.foldl_cons, List.foldl_nil]; exact hs.or ((wd_trm _).or (wd_trm _)))]
  simp only [tab1F, List.foldl_cons, List.foldl_nil]
  rw [refTabsF_eq, refL_or _ hs ((wd_trm _).or (wd_trm _)), trm_tab, trm_tab]
/-- The tables that are named: the same by both. -/
theorem tabs_same (p : Prd) : tabsF p = refTabsF p := by
  unfold tabsF
  rw [fold_gath p 0 wd0, bor_zero (refF_wd p)]
end Go.Proofs.Ytekdlkjonihglaa.AL
