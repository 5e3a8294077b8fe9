/-
  Contracts of the disk package: cut, Crash.
-/
import Derived.Test.YtdgpaddmheagoaaDoorDiskI
namespace Go.Proofs.YtdgpaddmheagoaaDoor
open Go.RowKit

def cutN (keep : Int) (len safe : Nat) : Nat := min (max keep 0).toNat (len - safe)
theorem cutN_le (keep : Int) (len safe : Nat) : cutN keep len safe ≤ len - safe := Nat.min_le_right _ _

set_option maxRecDepth 100000 in
set_option maxHeartbeats 1000000 in
theorem cut_any (fb : Nat) (A : Option Addr) (n c safe : Nat) (keep : Int) (w : World) (hb : Blk w fb 73 #[.slice A n c, .int .i64 safe]) (hs : safe ≤ n) (hn : n ≤ 16777216) (hc : n ≤ c) :
    Calls Tryd.prog 43 #[.pointer (some ⟨fb, 0, none⟩), .int .i64 keep] w fun e w' => e = .returned (.tuple #[]) ∧ Blk w' fb 73 #[.slice A (safe + cutN keep n safe) c, .int .i64 ↑(safe + cutN keep n safe)] ∧ Frm (fun k => k = fb) w w' := by
  have c0 := hb.cell 0
  have c1 := hb.cell 1
  have f0 := hb.frozen 0
  have f1 := hb.frozen 1
  simp at c0 c1
  have HB := Lib.hid hb
  clear hb
  go_enter Tryd.func43, Tryd.ntmps43
  go_wp2
  go_quiet (fail)
  have e : min (max keep 0) ((n : Int) - safe) = ((cutN keep n safe : Nat) : Int) := by unfold cutN; omega
  rw [e]
  clear e
  have hk := cutN_le keep n safe
  generalize hK : cutN keep n safe = k at hk ⊢
  have HK := Lib.hid hK
  clear hK
  go_wp2
  have hw1 : IntKind.i64.wrap ((safe : Int) + k) = (safe : Int) + k := IntWalk.i64_in _ (by omega)
  have hw2 : (0 : Int) ≤ (safe : Int) + k := by omega
  have hw3 : (safe : Int) + k ≤ (c : Int) := by omega
  go_region
  clear hw1 hw2 hw3
  go_wp2
  go_end0
  rw [HK.out]
  refine ⟨rfl, ?_, ((((Frm.refl (fun k => k = fb) w).drewN _).setCell (.inl rfl) _).setCell (.inl rfl) _)⟩
  have h1 : Blk (w.drewN (nq + 1)) fb 73 #[.slice A n c, .int .i64 safe] := HB.out
  have h2 := (h1.set_ 0 (.slice A (safe + k) c)).set_ 1 (.int .i64 ((safe : Int) + k))
  simpa using h2

/-! ### the plain law of a crash -/

def cntU (L : List Fil) : Nat := (L.filter fun f => decide (f.safe ≠ f.b.length)).length
def crash1 (f : Fil) (ks : List Int) (j : Nat) : Fil := if f.safe = f.b.length then f else f.cut (ks.getD j 0)
theorem crashL_snoc (f : Fil) : ∀ (L : List Fil) (ks : List Int), crashL (L ++ [f]) ks = crashL L ks ++ [crash1 f ks (cntU L)]
  | [], ks => by
    simp only [List.nil_append, crashL, crash1, cntU]
    split
    · rfl
    · cases ks <;> rfl
  | a :: L, ks => by
    simp only [List.cons_append, crashL]
    split
    · rename_i h
      rw [crashL_snoc f L ks]
      have : cntU (a :: L) = cntU L := by simp [cntU, h]
      rw [this]
      rfl
    · rename_i h
      rw [crashL_snoc f L ks.tail]
      have : cntU (a :: L) = cntU L + 1 := by simp [cntU, h]
      rw [this]
      simp only [List.cons_append, crash1]
      congr 3
      cases ks <;> simp
theorem crash1_name (f : Fil) (ks : List Int) (j : Nat) : (crash1 f ks j).name = f.name := by
  unfold crash1
  split <;> rfl
theorem crashL_names : ∀ (L : List Fil) (ks : List Int), (crashL L ks).map (·.name) = L.map (·.name)
  | [], _ => rfl
  | a :: L, ks => by
    unfold crashL
    split
    · simp [crashL_names L ks]
    · simp [crashL_names L ks.tail, Fil.cut]
theorem crashL_len (L : List Fil) (ks : List Int) : (crashL L ks).length = L.length := by
  have := congrArg List.length (crashL_names L ks)
  simpa using this
theorem putF_mid {f f' : Fil} : ∀ {P S : List Fil}, SortedF (P ++ f :: S) → f'.name = f.name → putF f' (P ++ f :: S) = P ++ f' :: S
  | [], S, _, hn => by
    simp only [List.nil_append, putF, hn]
    rw [if_neg (ltN_irrefl _)]
    simp
  | a :: P, S, h, hn => by
    obtain ⟨h1, h2⟩ := List.pairwise_cons.1 h
    have hlt : ltN a.name f'.name := by rw [hn]; exact h1 f (by simp)
    simp only [List.cons_append, putF]
    rw [if_pos hlt, putF_mid h2 hn]

/-- behind the first i files. -/
def crashTo (L : List Fil) (ks : List Int) (i : Nat) : List Fil := crashL (L.take i) ks ++ L.drop i
theorem crashTo_zero (L : List Fil) (ks : List Int) : crashTo L ks 0 = L := by simp [crashTo, crashL]
theorem crashTo_all (L : List Fil) (ks : List Int) : crashTo L ks L.length = crashL L ks := by simp [crashTo]
theorem crashTo_split (L : List Fil) (ks : List Int) (i : Nat) (h : i < L.length) : crashTo L ks i = crashL (L.take i) ks ++ L[i] :: L.drop (i + 1) := by
  unfold crashTo
  rw [List.drop_eq_getElem_cons h]
theorem crashTo_succ (L : List Fil) (ks : List Int) (i : Nat) (h : i < L.length) : crashTo L ks (i + 1) = crashL (L.take i) ks ++ crash1 L[i] ks (cntU (L.take i)) :: L.drop (i + 1) := by
  unfold crashTo
  rw [List.take_succ_eq_append_getElem h, crashL_snoc]
  simp
theorem crashTo_put (L : List Fil) (ks : List Int) (i : Nat) (h : i < L.length) (hs : SortedF (crashTo L ks i)) : crashTo L ks (i + 1) = putF (crash1 L[i] ks (cntU (L.take i))) (crashTo L ks i) := by
  rw [crashTo_succ L ks i h]
  rw [crashTo_split L ks i h] at hs ⊢
  rw [putF_mid hs (crash1_name _ _ _)]
theorem crashTo_same (L : List Fil) (ks : List Int) (i : Nat) (h : i < L.length) (hf : L[i].safe = L[i].b.length) : crashTo L ks (i + 1) = crashTo L ks i := by
  rw [crashTo_succ L ks i h, crashTo_split L ks i h]
  simp [crash1, hf]
theorem cntU_succ (L : List Fil) (i : Nat) (h : i < L.length) : cntU (L.take (i + 1)) = cntU (L.take i) + (if L[i].safe = L[i].b.length then 0 else 1) := by
  rw [List.take_succ_eq_append_getElem h]
  unfold cntU
  rw [List.filter_append, List.length_append]
  by_cases e : L[i].safe = L[i].b.length <;> simp [e]
theorem cntU_le (L : List Fil) (i : Nat) : cntU (L.take i) ≤ i := by
  have h1 := List.length_filter_le (fun f : Fil => decide (f.safe ≠ f.b.length)) (L.take i)
  have h2 := List.length_take_le i L
  unfold cntU
  omega
end Go.Proofs.YtdgpaddmheagoaaDoor
