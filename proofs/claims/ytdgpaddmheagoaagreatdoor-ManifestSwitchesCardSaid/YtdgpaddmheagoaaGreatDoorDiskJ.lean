/-
  Contracts of the disk package: cut, Crash.
-/
import Derived.Test.YtdgpaddmheagoaaGreatDoorDiskH
import Derived.Test.YtdgpaddmheagoaaGreatDoorIter
namespace Go.Proofs.YtdgpaddmheagoaaGreatDoor
open Go.RowKit Go.Maps Go.Sort

def RU : Value → Option (DataW Unit × List MemPlace) := fun _ => some (.nil, [])

section
variable {w : World} {B g m clock : Nat} {D : Dsk} {R : List Rep}
theorem size_of_ok {s : ByteArray} (h : nameOk s = true) : s.size ≤ 24 := by
  simp [nameOk] at h
  omega
theorem DiskAt.nameLe (h : DiskAt w B g m D R clock) {r : Rep} (hr : r ∈ R) : r.fil.name.size ≤ 24 := size_of_ok (h.ok.nm _ (h.filMem hr))
def litOf (r : Rep) : Lit × DataW Unit := (.string (bl r.fil.name), .nil)
theorem DiskAt.rd_ent (h : DiskAt w B g m D R clock) {r : Rep} (hr : r ∈ R) : WideElems.rd Tryz.prog 9 RU r.ent.me = some (litOf r) := by
  have := h.nameLe hr
  have hle : r.fil.name.size ≤ maxLen := by unfold maxLen; omega
  simp [WideElems.rd, keyOf, mapKey, Tryz.underlying9, Ent.me, Rep.ent, RU, litOf, hle]
theorem DiskAt.owns (h : DiskAt w B g m D R clock) : w.ownsMap Tryz.prog 9 RU m R.length (.map ((R.map litOf).foldr DataW.insert [])) := by
  have hcnt : R.length ≤ 64 := by
    have := h.ok.cnt
    rw [h.perm.length_eq, List.length_map] at this
    exact this
  refine ⟨_, clock, h.map, ⟨by unfold maxLen; simp; omega, ?_, ?_⟩, by simp, ?_⟩
  · rw [MapKept.stamped_iff]
    refine ⟨?_, ?_, ?_⟩
    · intro x hx
      simp only [List.map_map, List.mem_map] at hx
      obtain ⟨r, hr, rfl⟩ := hx
      exact h.born r hr
    · simpa [List.map_map, Function.comp_def, Ent.me, Rep.ent] using h.borns
    · simp only [List.map_map, List.pairwise_map]
      exact h.names.imp fun {a b} hab (e : Value.string a.fil.name = Value.string b.fil.name) => hab (by injection e)
  · intro x hx
    simp only [List.map_map, List.mem_map] at hx
    obtain ⟨r, hr, rfl⟩ := hx
    exact ⟨_, h.rd_ent hr⟩
  · congr 1
    congr 1
    simp only [List.map_map]
    refine List.map_congr_left fun r hr => ?_
    simp only [Function.comp_def, WideElems.rg, h.rd_ent hr]
    rfl

theorem keys_perm (R : List Rep) : (strKeys (.map ((R.map litOf).foldr DataW.insert []) : DataW Unit)).Perm (R.map fun r => bl r.fil.name) := by
  have h1 := (WideShapes.sorted_perm (R.map litOf)).map (fun p : Lit × DataW Unit => strOf p.1)
  rw [List.map_map] at h1
  exact h1

theorem mergeSort_names (h : DiskAt w B g m D R clock) {ss : List (List UInt8)} (hp : ss.Perm (R.map fun r => bl r.fil.name)) : ss.mergeSort (fun x y => decide (x ≤ y)) = D.L.map fun f => bl f.name := by
  have hp2 : ss.Perm (D.L.map fun f => bl f.name) := by
    refine hp.trans ?_
    have := (h.perm.map fun f => bl f.name).symm
    rw [List.map_map] at this
    exact this
  have hs : (D.L.map fun f => bl f.name).Pairwise fun x y => x ≤ y := by
    rw [List.pairwise_map]
    exact List.Pairwise.imp (fun {a b : Fil} (hab : bl a.name < bl b.name) => List.le_of_lt hab) h.ok.sorted
  have hm : (ss.mergeSort (fun x y => decide (x ≤ y))).Pairwise fun x y => decide (x ≤ y) = true :=
    List.pairwise_mergeSort (fun a b c h1 h2 => by simp only [decide_eq_true_eq] at *; exact List.le_trans h1 h2) (fun a b => by
      simp only [Bool.or_eq_true, decide_eq_true_eq]; exact List.le_total a b) ss
  have hm' : (ss.mergeSort (fun x y => decide (x ≤ y))).Pairwise fun x y => x ≤ y := hm.imp fun h => by simpa using h
  exact ((List.mergeSort_perm ss _).trans hp2).eq_of_pairwise (fun _ _ _ _ hab hba => List.le_antisymm hab hba) hm' hs
theorem encStr_bl (s : ByteArray) : encStr (bl s) = .string s := rfl
end

set_option maxRecDepth 100000 in
theorem Names_nil (w : World) : Calls Tryz.prog 41 #[.pointer none] w fun e w' => e = .returned (.slice none 0 0) ∧ w = w' := by
  go_enter Tryz.func41, Tryz.ntmps41
  go_wp2
  go_ret
  exact ⟨rfl, rfl⟩

def NamesOut (w : World) (L : List Fil) (e : Ending) (w' : World) : Prop :=
  ∃ v, e = .returned v ∧ w'.ownsRow w.heap.size 9 1 v L.length (L.map fun f => .string f.name) ∧ Frm Nix w w'

set_option maxRecDepth 100000 in
theorem Names_any {B g : Nat} {F : Nat → Prop} {D : Dsk} {w : World} (h : Dk w B g F D) :
    Calls Tryz.prog 41 #[.pointer (some ⟨g, 0, none⟩)] w (NamesOut w D.L) := by
  obtain ⟨m, R, clock, h, -⟩ := h
  have c0 := h.blk.cell 0
  simp at c0
  have hcnt : R.length ≤ 64 := by
    have := h.ok.cnt
    rw [h.perm.length_eq, List.length_map] at this
    exact this
  have hsize : Maps.size (.map ((R.map litOf).foldr DataW.insert []) : DataW Unit) = R.length := by
    show ((R.map litOf).foldr DataW.insert []).length = _
    rw [length_sorted, List.length_map]
  have HK := Lib.hid (callsIn_wide.1 (Tryz.maps_Keys_73 (some m) w))
  have HS := Lib.hid (callsIn_wide.1 (Tryz.slices_Sorted_keys_72_73 m R.length _ RU w h.owns (by rw [hsize]; unfold maxLen; omega) (by rw [hsize]; omega)))
  have HD := Lib.hid h
  clear h hsize
  go_enter Tryz.func41, Tryz.ntmps41
  go_wp2_with (first | (go_at_call 73; refine HK.out.mono ?_; rintro e w' ⟨rfl, rfl⟩) | (go_at_call 72; refine HS.out.mono ?_; rintro e w' ⟨v, ss, rfl, hp, hown, -, hb⟩))
  go_ret
  have hp2 := hp.trans (keys_perm R)
  have hlen : ss.length = D.L.length := by rw [hp2.length_eq, List.length_map, HD.out.perm.length_eq, List.length_map]
  rw [mergeSort_names HD.out hp2, List.map_map, hlen] at hown
  refine ⟨v, rfl, own_base hown fun k hk => ?_, ((Frm.refl Nix w).alloc _).more (Frm.of_below hb)⟩
  have := (hown.lt k hk).1
  simp at this
  omega
end Go.Proofs.YtdgpaddmheagoaaGreatDoor

namespace Go.Proofs.YtdgpaddmheagoaaGreatDoor
open Go.RowKit

def cutN (keep : Int) (len safe : Nat) : Nat := min (max keep 0).toNat (len - safe)
theorem cutN_le (keep : Int) (len safe : Nat) : cutN keep len safe ≤ len - safe := Nat.min_le_right _ _

set_option maxRecDepth 100000 in
set_option maxHeartbeats 1000000 in
theorem cut_any (fb : Nat) (A : Option Addr) (n c safe : Nat) (keep : Int) (w : World) (hb : Blk w fb 86 #[.slice A n c, .int .i64 safe]) (hs : safe ≤ n) (hn : n ≤ 16777216) (hc : n ≤ c) :
    Calls Tryz.prog 67 #[.pointer (some ⟨fb, 0, none⟩), .int .i64 keep] w fun e w' => e = .returned (.tuple #[]) ∧ Blk w' fb 86 #[.slice A (safe + cutN keep n safe) c, .int .i64 ↑(safe + cutN keep n safe)] ∧ Frm (fun k => k = fb) w w' := by
  have c0 := hb.cell 0
  have c1 := hb.cell 1
  have f0 := hb.frozen 0
  have f1 := hb.frozen 1
  simp at c0 c1
  have HB := Lib.hid hb
  clear hb
  go_enter Tryz.func67, Tryz.ntmps67
  go_wp2
  go_quiet (fail)
  have e : min (max keep 0) ((n : Int) - safe) = ((cutN keep n safe : Nat) : Int) := by unfold cutN; omega
  rw [e]
  clear e
  have hk := cutN_le keep n safe
  generalize hK : cutN keep n safe = k at hk ⊢
  have HK := Lib.hid hK
  clear hK
  go_wp2
  have hw1 : IntKind.i64.wrap ((safe : Int) + k) = (safe : Int) + k := IntWalk.i64_in _ (by omega)
  have hw2 : (0 : Int) ≤ (safe : Int) + k := by omega
  have hw3 : (safe : Int) + k ≤ (c : Int) := by omega
  go_region
  clear hw1 hw2 hw3
  go_wp2
  go_end0
  rw [HK.out]
  refine ⟨rfl, ?_, ((((Frm.refl (fun k => k = fb) w).drewN _).setCell (.inl rfl) _).setCell (.inl rfl) _)⟩
  have h1 : Blk (w.drewN (nq + 1)) fb 86 #[.slice A n c, .int .i64 safe] := HB.out
  have h2 := (h1.set_ 0 (.slice A (safe + k) c)).set_ 1 (.int .i64 ((safe : Int) + k))
  simpa using h2

/-! ### the plain law of a crash -/

def cntU (L : List Fil) : Nat := (L.filter fun f => decide (f.safe ≠ f.b.length)).length
def crash1 (f : Fil) (ks : List Int) (j : Nat) : Fil := if f.safe = f.b.length then f else f.cut (ks.getD j 0)
theorem crashL_snoc (f : Fil) : ∀ (L : List Fil) (ks : List Int), crashL (L ++ [f]) ks = crashL L ks ++ [crash1 f ks (cntU L)]
  | [], ks => by
    simp only [List.nil_append, crashL, crash1, cntU]
    split
    · rfl
    · cases ks <;> rfl
  | a :: L, ks => by
    simp only [List.cons_append, crashL]
    split
    · rename_i h
      rw [crashL_snoc f L ks]
      have : cntU (a :: L) = cntU L := by simp [cntU, h]
      rw [this]
      rfl
    · rename_i h
      rw [crashL_snoc f L ks.tail]
      have : cntU (a :: L) = cntU L + 1 := by simp [cntU, h]
      rw [this]
      simp only [List.cons_append, crash1]
      congr 3
      cases ks <;> simp
theorem crash1_name (f : Fil) (ks : List Int) (j : Nat) : (crash1 f ks j).name = f.name := by
  unfold crash1
  split <;> rfl
theorem crashL_names : ∀ (L : List Fil) (ks : List Int), (crashL L ks).map (·.name) = L.map (·.name)
  | [], _ => rfl
  | a :: L, ks => by
    unfold crashL
    split
    · simp [crashL_names L ks]
    · simp [crashL_names L ks.tail, Fil.cut]
theorem crashL_len (L : List Fil) (ks : List Int) : (crashL L ks).length = L.length := by
  have := congrArg List.length (crashL_names L ks)
  simpa using this
theorem putF_mid {f f' : Fil} : ∀ {P S : List Fil}, SortedF (P ++ f :: S) → f'.name = f.name → putF f' (P ++ f :: S) = P ++ f' :: S
  | [], S, _, hn => by
    simp only [List.nil_append, putF, hn]
    rw [if_neg (ltN_irrefl _)]
    simp
  | a :: P, S, h, hn => by
    obtain ⟨h1, h2⟩ := List.pairwise_cons.1 h
    have hlt : ltN a.name f'.name := by rw [hn]; exact h1 f (by simp)
    simp only [List.cons_append, putF]
    rw [if_pos hlt, putF_mid h2 hn]

/-- behind the first i files. -/
def crashTo (L : List Fil) (ks : List Int) (i : Nat) : List Fil := crashL (L.take i) ks ++ L.drop i
theorem crashTo_zero (L : List Fil) (ks : List Int) : crashTo L ks 0 = L := by simp [crashTo, crashL]
theorem crashTo_all (L : List Fil) (ks : List Int) : crashTo L ks L.length = crashL L ks := by simp [crashTo]
theorem crashTo_split (L : List Fil) (ks : List Int) (i : Nat) (h : i < L.length) : crashTo L ks i = crashL (L.take i) ks ++ L[i] :: L.drop (i + 1) := by
  unfold crashTo
  rw [List.drop_eq_getElem_cons h]
theorem crashTo_succ (L : List Fil) (ks : List Int) (i : Nat) (h : i < L.length) : crashTo L ks (i + 1) = crashL (L.take i) ks ++ crash1 L[i] ks (cntU (L.take i)) :: L.drop (i + 1) := by
  unfold crashTo
  rw [List.take_succ_eq_append_getElem h, crashL_snoc]
  simp
theorem crashTo_put (L : List Fil) (ks : List Int) (i : Nat) (h : i < L.length) (hs : SortedF (crashTo L ks i)) : crashTo L ks (i + 1) = putF (crash1 L[i] ks (cntU (L.take i))) (crashTo L ks i) := by
  rw [crashTo_succ L ks i h]
  rw [crashTo_split L ks i h] at hs ⊢
  rw [putF_mid hs (crash1_name _ _ _)]
theorem crashTo_same (L : List Fil) (ks : List Int) (i : Nat) (h : i < L.length) (hf : L[i].safe = L[i].b.length) : crashTo L ks (i + 1) = crashTo L ks i := by
  rw [crashTo_succ L ks i h, crashTo_split L ks i h]
  simp [crash1, hf]
theorem cntU_succ (L : List Fil) (i : Nat) (h : i < L.length) : cntU (L.take (i + 1)) = cntU (L.take i) + (if L[i].safe = L[i].b.length then 0 else 1) := by
  rw [List.take_succ_eq_append_getElem h]
  unfold cntU
  rw [List.filter_append, List.length_append]
  by_cases e : L[i].safe = L[i].b.length <;> simp [e]
theorem cntU_le (L : List Fil) (i : Nat) : cntU (L.take i) ≤ i := by
  have h1 := List.length_filter_le (fun f : Fil => decide (f.safe ≠ f.b.length)) (L.take i)
  have h2 := List.length_take_le i L
  unfold cntU
  omega
end Go.Proofs.YtdgpaddmheagoaaGreatDoor
