/-
  Contracts: texts of runes and folding by the document (newsstandref05.Put, Fold); words by the document (newsstandref06.Words).
-/
import Derived.Test.YtnnfgbnnodcepaaWF
namespace Go.Proofs.Ytnnfgbnnodcepaa
open Go.RowKit Go.Lib

theorem str_of {w : World} {G : Nat → Prop} {A : Option Addr} {n c : Nat} {l : List UInt8} (hr : Rd w G 1 A n (byteCells l)) : (convert 40 9 (.slice A n c)).run Try.prog w = .ok (.string (ofB l)) w := by
  have hl : l.length = n := by have := hr.1; rw [byteCells_length] at this; omega
  subst hl
  rcases A with _ | ad
  · have h0 : l = [] := by
      rcases l with _ | ⟨a, l⟩
      · rfl
      · obtain ⟨ad, h, -⟩ := hr.2 (by simp)
        cases h
    subst h0
    exact run_convert_bytes_nil w 40 5 Try.underlying40 Try.underlying5 0 c 9 Try.underlying9
  · refine run_convert_bytes_back w 40 9 5 ad c l Try.underlying40 Try.underlying5 Try.underlying9 fun j hj => ?_
    obtain ⟨ad', e, -, -, hc⟩ := hr.2 (by omega)
    injection e with e
    subst e
    exact hc j _ (by simp [byteCells, List.getElem?_eq_getElem hj])
theorem byteCells_one (l : List UInt8) : ∀ u ∈ byteCells l, u.oneCell' = true := by
  intro u hu
  obtain ⟨x, -, rfl⟩ := List.mem_map.1 hu
  rfl

set_option maxRecDepth 100000 in
set_option maxHeartbeats 1000000 in
theorem Put_any (A : Option Addr) (n c : Nat) (l : List Nat) (hv : ∀ r ∈ l, Vr r) (hl : l.length = n) (hn : n ≤ 10000000) (G : Nat → Prop) (w : World) (hr : Rd w G 1 A n (rvs l)) (hlt : ∀ k, G k → k < w.heap.size) :
    Calls Try.prog 22 #[.slice A n c] w fun e w' => e = .returned (.string (ofB (enc l))) ∧ Frm Nix w w' := by
  have HR := Lib.hid hr
  have HL := Lib.hid hl
  have HV := Lib.hid hv
  clear hr hl hv
  go_enter Try.func22, Try.ntmps22
  go_wp2
  go_loopw [3, 4] (fun v i wr => ∃ k : Nat, k ≤ n ∧ i = .int .i64 k ∧ RowIn 5 w wr v (enc (l.take k)).length (byteCells (enc (l.take k)))) (fun _ i _ => n - (intOf i).toNat)
  case atStart => exact ⟨0, Nat.zero_le _, rfl, RowIn.nil_ _ (Frm.refl _ _)⟩
  case round =>
    obtain ⟨k, hk, rfl, hrow⟩ := hrel
    have HRow := Lib.hid hrow
    obtain ⟨B, c', rfl, -, -, -, -⟩ := hrow.shape
    clear hrow
    by_cases hlt2 : k < n
    · have hkl : k < l.length := by rw [HL.out]; exact hlt2
      obtain ⟨ad, u, rfl, hG, hla, hu, hcu⟩ := HR.out.at_ hlt2
      rw [rvs_at l k hkl] at hu
      injection hu with hu
      subst hu
      have cr := (HRow.out.frm.cell (p := ad.add k) (by rw [block_of_add]; exact hla) id).trans hcu
      have hx := HV.out l[k] (List.getElem_mem hkl)
      have KO := Lib.hid (one_any l[k] hx wr)
      have hts := enc_take_succ l k hkl
      have hel := enc_len (l.take k)
      have htl := List.length_take_le k l
      have hr4 := runeCells_le (l[k] : Int)
      have e2 : byteCells (encR l[k]) = runeCells (l[k] : Int) := byteCells_encodeRune _
      have e3 : (encR l[k]).length = (runeCells (l[k] : Int)).length := by rw [runeCells_length]; rfl
      have hrow2 := HRow.out.more ((Frm.refl Nix wr).alloc (.cells (runeCells (l[k] : Int)).toArray 5))
      obtain ⟨v2, w2, hrun, hrow3, -, -⟩ := hrow2.app elemB (m := (runeCells (l[k] : Int)).length) (ys := runeCells (l[k] : Int)) (runeCells (l[k] : Int)).length (Rd.of_obj (heap_alloc_new wr (.cells (runeCells (l[k] : Int)).toArray 5)) (runeCells (l[k] : Int)).length (by simp)) (by rw [← e2]; exact byteCells_one _) (by unfold maxLen; omega) (by omega)
      have HR3 : Hid (RowIn 5 w w2 v2 (enc (l.take (k + 1))).length (byteCells (enc (l.take (k + 1))))) := by
        unfold Hid
        rw [hts, List.length_append, byteCells_append, e2, e3]
        exact hrow3
      have hk0 : (0 : Int) ≤ (k : Int) := Int.natCast_nonneg _
      have hk1 : (k : Int) < (n : Int) := by omega
      clear hts hel htl hr4 e2 e3 hrow2 hrow3 hcu hx
      generalize l[k] = R at *
      go_wp2_with (first
        | (go_at_call 36; refine KO.out.mono ?_; rintro e w' ⟨rfl, rfl⟩)
        | (at_builtin; refine wpList_append_run hrun rfl _ _ rfl rfl rfl ?_))
      go_roundw
      case rel => exact ⟨k + 1, by omega, by go_num, HR3.out⟩
      case measure => simp [intOf]; omega
    · obtain rfl : k = n := by omega
      have HS := Lib.hid (str_of (c := c') HRow.out.rd)
      have HE : Hid (l.take k = l) := List.take_of_length_le (by rw [HL.out]; exact Nat.le_refl _)
      have HF := Lib.hid HRow.out.frm
      have hS := HS.out
      rw [HE.out] at hS
      rw [HE.out]
      generalize hE : ofB (enc l) = S at *
      generalize (enc l).length = N at *
      have HES := Lib.hid hE
      clear hE
      go_wp2
      go_ret
      exact ⟨by rw [HES.out]; rfl, HF.out⟩

/-- the row when k runes have been folded. -/
def mixR (l : List Nat) (k : Nat) : List Value := rvs (((l.take k).map foldR) ++ l.drop k)
theorem mixR_at (l : List Nat) (k : Nat) (h : k < l.length) : (mixR l k)[k]? = some (.int .i32 (l[k] : Int)) := by
  have hl : ((l.take k).map foldR).length = k := by simp; omega
  unfold mixR rvs
  rw [List.getElem?_map, List.getElem?_append_right (by omega), hl, Nat.sub_self, List.drop_eq_getElem_cons h]
  rfl
theorem mixR_set (l : List Nat) (k : Nat) (h : k < l.length) : (mixR l k).set k (.int .i32 (foldR l[k] : Int)) = mixR l (k + 1) := by
  have hl : ((l.take k).map foldR).length = k := by simp; omega
  unfold mixR rvs
  rw [← List.map_set (f := fun r : Nat => Value.int .i32 (r : Int)) (a := foldR l[k]), List.set_append_right _ _ (by omega), hl, Nat.sub_self, List.drop_eq_getElem_cons h, List.take_succ_eq_append_getElem h]
  simp only [List.set_cons_zero, List.map_append, List.map_cons, List.map_nil, List.append_assoc, List.singleton_append]

set_option maxRecDepth 100000 in
set_option maxHeartbeats 1000000 in
theorem rFold_any (s : ByteArray) (w : World) (hs : s.size ≤ 1000000) :
    Calls Try.prog 20 #[.string s] w fun e w' => e = .returned (.string (ofB (foldS (bys s)))) ∧ Frm Nix w w' := by
  have hrl := runesD_len (bys s)
  rw [← size_bys] at hrl
  have hval := runesD_valid (bys s)
  have KR := Lib.hid (Runes_any s w hs)
  have HFS : Hid (foldS (bys s) = enc ((runesD (bys s)).map foldR)) := rfl
  have HV := Lib.hid hval
  generalize runesD (bys s) = l at *
  clear hval
  go_enter Try.func20, Try.ntmps20
  go_wp2_with fail
  refine KR.out.mono ?_
  rintro e w1 ⟨A, c, rfl, hrow0⟩
  have HR0 : Hid (RowIn 21 w w1 (.slice A l.length c) l.length (mixR l 0)) := by
    unfold Hid
    have : mixR l 0 = rvs l := by simp [mixR]
    rw [this]
    exact hrow0
  clear hrow0
  go_wp2
  go_loopw [4] (fun i wr => ∃ k : Nat, k ≤ l.length ∧ i = .int .i64 k ∧ RowIn 21 w wr (.slice A l.length c) l.length (mixR l k)) (fun i _ => l.length - (intOf i).toNat)
  case atStart => exact ⟨0, Nat.zero_le _, rfl, HR0.out⟩
  case round =>
    obtain ⟨k, hk, rfl, hrow⟩ := hrel
    have HRow := Lib.hid hrow
    clear HR0
    by_cases hlt : k < l.length
    · obtain ⟨g, rfl, hcell, hfz, hrow2, -, hgl⟩ := hrow.set_ k hlt (.int .i32 (foldR l[k] : Int))
      rw [mixR_at l k hlt] at hcell
      rw [mixR_set l k hlt] at hrow2
      have HR2 := Lib.hid hrow2
      have hx := HV.out l[k] (List.getElem_mem hlt)
      have hR : l[k] ≤ 1114111 := by unfold Vr at hx; omega
      have KF := rfold_any l[k] wr hR
      have hk0 : (0 : Int) ≤ (k : Int) := Int.natCast_nonneg _
      have hk1 : (k : Int) < (l.length : Int) := by omega
      clear hrow hrow2 hx
      generalize l[k] = R at *
      go_wp2_with (go_at_call 35; refine KF.mono ?_; rintro e w' ⟨rfl, rfl⟩)
      go_roundw
      case rel => exact ⟨k + 1, by omega, by go_num, HR2.out⟩
      case measure => simp [intOf]; omega
    · obtain rfl : k = l.length := by omega
      have e1 : mixR l l.length = rvs (l.map foldR) := by simp [mixR]
      rw [e1] at hrow
      have hvl : ∀ r ∈ l.map foldR, Vr r := fun r hr => by
        obtain ⟨x, hx, rfl⟩ := List.mem_map.1 hr
        exact foldR_valid (HV.out x hx)
      have KP := Lib.hid (Put_any A l.length c (l.map foldR) hvl (by simp) (by omega) _ wr hrow.rd (fun k hk => (hrow.own.lt k hk).2))
      have HF := Lib.hid hrow.frm
      clear hrow e1 hvl
      go_wp2_with fail
      refine KP.out.mono ?_
      rintro e w3 ⟨rfl, f3⟩
      go_wp2
      go_ret
      exact ⟨by rw [HFS.out]; rfl, HF.out.trans f3⟩
end Go.Proofs.Ytnnfgbnnodcepaa
