/-
  DiskStops: for every input the law 'the power goes at the deed that was told, and no deed behind it is done' returns true, and its arguments read as they did. No condition.
-/
import Derived.Test.YthhkblogocoeeaaRows
import Derived.Test.YthhkblogocoeeaaRefA
import Derived.OpenShut
import Derived.ShutString
import Derived.ChangeOld
namespace Go.Proofs.Ythhkblogocoeeaa
open Go.ChangeShapes Go.WideShapes Go.ChangeAt Go.RowKit

namespace diskStops

/-- a disk behind k appends, the power to go behind n deeds. -/
structure St (n : Int) (k : Nat) (D : Dsk) : Prop where
  q : D.quota = 1048576
  l : D.L.length ≤ k
  u : usedL D.L ≤ k
  lo : (k : Int) ≤ n → D.off = false ∧ D.left = n - k ∧ D.deeds = k
  hi : n < (k : Int) → D.off = true ∧ (D.deeds : Int) = n

theorem used_putF_le {f : Fil} {L : List Fil} (h : SortedF L) : usedL (putF f L) ≤ f.b.length + usedL L := by
  rw [used_put h]
  have := used_del_le f.name L
  omega
theorem St.step {n : Int} {k : Nat} {D : Dsk} {s : ByteArray} (h : St n k D) (hok : D.Ok) (hs : nameOk s = true) (hk : k < 50) :
    St n (k + 1) (D.append s [1]).1 ∧ (D.append s [1]).2 = if (k : Int) < n then 0 else 30 := by
  by_cases hn : n < (k : Int)
  · obtain ⟨ho, hdd⟩ := h.hi hn
    have e : D.append s [1] = (D, 30) := by simp [Dsk.append, ho]
    rw [e, if_neg (by omega)]
    exact ⟨⟨h.q, by have := h.l; show D.L.length ≤ k + 1; omega, by have := h.u; show usedL D.L ≤ k + 1; omega, fun hc => by omega, fun _ => ⟨ho, hdd⟩⟩, rfl⟩
  · obtain ⟨ho, hl, hdd⟩ := h.lo (by omega)
    have hfull : D.full s [1] = false := by
      have := h.l
      have := h.u
      have := h.q
      simp [Dsk.full]
      omega
    have e : D.append s [1] = (D.appendTo s [1]).deed := by simp [Dsk.append, ho, hs, hfull]
    rw [e]
    obtain ⟨L', hL, h1, h2⟩ : ∃ L', D.appendTo s [1] = { D with L := L' } ∧ L'.length ≤ k + 1 ∧ usedL L' ≤ k + 1 := by
      have hl0 := h.l
      have hu0 := h.u
      unfold Dsk.appendTo
      cases hf : findF s D.L with
      | none =>
        refine ⟨_, rfl, ?_, ?_⟩
        · have h3 := len_put (f := ⟨s, [1], 0⟩) hok.sorted
          have h4 := len_del_le s D.L
          simp only at h3
          omega
        · have h3 := used_putF_le (f := ⟨s, [1], 0⟩) hok.sorted
          simp only [List.length_singleton] at h3
          omega
      | some f =>
        obtain ⟨hf1, hf2⟩ := findF_some hf
        refine ⟨_, rfl, ?_, ?_⟩
        · have h3 := len_put (f := { f with b := f.b ++ [1] }) hok.sorted
          have h4 := len_del_le f.name D.L
          simp only at h3
          omega
        · have h3 := used_put (f := { f with b := f.b ++ [1] }) hok.sorted
          have h4 := used_del hok.sorted hf
          rw [← hf2] at h4
          simp only [List.length_append, List.length_singleton] at h3
          omega
    rw [hL]
    by_cases hz : D.left = 0
    · have e2 : ({ D with L := L' } : Dsk).deed = ({ D with L := L', off := true }, 30) := by simp [Dsk.deed, hz]
      rw [e2, if_neg (by omega)]
      exact ⟨⟨h.q, h1, h2, fun hc => by omega, fun _ => ⟨rfl, by simp only; omega⟩⟩, rfl⟩
    · have e2 : ({ D with L := L' } : Dsk).deed = ({ D with L := L', left := max (D.left - 1) (-1), deeds := D.deeds + 1 }, 0) := by simp [Dsk.deed, hz]
      rw [e2, if_pos (by omega)]
      exact ⟨⟨h.q, h1, h2, fun hc => ⟨ho, by simp only; omega, by simp only; omega⟩, fun hc => by omega⟩, rfl⟩

def cntN (l : List ByteArray) : Nat := (l.filter nameOk).length
theorem cntN_succ (l : List ByteArray) (i : Nat) (h : i < l.length) : cntN (l.take (i + 1)) = cntN (l.take i) + (if nameOk l[i] = true then 1 else 0) := by
  rw [List.take_succ_eq_append_getElem h]
  unfold cntN
  rw [List.filter_append, List.length_append]
  by_cases e : nameOk l[i] = true <;> simp [e]
theorem cntN_le (l : List ByteArray) (i : Nat) : cntN (l.take i) ≤ i := by
  have h1 := List.length_filter_le nameOk (l.take i)
  have h2 := List.length_take_le i l
  unfold cntN
  omega

set_option maxRecDepth 100000 in
set_option maxHeartbeats 4000000 in
theorem walk (n : Int) (A : Option Addr) (m c : Nat) (l : List ByteArray) (w : World) (hn : -9223372036854775808 ≤ n ∧ n ≤ 9223372036854775807)
    (hl : l.length = m ∧ Rd w (OldB w) 1 A m (l.map Value.string) ∧ NilOk A m c ∧ m ≤ c ∧ c ≤ maxLen ∧ ∀ s ∈ l, s.size ≤ maxLen) :
    Calls Try.prog 6 #[.int .i64 n, .slice A m c] w fun e w' => e = .returned (.bool true) ∧ Frm Nix w w' := by
  obtain ⟨hn0, hn1⟩ := hn
  obtain ⟨hll, hrd, -, hmc, hcm, hsz⟩ := hl
  unfold maxLen at hcm
  have HL : Hid (l.length = m ∧ Rd w (OldB w) 1 A m (l.map Value.string) ∧ ∀ s ∈ l, s.size ≤ maxLen) := ⟨hll, hrd, hsz⟩
  clear hll hrd hsz
  have key : ∀ (W : World), Frm Nix w W → Calls Try.prog 10 #[] W fun e w' => e = .returned (.bool true) ∧ Frm Nix w w' := fun W hW => (lives_any W).mono fun e w' ⟨he, hf⟩ => ⟨he, hW.trans hf⟩
  have KEY := Lib.hid key
  clear key
  by_cases hneg : n < 0
  · have hd : decide (n < 0) = true := by simp; omega
    go_enter Try.func6, Try.ntmps6
    go_wp2_with fail
    refine (New_yes 1048576 w w.heap.size (Nat.le_refl _) (by omega) (by omega)).mono ?_
    rintro e w1 ⟨g, F1, rfl, hd1, hf1, -⟩
    clear hd1
    go_wp2_with fail
    refine (KEY.out _ hf1).mono ?_
    rintro e w2 ⟨rfl, hf2⟩
    go_wp2_with fail
    refine (KEY.out _ hf2).mono ?_
    rintro e w3 ⟨rfl, hf3⟩
    go_wp2
    go_ret
    exact ⟨rfl, hf3⟩
  have hd : decide (n < 0) = false := by simp; omega
  by_cases hbig : 50 < m
  · have hd2 : decide ((50 : Int) < (m : Int)) = true := by simp; omega
    go_enter Try.func6, Try.ntmps6
    go_wp2_with fail
    refine (New_yes 1048576 w w.heap.size (Nat.le_refl _) (by omega) (by omega)).mono ?_
    rintro e w1 ⟨g, F1, rfl, hd1, hf1, -⟩
    clear hd1
    go_wp2_with fail
    refine (KEY.out _ hf1).mono ?_
    rintro e w2 ⟨rfl, hf2⟩
    go_wp2_with fail
    refine (KEY.out _ hf2).mono ?_
    rintro e w3 ⟨rfl, hf3⟩
    go_wp2
    go_ret
    exact ⟨rfl, hf3⟩
  have hd2 : decide ((50 : Int) < (m : Int)) = false := by simp; omega
  go_enter Try.func6, Try.ntmps6
  go_wp2_with fail
  refine (New_yes 1048576 w w.heap.size (Nat.le_refl _) (by omega) (by omega)).mono ?_
  rintro e w1 ⟨g, F1, rfl, hd1, hf1, -⟩
  have H1 : Hid (Dk w1 w.heap.size g F1 (dsk0 1048576) ∧ Frm Nix w w1) := ⟨hd1, hf1⟩
  clear hd1 hf1
  go_wp2_with fail
  refine (lives_any _).mono ?_
  rintro e w2 ⟨rfl, hf2⟩
  have H2 : Hid (Dk w2 w.heap.size g F1 (dsk0 1048576) ∧ Frm Nix w w2) := ⟨H1.out.1.nix hf2, H1.out.2.trans hf2⟩
  clear hf2 H1
  go_wp2_with fail
  have c1 := Stop_any w.heap.size g F1 (dsk0 1048576) n w2 H2.out.1 hn1
  have e1 : (dsk0 1048576).stop n = (⟨[], 1048576, n, false, 0⟩, 0) := by simp [Dsk.stop, dsk0, hneg]
  rw [e1] at c1
  refine c1.mono ?_
  rintro e w3 ⟨rfl, hd3, hf3⟩
  have hst : St n 0 ⟨[], 1048576, n, false, 0⟩ := ⟨rfl, by simp, by simp [usedL], fun _ => ⟨rfl, by simp, rfl⟩, fun h => by omega⟩
  have H3 : Hid (∃ F D, Dk w3 w.heap.size g F D ∧ Frm Nix w w3 ∧ St n 0 D) := ⟨F1, _, hd3, H2.out.2.next hf3 (fun k hk => .inr (H2.out.1.lo k hk).1), hst⟩
  clear hd3 hf3 c1 e1 hst H2
  go_wp2
  go_loopw [7, 8, 9] (fun k i _ wr => ∃ j : Nat, j ≤ m ∧ i = .int .i64 j ∧ k = .int .i64 (cntN (l.take j)) ∧ ∃ F D, Dk wr w.heap.size g F D ∧ Frm Nix w wr ∧ St n (cntN (l.take j)) D) (fun _ i _ _ => m - (intOf i).toNat)
  case atStart => exact ⟨0, Nat.zero_le _, rfl, rfl, H3.out⟩
  case round =>
    obtain ⟨j, hj, rfl, rfl, F, D, hdk, hfr, hst⟩ := hrel
    have hjk := cntN_le l j
    have HK : Hid (Dk wr w.heap.size g F D ∧ Frm Nix w wr ∧ St n (cntN (l.take j)) D) := ⟨hdk, hfr, hst⟩
    clear hdk hfr hst H3
    by_cases hlt : j < m
    · have hjl : j < l.length := by rw [HL.out.1]; exact hlt
      obtain ⟨ad, u, rfl, -, hla, hu, hcu⟩ := HL.out.2.1.at_ hlt
      have hus : u = .string l[j] := by
        simp only [List.getElem?_map, List.getElem?_eq_getElem hjl, Option.map_some, Option.some.injEq] at hu
        exact hu.symm
      subst hus
      have cr : wr.cell? (ad.add j) = some (.string l[j]) := (HK.out.2.1.cell (by rw [block_of_add]; exact hla) id).trans hcu
      have hsize : l[j].size ≤ maxLen := HL.out.2.2 _ (List.getElem_mem hjl)
      have HC := Lib.hid (cntN_succ l j hjl)
      generalize hS : l[j] = S at *
      generalize hKK : cntN (l.take j) = K at *
      clear hu hcu hS hKK
      cases hok : nameOk S with
      | false =>
        have HNm := Lib.hid (Name_any S wr hsize)
        rw [hok] at HNm HC
        clear hok
        go_wp2_with (go_at_call 21; refine HNm.out.mono ?_; rintro e w' ⟨rfl, rfl⟩)
        go_roundw
        case rel => exact ⟨j + 1, by omega, by go_num, by rw [HC.out]; simp, F, D, HK.out.1, HK.out.2.1, by rw [HC.out]; simpa using HK.out.2.2⟩
        case measure => simp [intOf]; omega
      | true =>
        have HNm := Lib.hid (Name_any S wr hsize)
        have HO := Lib.hid hok
        rw [hok] at HNm HC
        clear hok
        have HS := Lib.hid (HK.out.2.2.step (s := S) (by obtain ⟨m, R, cl, h, -⟩ := HK.out.1; exact h.ok) HO.out (by omega))
        have hfa : Frm Nix wr (wr.alloc (.cells #[.int .u8 1] 5)) := (Frm.refl Nix wr).alloc _
        have HAp := Lib.hid (Append_any (HK.out.1.nix hfa) S hsize (some ⟨wr.heap.size, 0, none⟩) 1 1 [1] rfl _ (Rd.of_obj (heap_alloc_new wr _) 1 rfl) (fun k hk hF => by have := (HK.out.1.lo k hF).2; omega) (by
          by_cases hc : (K : Int) ≤ n
          · have := (HK.out.2.2.lo hc).2.2; omega
          · have := (HK.out.2.2.hi (by omega)).2; omega))
        have HFa := Lib.hid hfa
        clear hfa
        by_cases hkn : (K : Int) < n
        · have HS2 : Hid ((D.append S [1]).2 = 0) := by have := HS.out.2; rwa [if_pos hkn] at this
          rw [HS2.out] at HAp
          go_wp2_with (first | (go_at_call 21; refine HNm.out.mono ?_; rintro e w' ⟨rfl, rfl⟩) | (go_at_call 14; refine HAp.out.mono ?_; intro e w5 h5; obtain ⟨rfl, F5, hd5, hf5, -, -⟩ := h5.step (HK.out.1.nix HFa.out) (HK.out.2.1.trans HFa.out)))
          go_roundw
          case rel => exact ⟨j + 1, by omega, by go_num, by rw [HC.out]; simp, F5, _, hd5, hf5, by rw [HC.out]; simpa using HS.out.1⟩
          case measure => simp [intOf]; omega
        · have HS2 : Hid ((D.append S [1]).2 = 30) := by have := HS.out.2; rwa [if_neg hkn] at this
          rw [HS2.out] at HAp
          go_wp2_with (first | (go_at_call 21; refine HNm.out.mono ?_; rintro e w' ⟨rfl, rfl⟩) | (go_at_call 14; refine HAp.out.mono ?_; intro e w5 h5; obtain ⟨rfl, F5, hd5, hf5, -, -⟩ := h5.step (HK.out.1.nix HFa.out) (HK.out.2.1.trans HFa.out)))
          go_roundw
          case rel => exact ⟨j + 1, by omega, by go_num, by rw [HC.out]; simp, F5, _, hd5, hf5, by rw [HC.out]; simpa using HS.out.1⟩
          case measure => simp [intOf]; omega
    · obtain rfl : j = m := by omega
      generalize hKK : cntN (l.take j) = K at *
      clear hKK
      have HOf := Lib.hid (Off_any _ _ _ _ _ HK.out.1)
      have HDe := Lib.hid (Deeds_any _ _ _ _ _ HK.out.1)
      by_cases hkn : (K : Int) ≤ n
      · have HS : Hid (D.off = false ∧ D.deeds = K) := ⟨(HK.out.2.2.lo hkn).1, (HK.out.2.2.lo hkn).2.2⟩
        rw [HS.out.1] at HOf
        rw [HS.out.2] at HDe
        have hdn : decide (n < (K : Int)) = false := by simp; omega
        go_wp2_with (first | (go_at_call 22; refine HOf.out.mono ?_; rintro e w' ⟨rfl, rfl⟩) | (go_at_call 23; refine HDe.out.mono ?_; rintro e w' ⟨rfl, rfl⟩))
        go_ret
        exact ⟨rfl, HK.out.2.1⟩
      · have HS : Hid (D.off = true ∧ (D.deeds : Int) = n) := HK.out.2.2.hi (by omega)
        rw [HS.out.1] at HOf
        rw [HS.out.2] at HDe
        have hdn : decide (n < (K : Int)) = true := by simp; omega
        go_wp2_with (first | (go_at_call 22; refine HOf.out.mono ?_; rintro e w' ⟨rfl, rfl⟩) | (go_at_call 23; refine HDe.out.mono ?_; rintro e w' ⟨rfl, rfl⟩))
        go_ret
        exact ⟨rfl, HK.out.2.1⟩
theorem own : ownKnob Try.prog.godebug = none := by kernel_rfl
theorem laidOut : laidOutB Try.prog = true := by kernel_rfl

set_option maxRecDepth 100000 in
theorem lifted (os : Os) (started : os.Started) (H : Type) (enc : TypeId × Value → H) :
    ReturnsInHanded {} Try.checked os 6 .any (Rows.diskStopsSpec.pre6 enc Try.prog Try.f6 Rows.diskStopsRow.domain false) (Rows.diskStopsSpec.post enc Try.prog Try.f6 false true false false) := by
  refine returnsInHanded_of_change (C := Try.checked) own started (by kernel_rfl) Try.func6
    (ChangeSpec.witness6 (enc := enc) (C := Try.checked) false ⟨#[], #[.int .i64 0, .slice none 0 0], []⟩ 8 (by kernel_rfl) (by kernel_rfl) (by kernel_rfl) (by kernel_rfl)) ?_
  intro W base args ds gs before hval0 hW hcnd _
  have hval : ∀ (j : Nat) t v, Try.f6.params[j]? = some t → args[j]? = some v → Value.okWide Try.prog W .any base t v := hval0
  have hW' := hW
  obtain ⟨p, q, hA0, hV, rfl, hfz, hnd⟩ := hW
  have hA : DataW.TrodAll enc Try.prog W 0 (fun _ => true) true Try.f6.params.toList args.toList ds p := hA0
  rw [Try.params6] at hA hval
  obtain ⟨v0, vs0, d0, ds0, p0, q0, hargs, rfl, rfl, h0, r0⟩ := trodAll_cons hA
  obtain ⟨v1, vs1, d1, ds1, p1, q1, rfl, rfl, rfl, h1, r1⟩ := trodAll_cons r0
  obtain ⟨rfl, rfl, rfl⟩ := trodAll_nil r1
  obtain rfl : args = #[v0, v1] := by cases args; simp_all
  obtain ⟨rfl, rfl⟩ := trodVars_none hV
  have k0 := h0
  have lt0 : ∀ x ∈ p0, x.block < W.heap.size := by obtain ⟨m, hm⟩ := k0; exact DataW.trod_lt m _ _ _ hm
  obtain ⟨x0, rfl, rfl, rfl, wx0⟩ := open_int Try.underlying3 (hval 0 3 v0 rfl rfl) h0
  have k1 := h1
  have lt1 : ∀ x ∈ p1, x.block < W.heap.size := by obtain ⟨m, hm⟩ := k1; exact DataW.trod_lt m _ _ _ hm
  obtain ⟨a1, n1, c1, l1, rfl, wx1⟩ : ∃ a n c, ∃ l : List ByteArray, v1 = .slice a n c ∧ l.length = n ∧ Rd W (OldB W) 1 a n (l.map Value.string) ∧ NilOk a n c ∧ n ≤ c ∧ c ≤ maxLen ∧ ∀ s ∈ l, s.size ≤ maxLen := by
    obtain ⟨a, n, c, rfl⟩ := okWide_slice Try.underlying47 (hval 1 47 v1 rfl rfl)
    obtain ⟨fuel, hf⟩ := h1
    obtain ⟨A, n', c', l, e, hk⟩ := vStrs hf
    simp [Value.cells] at e
    obtain ⟨rfl, rfl, rfl⟩ := e
    exact ⟨_, _, _, l, rfl, hk⟩
  clear hA0 hval0
  refine (walk x0 a1 n1 c1 l1 W (wf_i64 wx0) wx1).mono fun e W' ⟨he, hfr⟩ => ?_
  have bel : Below W.heap.size W W' := hfr.below (fun _ h => absurd h id) (Nat.le_refl _)
  subst he
  exact ⟨_, rfl, _, _, _, [], _, [], hW', trodAll_mk1 (shut_bool Try.underlying4 _), (trodAll_cons_mk (Below.trod laidOut (by kernel_rfl) (of_decide_eq_true (by kernel_rfl)) k0 bel lt0) (trodAll_cons_mk (Below.trod laidOut (by kernel_rfl) (of_decide_eq_true (by kernel_rfl)) k1 bel lt1) trodAll_mk0)), rfl, bel.frame _, fun h => by cases h⟩

theorem proved : Rows.DiskStopsSaid :=
  OpenClaim.holds_of_wide 6 Try.f6 rfl rfl rfl rfl rfl rfl rfl ⟨rfl, rfl, rfl, rfl, rfl⟩ rfl rfl rfl rfl rfl (by kernel_rfl) Try.func6 (by kernel_rfl)
    (of_decide_eq_true (by kernel_rfl)) (by unfold Func.isWrapper; first | (rw [if_pos (by decide +kernel)]; kernel_rfl) | (rw [if_neg (by decide +kernel)]; exact ⟨rfl, rfl⟩))
    (fun os started H enc _ => lifted os started H enc)
#print axioms proved
end diskStops
end Go.Proofs.Ythhkblogocoeeaa
