/-
  DiskSafe: for every input the law 'what was synced is read behind any crash, as a beginning' returns true, and its arguments read as they did. No condition.
-/
import Derived.Test.YthhkblogocoeeaaRows
import Derived.Test.YthhkblogocoeeaaView
import Derived.OpenShut
import Derived.ShutString
import Derived.ChangeOld
namespace Go.Proofs.Ythhkblogocoeeaa
open Go.ChangeShapes Go.WideShapes Go.ChangeAt Go.RowKit

namespace diskSafe
def sF : ByteArray := ⟨#[102]⟩
def d1 (a : List UInt8) : Dsk := ⟨[⟨sF, a, 0⟩], 1048576, -1, false, 1⟩
def d2 (a : List UInt8) : Dsk := ⟨[⟨sF, a, a.length⟩], 1048576, -1, false, 2⟩
def d3 (a b : List UInt8) : Dsk := ⟨[⟨sF, a ++ b, a.length⟩], 1048576, -1, false, 3⟩
def cutAt (b : List UInt8) (keep : Int) : Nat := min (max keep 0).toNat b.length
theorem okF : nameOk sF = true := rfl
theorem step1 (a : List UInt8) (h : a.length ≤ 1000) : (dsk0 1048576).append sF a = (d1 a, 0) := by
  have hf : (dsk0 1048576).full sF a = false := by simp [Dsk.full, dsk0, usedL]; omega
  simp only [Dsk.append, okF, hf, Bool.not_true, Bool.false_eq_true, if_false]
  rfl
theorem step2 (a : List UInt8) : (d1 a).sync sF = (d2 a, 0) := rfl
theorem step3 (a b : List UInt8) (h : a.length ≤ 1000) (h2 : b.length ≤ 1000) : (d2 a).append sF b = (d3 a b, 0) := by
  have hf : (d2 a).full sF b = false := by
    simp [Dsk.full, d2, usedL]
    omega
  simp only [Dsk.append, okF, hf, Bool.not_true, Bool.false_eq_true, if_false]
  rfl
theorem step4 (a b : List UInt8) (keep : Int) : ((d3 a b).crash [keep]).read sF = a ++ b.take (cutAt b keep) ∧ ((d3 a b).crash [keep]).there sF = 0 := by
  have hc : (d3 a b).crash [keep] = ⟨[crash1 ⟨sF, a ++ b, a.length⟩ [keep] 0], 1048576, -1, false, 3⟩ := by
    simp only [Dsk.crash, d3, crashL, crash1]
    split <;> rfl
  have hn := crash1_name ⟨sF, a ++ b, a.length⟩ [keep] 0
  have hb : (crash1 ⟨sF, a ++ b, a.length⟩ [keep] 0).b = a ++ b.take (cutAt b keep) := by
    unfold crash1
    split
    · rename_i h
      have : b = [] := by simpa using h
      subst this
      simp
    · simp only [Fil.cut, cutAt, List.getD_cons_zero, List.length_append]
      rw [List.take_append, List.take_of_length_le (by omega)]
      congr 2
      omega
  rw [hc]
  constructor
  · simp [Dsk.read, Dsk.there, findF, hn, hb]
  · simp [Dsk.there, findF, hn]

set_option maxRecDepth 100000 in
set_option maxHeartbeats 4000000 in
theorem walk (aA : Option Addr) (an ac : Nat) (al : List UInt8) (bA : Option Addr) (bn bc : Nat) (bl : List UInt8) (keep : Int) (w : World)
    (ha : al.length = an ∧ Rd w (OldB w) 1 aA an (bvs al) ∧ NilOk aA an ac ∧ an ≤ ac ∧ ac ≤ maxLen) (hb : bl.length = bn ∧ Rd w (OldB w) 1 bA bn (bvs bl) ∧ NilOk bA bn bc ∧ bn ≤ bc ∧ bc ≤ maxLen) (hk : -9223372036854775808 ≤ keep ∧ keep ≤ 9223372036854775807) :
    Calls Try.prog 4 #[.slice aA an ac, .slice bA bn bc, .int .i64 keep] w fun e w' => e = .returned (.bool true) ∧ Frm Nix w w' := by
  obtain ⟨hal, har, -, hac, ham⟩ := ha
  obtain ⟨hbl, hbr, hbn, hbc, hbm⟩ := hb
  obtain ⟨hk0, hk1⟩ := hk
  unfold maxLen at ham hbm
  by_cases hla : 1000 < an
  · have hl : decide ((1000 : Int) < (an : Int)) = true := by simp; omega
    clear har hbr hal hbl hbn
    go_enter Try.func4, Try.ntmps4
    go_wp2_with (go_at_call 10; refine (lives_any _).mono ?_; rintro e w1 ⟨rfl, hf⟩)
    go_ret
    exact ⟨rfl, hf⟩
  have hl : decide ((1000 : Int) < (an : Int)) = false := by simp; omega
  by_cases hlb : 1000 < bn
  · have hl2 : decide ((1000 : Int) < (bn : Int)) = true := by simp; omega
    clear har hbr hal hbl hbn
    go_enter Try.func4, Try.ntmps4
    go_wp2_with (go_at_call 10; refine (lives_any _).mono ?_; rintro e w1 ⟨rfl, hf⟩)
    go_ret
    exact ⟨rfl, hf⟩
  have hl2 : decide ((1000 : Int) < (bn : Int)) = false := by simp; omega
  have HA : Hid (al.length = an ∧ Rd w (OldB w) 1 aA an (bvs al)) := ⟨hal, har⟩
  have HB : Hid (bl.length = bn ∧ Rd w (OldB w) 1 bA bn (bvs bl)) := ⟨hbl, hbr⟩
  clear hal har hbl hbr
  have hnew : ∀ (W : World) (g : Nat) (F : Nat → Prop) (D : Dsk), Dk W w.heap.size g F D → ∀ k, OldB w k → ¬ F k := fun W g F D h k hk hF => by
    have := (h.lo k hF).1
    unfold OldB at hk
    omega
  have HN := Lib.hid hnew
  clear hnew
  go_enter Try.func4, Try.ntmps4
  go_wp2_with fail
  refine (New_yes 1048576 w w.heap.size (Nat.le_refl _) (by omega) (by omega)).mono ?_
  rintro e w1 ⟨g, F1, rfl, hd1, hf1, -⟩
  have H1 : Hid (Dk w1 w.heap.size g F1 (dsk0 1048576) ∧ Frm Nix w w1) := ⟨hd1, hf1⟩
  clear hd1 hf1
  go_wp2_with fail
  refine (lives_any _).mono ?_
  rintro e w2 ⟨rfl, hf2⟩
  have H2 : Hid (Dk w2 w.heap.size g F1 (dsk0 1048576) ∧ Frm Nix w w2) := ⟨H1.out.1.nix hf2, H1.out.2.trans hf2⟩
  clear hf2 H1
  go_wp2_with fail
  have c1 := Append_any H2.out.1 sF (by decide) aA an ac al HA.out.1 _ (HA.out.2.frm H2.out.2 fun _ _ => id) (HN.out _ _ _ _ H2.out.1) (by decide)
  rw [step1 al (by rw [HA.out.1]; omega)] at c1
  refine c1.mono ?_
  intro e w3 h
  obtain ⟨rfl, F3, hd3, hf3, -, -⟩ := h.step H2.out.1 H2.out.2
  have H3 : Hid (Dk w3 w.heap.size g F3 (d1 al) ∧ Frm Nix w w3) := ⟨hd3, hf3⟩
  clear hd3 hf3 c1 h H2
  go_wp2_with fail
  have c2 := Sync_any H3.out.1 sF (by show 1 < _; decide)
  rw [step2] at c2
  refine c2.mono ?_
  intro e w4 h
  obtain ⟨rfl, F4, hd4, hf4, -, -⟩ := h.step H3.out.1 H3.out.2
  have H4 : Hid (Dk w4 w.heap.size g F4 (d2 al) ∧ Frm Nix w w4) := ⟨hd4, hf4⟩
  clear hd4 hf4 c2 h H3
  go_wp2_with fail
  have c3 := Append_any H4.out.1 sF (by decide) bA bn bc bl HB.out.1 _ (HB.out.2.frm H4.out.2 fun _ _ => id) (HN.out _ _ _ _ H4.out.1) (by show 2 < _; decide)
  rw [step3 al bl (by rw [HA.out.1]; omega) (by rw [HB.out.1]; omega)] at c3
  refine c3.mono ?_
  intro e w5 h
  obtain ⟨rfl, F5, hd5, hf5, -, -⟩ := h.step H4.out.1 H4.out.2
  have H5 : Hid (Dk w5 w.heap.size g F5 (d3 al bl) ∧ Frm Nix w w5) := ⟨hd5, hf5⟩
  clear hd5 hf5 c3 h H4
  go_wp2_with fail
  have hfa : Frm Nix w5 (w5.alloc (.cells #[.int .i64 keep] 3)) := (Frm.refl Nix w5).alloc _
  have c4 := Crash_any (H5.out.1.nix hfa) (some ⟨w5.heap.size, 0, none⟩) 1 1 [keep] rfl (by decide) _ (Rd.of_obj (heap_alloc_new w5 _) 1 rfl) (fun k hk hF => by have := (H5.out.1.lo k hF).2; omega)
  refine c4.mono ?_
  rintro e w6 ⟨rfl, F6, hd6, hff6, -⟩
  have H6 : Hid (Dk w6 w.heap.size g F6 ((d3 al bl).crash [keep]) ∧ Frm Nix w w6) := ⟨hd6, (H5.out.2.trans hfa).next hff6 (fun k hk => .inr (H5.out.1.lo k hk).1)⟩
  clear hd6 c4 hff6 hfa H5
  go_wp2_with fail
  have c5 := Read_any H6.out.1 sF
  rw [(step4 al bl keep).1, (step4 al bl keep).2] at c5
  refine c5.mono ?_
  rintro e w7 ⟨v, rfl, hown, hf7⟩
  obtain ⟨xA, xc, rfl, -⟩ := own_shape hown
  have hf : Frm Nix w w7 := H6.out.2.trans hf7
  have hsx : ∀ k, (convert 32 9 (.slice xA (al ++ bl.take (cutAt bl keep)).length xc)).run Try.prog (w7.drewN k) = .ok (.string ⟨(al ++ bl.take (cutAt bl keep)).toArray⟩) (w7.drewN k) := fun k => run_str_of (Rd.of_own hown)
  have hsa : ∀ k, (convert 32 9 (.slice aA an ac)).run Try.prog (w7.drewN k) = .ok (.string ⟨al.toArray⟩) (w7.drewN k) := fun k => run_str_of (HA.out.2.frm (hf.drewN k) fun _ _ => id)
  have hcut : cutAt bl keep ≤ bn := by rw [← HB.out.1]; exact Nat.min_le_right _ _
  have hsb : ∀ k, (convert 32 9 (.slice bA (cutAt bl keep) bc)).run Try.prog (w7.drewN k) = .ok (.string ⟨(bl.take (cutAt bl keep)).toArray⟩) (w7.drewN k) := fun k => run_str_of (by
    have := (HB.out.2.frm (hf.drewN k) fun _ _ => id).take hcut
    rw [Nat.mul_one] at this
    have e : bvs (bl.take (cutAt bl keep)) = (bvs bl).take (cutAt bl keep) := by simp [bvs, List.map_take]
    rw [e]
    exact this)
  have HF := Lib.hid hf
  have hcu : (cutAt bl keep : Int) = min (max keep 0) bn := by unfold cutAt; rw [HB.out.1]; omega
  generalize hC : cutAt bl keep = C at *
  generalize hX : (al ++ bl.take C).length = X at *
  have hcat : (⟨al.toArray⟩ : ByteArray) ++ ⟨(bl.take C).toArray⟩ = ⟨(al ++ bl.take C).toArray⟩ := by
    apply ByteArray.ext
    show (ByteArray.append _ _).data = _
    simp
  have hsum : (⟨al.toArray⟩ : ByteArray).size + (⟨(bl.take C).toArray⟩ : ByteArray).size ≤ 9223372036854775807 := by
    show al.toArray.size + (bl.take C).toArray.size ≤ _
    have h1 := HA.out.1
    have h2 := HB.out.1
    simp
    omega
  generalize (⟨(al ++ bl.take C).toArray⟩ : ByteArray) = SX at *
  generalize (⟨al.toArray⟩ : ByteArray) = SA at *
  generalize (⟨(bl.take C).toArray⟩ : ByteArray) = SB at *
  clear hf hown hf7 H6 HA HB HN hX hC
  have hz : (0 : Int) ≤ (C : Int) := Int.natCast_nonneg _
  by_cases hneg : keep < 0
  · obtain rfl : C = 0 := by omega
    clear hcu
    go_wp2
    go_quiet (fail)
    go_wp2
    go_ret
    exact ⟨rfl, HF.out.drewN _⟩
  · by_cases hbig : (bn : Int) < keep
    · obtain rfl : C = bn := by omega
      clear hcu
      go_wp2
      go_quiet (fail)
      go_wp2
      go_ret
      exact ⟨rfl, HF.out.drewN _⟩
    · obtain rfl : keep = (C : Int) := by omega
      clear hcu
      go_wp2
      go_quiet (fail)
      go_wp2
      go_ret
      exact ⟨rfl, HF.out.drewN _⟩
theorem own : ownKnob Try.prog.godebug = none := by kernel_rfl
theorem laidOut : laidOutB Try.prog = true := by kernel_rfl

set_option maxRecDepth 100000 in
theorem lifted (os : Os) (started : os.Started) (H : Type) (enc : TypeId × Value → H) :
    ReturnsInHanded {} Try.checked os 4 .any (Rows.diskSafeSpec.pre6 enc Try.prog Try.f4 Rows.diskSafeRow.domain false) (Rows.diskSafeSpec.post enc Try.prog Try.f4 false true false false) := by
  refine returnsInHanded_of_change (C := Try.checked) own started (by kernel_rfl) Try.func4
    (ChangeSpec.witness6 (enc := enc) (C := Try.checked) false ⟨#[], #[.slice none 0 0, .slice none 0 0, .int .i64 0], []⟩ 8 (by kernel_rfl) (by kernel_rfl) (by kernel_rfl) (by kernel_rfl)) ?_
  intro W base args ds gs before hval0 hW hcnd _
  have hval : ∀ (j : Nat) t v, Try.f4.params[j]? = some t → args[j]? = some v → Value.okWide Try.prog W .any base t v := hval0
  have hW' := hW
  obtain ⟨p, q, hA0, hV, rfl, hfz, hnd⟩ := hW
  have hA : DataW.TrodAll enc Try.prog W 0 (fun _ => true) true Try.f4.params.toList args.toList ds p := hA0
  rw [Try.params4] at hA hval
  obtain ⟨v0, vs0, d0, ds0, p0, q0, hargs, rfl, rfl, h0, r0⟩ := trodAll_cons hA
  obtain ⟨v1, vs1, d1, ds1, p1, q1, rfl, rfl, rfl, h1, r1⟩ := trodAll_cons r0
  obtain ⟨v2, vs2, d2, ds2, p2, q2, rfl, rfl, rfl, h2, r2⟩ := trodAll_cons r1
  obtain ⟨rfl, rfl, rfl⟩ := trodAll_nil r2
  obtain rfl : args = #[v0, v1, v2] := by cases args; simp_all
  obtain ⟨rfl, rfl⟩ := trodVars_none hV
  have k0 := h0
  have lt0 : ∀ x ∈ p0, x.block < W.heap.size := by obtain ⟨m, hm⟩ := k0; exact DataW.trod_lt m _ _ _ hm
  obtain ⟨a0, n0, c0, l0, rfl, wx0⟩ : ∃ a n c, ∃ l : List UInt8, v0 = .slice a n c ∧ l.length = n ∧ Rd W (OldB W) 1 a n (bvs l) ∧ NilOk a n c ∧ n ≤ c ∧ c ≤ maxLen := by
    obtain ⟨a, n, c, rfl⟩ := okWide_slice Try.underlying32 (hval 0 32 v0 rfl rfl)
    obtain ⟨fuel, hf⟩ := h0
    obtain ⟨A, n', c', l, e, hk⟩ := vBytes hf
    simp [Value.cells] at e
    obtain ⟨rfl, rfl, rfl⟩ := e
    exact ⟨_, _, _, l, rfl, hk⟩
  have k1 := h1
  have lt1 : ∀ x ∈ p1, x.block < W.heap.size := by obtain ⟨m, hm⟩ := k1; exact DataW.trod_lt m _ _ _ hm
  obtain ⟨a1, n1, c1, l1, rfl, wx1⟩ : ∃ a n c, ∃ l : List UInt8, v1 = .slice a n c ∧ l.length = n ∧ Rd W (OldB W) 1 a n (bvs l) ∧ NilOk a n c ∧ n ≤ c ∧ c ≤ maxLen := by
    obtain ⟨a, n, c, rfl⟩ := okWide_slice Try.underlying32 (hval 1 32 v1 rfl rfl)
    obtain ⟨fuel, hf⟩ := h1
    obtain ⟨A, n', c', l, e, hk⟩ := vBytes hf
    simp [Value.cells] at e
    obtain ⟨rfl, rfl, rfl⟩ := e
    exact ⟨_, _, _, l, rfl, hk⟩
  have k2 := h2
  have lt2 : ∀ x ∈ p2, x.block < W.heap.size := by obtain ⟨m, hm⟩ := k2; exact DataW.trod_lt m _ _ _ hm
  obtain ⟨x2, rfl, rfl, rfl, wx2⟩ := open_int Try.underlying3 (hval 2 3 v2 rfl rfl) h2
  clear hA0 hval0
  refine (walk a0 n0 c0 l0 a1 n1 c1 l1 x2 W wx0 wx1 (wf_i64 wx2)).mono fun e W' ⟨he, hfr⟩ => ?_
  have bel : Below W.heap.size W W' := hfr.below (fun _ h => absurd h id) (Nat.le_refl _)
  subst he
  exact ⟨_, rfl, _, _, _, [], _, [], hW', trodAll_mk1 (shut_bool Try.underlying4 _), (trodAll_cons_mk (Below.trod laidOut (by kernel_rfl) (of_decide_eq_true (by kernel_rfl)) k0 bel lt0) (trodAll_cons_mk (Below.trod laidOut (by kernel_rfl) (of_decide_eq_true (by kernel_rfl)) k1 bel lt1) (trodAll_cons_mk (Below.trod laidOut (by kernel_rfl) (of_decide_eq_true (by kernel_rfl)) k2 bel lt2) trodAll_mk0))), rfl, bel.frame _, fun h => by cases h⟩

theorem proved : Rows.DiskSafeSaid :=
  OpenClaim.holds_of_wide 4 Try.f4 rfl rfl rfl rfl rfl rfl rfl ⟨rfl, rfl, rfl, rfl, rfl⟩ rfl rfl rfl rfl rfl (by kernel_rfl) Try.func4 (by kernel_rfl)
    (of_decide_eq_true (by kernel_rfl)) (by unfold Func.isWrapper; first | (rw [if_pos (by decide +kernel)]; kernel_rfl) | (rw [if_neg (by decide +kernel)]; exact ⟨rfl, rfl⟩))
    (fun os started H enc _ => lifted os started H enc)
#print axioms proved
end diskSafe
end Go.Proofs.Ythhkblogocoeeaa
