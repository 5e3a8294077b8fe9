/-
  Any disk's manifest, switched, whatever the disk refuses: ManifestSwitches answers true for every input. Its card: the table of the sum by halves of bytes is tied to the program's text.
-/
import Derived.Test.YtdgpaddmheagoaaGreatDoorMI
import Derived.Test.YtdgpaddmheagoaaGreatDoorSA
import Derived.Test.YtdgpaddmheagoaaGreatDoorOps
import Derived.Test.YtdgpaddmheagoaaGreatDoorViewM
import Derived.Test.YtdgpaddmheagoaaGreatDoorTie
import Derived.Test.YtdgpaddmheagoaaGreatDoorCards
import Derived.LaidMore
import Derived.OpenShut
import Derived.Lib.LaidTab
import Derived.SevenTiedAt
namespace Go.Proofs.YtdgpaddmheagoaaGreatDoor
open Go.ChangeShapes Go.WideShapes Go.ChangeAt Go.RowKit
set_option linter.unusedVariables false
set_option linter.unusedSimpArgs false

/-- the code's disk has been switched, the document's not yet. -/
def Half (wl w0 : World) (g g' k : Nat) (D D' : Dsk) (w1 : World) : Prop :=
  ∃ wb F W' F' F1, Pair wb wl.heap.size g F wl.heap.size g' W' F' D ∧ (∀ k, F k → w0.heap.size ≤ k) ∧ (∀ k, W' k → w0.heap.size ≤ k) ∧ Frm Nix wl w0 ∧ Frm Nix w0 wb ∧ D'.deeds ≤ k ∧ Dk w1 wl.heap.size g F1 D' ∧ Frm F wb w1 ∧ ∀ k, F1 k → F k ∨ wb.heap.size ≤ k
section
variable {wl w0 w w1 w2 : World} {g g' k : Nat} {D D' : Dsk}
theorem Half.nix (h : Half wl w0 g g' k D D' w1) (hf : Frm Nix w1 w2) : Half wl w0 g g' k D D' w2 := by
  obtain ⟨wb, F, W', F', F1, hp, a, b, c, d, e, h1, f1, n1⟩ := h
  exact ⟨wb, F, W', F', F1, hp, a, b, c, d, e, h1.nix hf, f1.trans hf.nix, n1⟩
theorem Half.frm (h : Half wl w0 g g' k D D' w1) : Frm Nix w0 w1 := by
  obtain ⟨wb, F, W', F', F1, hp, a, b, c, d, e, h1, f1, n1⟩ := h
  exact d.next f1 fun k hk => .inr (a k hk)
theorem Two.pswitch (h : Two wl w0 g g' k D w) (m : Man) (A : Option Addr) (c : Nat) (G : Nat → Prop) (hm : ManIn w G m A c) (ho : manOk m = true) (ht : Tab w) (hB : 0 < wl.heap.size) (hG : ∀ k, G k → k < w0.heap.size) (hk : k ≤ 1000000) :
    Calls Tryz.prog 9 #[.pointer (some ⟨g, 0, none⟩), manV m A c] w fun e w1 => e = .returned (.int .i64 (swDsk D (manPut m)).2) ∧ Half wl w0 g g' (k + 4) D (swDsk D (manPut m)).1 w1 := by
  obtain ⟨F, W, F', hp, hF, hW⟩ := h.at_
  refine (pSwitch_yes hp.d m A c G hm ho ht hB (fun i hi hf => ?_) (by have := h.deeds; omega)).mono ?_
  · have := hG i hi
    have := hF i hf
    omega
  · rintro e w1 ⟨he, F1, h1, f1, n1⟩
    exact ⟨he, w, F, W, F', F1, hp, hF, hW, h.old, h.frm, by have := swDsk_deeds D (manPut m); have := h.deeds; omega, h1, f1, n1⟩
theorem Half.rswitch {m : Man} (h : Half wl w0 g g' k D (swDsk D (manPut m)).1 w1) (A : Option Addr) (c : Nat) (G : Nat → Prop) (hm : ManIn w1 G m A c) (ho : manOk m = true) (hG : ∀ k, G k → k < w0.heap.size) (hd : D.deeds ≤ 1000000) :
    Calls Tryz.prog 11 #[.pointer (some ⟨g', 0, none⟩), manV m A c] w1 fun e w2 => e = .returned (.int .i64 (swDsk D (manPut m)).2) ∧ Two wl w0 g g' k (swDsk D (manPut m)).1 w2 := by
  obtain ⟨wb, F, W', F', F1, hp, hF, hW, ho', hf, hdd, h1, f1, n1⟩ := h
  refine (rSwitch_yes (hp.mid (Frm.refl _ _) f1) m A c G hm ho (fun i hi hw => ?_) (by omega)).mono ?_
  · have := hG i hi
    have := hW i hw
    omega
  · rintro e w2 ⟨he, hgo⟩
    exact ⟨he, Two.go hp hF hW ho' hf (hp.two (Frm.refl _ _) h1 f1 n1 hgo) hdd⟩
theorem Two.pread (h : Two wl w0 g g' k D w) (ht : Tab w) : Calls Tryz.prog 12 #[.pointer (some ⟨g, 0, none⟩)] w (ReadMOut w (rdDsk D).1 (rdDsk D).2) := by
  obtain ⟨F, W, F', hp, hF, hW⟩ := h.at_
  exact pRead_any hp.d ht
theorem Two.rread (h : Two wl w0 g g' k D w) : Calls Tryz.prog 13 #[.pointer (some ⟨g', 0, none⟩)] w (ReadMOut w (rdDsk D).1 (rdDsk D).2) := by
  obtain ⟨F, W, F', hp, hF, hW⟩ := h.at_
  exact rReadM_any hp.x hp.d.ok
/-- the new disks. -/
theorem Two.new2 {wa wb wc : World} {F F' : Nat → Prop} {q : Int} (ho : Frm Nix wl w0) (h : Dk wa wl.heap.size g F (dsk0 q)) (hF : Frm Nix w0 wa) (hk : ∀ k, F k → w0.heap.size ≤ k) (hx : RDk wb wl.heap.size g' F' (dsk0 q)) (hn : Frm Nix wa wb) (hk' : ∀ k, F' k → wa.heap.size ≤ k) (hc : Frm Nix wb wc) : Two wl w0 g g' 0 (dsk0 q) wc := by
  have hs := hF.size
  refine ⟨⟨F, F', F', ⟨(h.nix hn).nix hc, (hx.rd rfl).nix hc, fun k h1 h2 => ?_⟩, hk, fun k h1 => ?_⟩, ho, (hF.trans hn).trans hc, Nat.le_refl _⟩
  · have := (h.lo k h1).2
    have := hk' k h2
    omega
  · have := hk' k h1
    omega
end
theorem manGet_okS {l : List UInt8} {m : Man} (h : manGet l = some m) : manOk m = true := by
  unfold manGet at h
  split at h
  · unfold manOf at h
    split at h
    · rename_i hc
      injection h with h
      rw [← h]
      exact hc.2.2
    · cases h
  · cases h
theorem rdDsk_ok (D : Dsk) : manOk (rdDsk D).1 = true ∨ (rdDsk D).1 = ⟨0, 0, []⟩ := by
  unfold rdDsk
  split
  · exact .inr rfl
  · split
    · rename_i m hm
      exact .inl (manGet_okS hm)
    · exact .inr rfl
theorem RowIn.manIn2 {w w1 : World} {m : Man} {A : Option Addr} {c : Nat} (h : RowIn 3 w w1 (.slice A m.segs.length c) m.segs.length (ivs m.segs)) (ho : manOk m = true ∨ m = ⟨0, 0, []⟩) : ManIn w1 (fun k => (Value.slice A m.segs.length c).ownBlock = some k) m A c := by
  rcases ho with ho | rfl
  · exact h.manIn ho
  · obtain ⟨_, _, e, -, hc, hm, -⟩ := h.shape
    injection e with e1 e2 e3
    subst e1 e3
    exact ⟨by decide, by decide, by decide, by decide, h.rd, hc, hm, by simp⟩
theorem man_len2 {m : Man} (ho : manOk m = true ∨ m = ⟨0, 0, []⟩) : m.segs.length ≤ 32 := by
  rcases ho with ho | rfl
  · exact (manOk_parts ho).2.2.2.2.2.1
  · simp

namespace manifestSwitches
set_option maxRecDepth 100000 in
set_option maxHeartbeats 8000000 in
theorem walk (q : Int) (A : Option Addr) (n c : Nat) (l : List OpV) (m : Man) (mA : Option Addr) (mc : Nat) (w : World) (hq : -9223372036854775808 ≤ q ∧ q ≤ 9223372036854775807)
    (hl : l.length = n ∧ Rd w (OldB w) 6 A n (l.flatMap OpV.cells) ∧ (∀ o ∈ l, o.Ok w) ∧ NilOk A n c ∧ n ≤ c ∧ c ≤ maxLen) (hm : ManIn w (OldB w) m mA mc) (ht : Tab w) :
    Calls Tryz.prog 3 #[.int .i64 q, .slice A n c, manV m mA mc] w fun e w' => e = .returned (.bool true) ∧ Frm Nix w w' := by
  obtain ⟨hll, hrd, hok, -, hnc, hcm⟩ := hl
  have HT := Lib.hid ht
  have HL := Lib.hid hll
  have HR := Lib.hid hrd
  have HO := Lib.hid hok
  have HM := Lib.hid hm
  have hml : m.segs.length ≤ maxLen := Nat.le_trans hm.cap hm.max
  obtain ⟨wa, hwa⟩ : ∃ wa, wa = w.alloc (.cells #[.int .i64 m.gen, .int .i64 m.snap, .slice mA m.segs.length mc] 25) := ⟨_, rfl⟩
  have hfa : Frm Nix w wa := by rw [hwa]; exact (Frm.refl Nix w).alloc _
  have hba : Blk wa w.heap.size 25 #[.int .i64 m.gen, .int .i64 m.snap, .slice mA m.segs.length mc] := by rw [hwa]; exact Blk.new w _ _
  have HFA := Lib.hid hfa
  have HBA := Lib.hid hba
  have HWA := Lib.hid hwa
  have hsz : OldB w = fun k => k < w.heap.size := rfl
  have HG : Hid (∀ k, OldB w k → k < wa.heap.size) := fun k hk => Nat.lt_of_lt_of_le hk hfa.size
  have KV : Hid (∀ W, Frm Nix w W → Calls Tryz.prog 5 #[] W fun e w' => e = .returned (.bool true) ∧ Frm Nix W w') := fun W hW => lives_any W (HT.out.nix hW)
  have KL : Hid (∀ W, Frm Nix w W → Calls Tryz.prog 4 #[.slice A n c] W fun e w' => e = .returned (.bool (largeB l)) ∧ W = w') := fun W hW =>
    Large_any A n c l (OldB w) W HL.out (HR.out.frm hW fun _ _ => id) (Nat.le_trans hnc hcm) fun o ho => ⟨(HO.out o ho).dm, (HO.out o ho).a, (HO.out o ho).b⟩
  unfold maxLen at hcm hml
  clear hll hrd hok hm ht hfa hba hwa hsz
  unfold manV
  by_cases hbad : q < 0 ∨ 16777216 < q
  · by_cases hb0 : q < 0
    · have d0 : decide (q < 0) = true := decide_eq_true hb0
      clear hbad
      go_enter Tryz.func3, Tryz.ntmps3
      go_wp2_with fail
      rw [← HWA.out]
      refine (KV.out _ HFA.out).mono ?_
      rintro e w1 ⟨rfl, hf1⟩
      have HF1 := Lib.hid hf1
      clear hf1
      go_wp2
      go_ret
      exact ⟨rfl, HFA.out.trans HF1.out⟩
    · have d0 : decide (q < 0) = false := decide_eq_false hb0
      have d1 : decide (16777216 < q) = true := decide_eq_true (by omega)
      clear hbad
      go_enter Tryz.func3, Tryz.ntmps3
      go_wp2_with fail
      rw [← HWA.out]
      refine (KV.out _ HFA.out).mono ?_
      rintro e w1 ⟨rfl, hf1⟩
      have HF1 := Lib.hid hf1
      clear hf1
      go_wp2
      go_ret
      exact ⟨rfl, HFA.out.trans HF1.out⟩
  have hq0 : 0 ≤ q := by omega
  have hq1 : q ≤ 16777216 := by omega
  have d0 : decide (q < 0) = false := decide_eq_false (by omega)
  have d1 : decide (16777216 < q) = false := decide_eq_false (by omega)
  clear hbad
  cases hlb : largeB l with
  | true =>
    rw [hlb] at KL
    clear hlb
    go_enter Tryz.func3, Tryz.ntmps3
    go_wp2_with fail
    rw [← HWA.out]
    refine (KL.out _ HFA.out).mono ?_
    rintro e w1 ⟨rfl, rfl⟩
    go_wp2_with fail
    refine (KV.out _ HFA.out).mono ?_
    rintro e w1 ⟨rfl, hf1⟩
    have HF1 := Lib.hid hf1
    clear hf1
    go_wp2
    go_ret
    exact ⟨rfl, HFA.out.trans HF1.out⟩
  | false =>
  rw [hlb] at KL
  have HB := Lib.hid hlb
  have h150 := large_len hlb
  rw [HL.out] at h150
  clear hlb
  have x0 := HBA.out.cell 0
  have x1 := HBA.out.cell 1
  have x2 := HBA.out.cell 2
  simp at x0 x1 x2
  by_cases hsg : 100 < m.segs.length
  · have d2 : decide ((100 : Int) < (m.segs.length : Int)) = true := decide_eq_true (by omega)
    clear hsg
    go_enter Tryz.func3, Tryz.ntmps3
    go_wp2_with fail
    rw [← HWA.out]
    refine (KL.out _ HFA.out).mono ?_
    rintro e w1 ⟨rfl, rfl⟩
    go_wp2_with fail
    refine (KV.out _ HFA.out).mono ?_
    rintro e w1 ⟨rfl, hf1⟩
    have HF1 := Lib.hid hf1
    clear hf1
    go_wp2
    go_ret
    exact ⟨rfl, HFA.out.trans HF1.out⟩
  have d2 : decide ((100 : Int) < (m.segs.length : Int)) = false := decide_eq_false (by omega)
  have KC : Hid (∀ W, Frm Nix w W → Calls Tryz.prog 10 #[.agg #[.int .i64 m.gen, .int .i64 m.snap, .slice mA m.segs.length mc]] W fun e w' => e = .returned (.bool (manOk m)) ∧ Frm Nix W w') := fun W hW => rCheck_any m mA mc _ W (HM.out.nix hW)
  go_enter Tryz.func3, Tryz.ntmps3
  go_wp2_with fail
  rw [← HWA.out]
  refine (KL.out _ HFA.out).mono ?_
  rintro e w1 ⟨rfl, rfl⟩
  go_wp2_with fail
  refine (New_yes q wa w.heap.size HFA.out.size (by omega) (by omega)).mono ?_
  rintro e wb ⟨g, F, rfl, hd, hfb, hkb⟩
  go_wp2_with fail
  refine (rNew_yes q wb w.heap.size (Nat.le_trans HFA.out.size hfb.size) (by omega) (by omega)).mono ?_
  rintro e wc ⟨g', F', rfl, hx, hfc, hkc⟩
  have HN : Hid (∀ W, Frm Nix wc W → Two w wa g g' 0 (dsk0 q) W) := fun W hW => Two.new2 HFA.out hd hfb hkb hx hfc hkc hW
  have HFC : Hid (Frm Nix w wc) := (HFA.out.trans hfb).trans hfc
  clear hd hfb hkb hx hfc hkc x0 x1 x2
  go_wp2_with fail
  refine (KV.out _ HFC.out).mono ?_
  rintro e w1 ⟨rfl, hf1⟩
  have HT2 := Lib.hid (HN.out _ hf1)
  clear hf1 HN HFC
  go_wp2
  go_loopw [10] (fun i wr => ∃ (k : Nat) (D : Dsk), k ≤ n ∧ i = .int .i64 k ∧ Two w wa g g' k D wr) (fun i _ => n - (intOf i).toNat)
  case atStart => exact ⟨0, _, Nat.zero_le _, rfl, HT2.out⟩
  case round =>
    obtain ⟨k, D, hk, rfl, htw⟩ := hrel
    clear HT2
    have HT2 := Lib.hid htw
    clear htw
    by_cases hlt : k < n
    · have hkl : k < l.length := by rw [HL.out]; exact hlt
      obtain ⟨b, off, rfl, -, hbl, hcell⟩ := rd_ops HR.out HL.out (by omega)
      have hc := fun j u (hu : l[k].cells[j]? = some u) => (HT2.out.all.cell (p := ⟨b, off + k * 6 + j, none⟩) hbl id).trans (hcell k hkl j u hu)
      have KD := Lib.hid (HT2.out.call l[k] (HO.out _ (List.getElem_mem hkl)) (OpV.Ok.small (W := w) HB.out (List.getElem_mem hkl)) (by omega))
      obtain ⟨o, ho⟩ : ∃ o, l[k] = o := ⟨_, rfl⟩
      simp only [ho] at hc
      rw [ho] at KD
      obtain ⟨kk, a, b', mm, dA, dn, dc, dl, kA, kn, kc, kl⟩ := o
      have c0 := hc 0 _ rfl
      rw [Nat.add_zero] at c0
      have c1 := hc 1 _ rfl
      have c2 := hc 2 _ rfl
      have c3 := hc 3 _ rfl
      have c4 := hc 4 _ rfl
      have c5 := hc 5 _ rfl
      clear hc hcell ho hkl
      go_wp2_with fail
      refine KD.out.mono ?_
      rintro e w2 ⟨rfl, ht2⟩
      have HT3 := Lib.hid ht2
      clear ht2 c0 c1 c2 c3 c4 c5
      go_wp2
      go_roundw
      case rel => exact ⟨k + 1, _, by omega, by go_num, HT3.out⟩
      case measure => simp [intOf]; omega
    · obtain rfl : k = n := by omega
      have hb := HBA.out.frm HT2.out.frm id
      have x0 := hb.cell 0
      have x1 := hb.cell 1
      have x2 := hb.cell 2
      simp at x0 x1 x2
      clear hb
      have hst := HT2.out.deeds
      have HD : Hid (∃ (D' : Dsk) (cd : Int), (manOk m = true ∧ D' = (swDsk D (manPut m)).1 ∧ cd = (swDsk D (manPut m)).2 ∨ manOk m = false ∧ D' = D ∧ cd = 1)) := by
        cases hom : manOk m with
        | true => exact ⟨_, _, .inl ⟨rfl, rfl, rfl⟩⟩
        | false => exact ⟨_, _, .inr ⟨rfl, rfl, rfl⟩⟩
      -- what comes behind both switches
      have HEnd : Hid (∀ (D' : Dsk) (k' : Nat) (W : World), Two w wa g g' k' D' W → (∀ W1, Frm Nix W W1 → Two w wa g g' k' D' W1)) := fun D' k' W h W1 hf => h.nix hf
      cases hom : manOk m with
      | false =>
        have KS : Hid (∀ W, Frm Nix w W → Calls Tryz.prog 9 #[.pointer (some ⟨g, 0, none⟩), .agg #[.int .i64 m.gen, .int .i64 m.snap, .slice mA m.segs.length mc]] W fun e w' => e = .returned (.int .i64 1) ∧ Frm Nix W w') := fun W hW => pSwitch_no m mA mc _ _ W (HM.out.nix hW) hom
        rw [hom] at KC
        clear hom HD
        go_wp2_with fail
        refine (KS.out _ HT2.out.all).mono ?_
        rintro e w2 ⟨rfl, hf2⟩
        have HT3 := Lib.hid (HT2.out.nix hf2)
        clear hf2
        have hb := HBA.out.frm HT3.out.frm id
        have x0 := hb.cell 0
        have x1 := hb.cell 1
        have x2 := hb.cell 2
        simp at x0 x1 x2
        clear hb
        go_wp2_with fail
        refine (KC.out _ HT3.out.all).mono ?_
        rintro e w3 ⟨rfl, hf3⟩
        have HT4 := Lib.hid (HT3.out.nix hf3)
        clear hf3
        have hro := rdDsk_ok D
        have KR := Lib.hid (HT4.out.pread (HT.out.nix HT4.out.all))
        have KX : Hid (∀ W, Frm Nix w3 W → Calls Tryz.prog 13 #[.pointer (some ⟨g', 0, none⟩)] W (ReadMOut W (rdDsk D).1 (rdDsk D).2)) := fun W hW => (HT4.out.nix hW).rread
        generalize (rdDsk D).1 = r at *
        generalize (rdDsk D).2 = rn at *
        have HRO := Lib.hid hro
        have hr32 := man_len2 hro
        clear hro
        go_wp2_with fail
        refine KR.out.mono ?_
        rintro e w5 ⟨A5, c5, rfl, hr5⟩
        unfold manV
        have hfb : Frm Nix w5 (w5.alloc (.cells #[.int .i64 r.gen, .int .i64 r.snap, .slice A5 r.segs.length c5] 25)) := (Frm.refl Nix w5).alloc _
        obtain ⟨w6, hw6⟩ : ∃ w6, w6 = w5.alloc (.cells #[.int .i64 r.gen, .int .i64 r.snap, .slice A5 r.segs.length c5] 25) := ⟨_, rfl⟩
        rw [← hw6] at hfb
        have H6 : Hid (Frm Nix w3 w6 ∧ Blk w6 w5.heap.size 25 #[.int .i64 r.gen, .int .i64 r.snap, .slice A5 r.segs.length c5] ∧ ManIn w6 (fun k => (Value.slice A5 r.segs.length c5).ownBlock = some k) r A5 c5) := ⟨hr5.frm.trans hfb, by rw [hw6]; exact Blk.new w5 _ _, (hr5.manIn2 HRO.out).nix hfb⟩
        have HW6 := Lib.hid hw6
        clear hr5 hfb hw6
        go_wp2_with fail
        rw [← HW6.out]
        refine (KX.out _ H6.out.1).mono ?_
        rintro e w7 ⟨A7, c7, rfl, hr7⟩
        unfold manV
        have hfb : Frm Nix w7 (w7.alloc (.cells #[.int .i64 r.gen, .int .i64 r.snap, .slice A7 r.segs.length c7] 25)) := (Frm.refl Nix w7).alloc _
        obtain ⟨w8, hw8⟩ : ∃ w8, w8 = w7.alloc (.cells #[.int .i64 r.gen, .int .i64 r.snap, .slice A7 r.segs.length c7] 25) := ⟨_, rfl⟩
        rw [← hw8] at hfb
        have H8 : Hid (Two w wa g g' _ D w8 ∧ Blk w8 w5.heap.size 25 #[.int .i64 r.gen, .int .i64 r.snap, .slice A5 r.segs.length c5] ∧ ManIn w8 (fun k => (Value.slice A5 r.segs.length c5).ownBlock = some k) r A5 c5 ∧ Blk w8 w7.heap.size 25 #[.int .i64 r.gen, .int .i64 r.snap, .slice A7 r.segs.length c7] ∧ ManIn w8 (fun k => (Value.slice A7 r.segs.length c7).ownBlock = some k) r A7 c7) :=
          ⟨HT4.out.nix (H6.out.1.trans (hr7.frm.trans hfb)), (H6.out.2.1.frm hr7.frm id).frm hfb id, H6.out.2.2.nix (hr7.frm.trans hfb), by rw [hw8]; exact Blk.new w7 _ _, (hr7.manIn2 HRO.out).nix hfb⟩
        have HW8 := Lib.hid hw8
        clear hr7 hfb hw8
        have y0 := H8.out.2.1.cell 0
        have y1 := H8.out.2.1.cell 1
        have y2 := H8.out.2.1.cell 2
        have z0 := H8.out.2.2.2.1.cell 0
        have z1 := H8.out.2.2.2.1.cell 1
        have z2 := H8.out.2.2.2.1.cell 2
        simp at y0 y1 y2 z0 z1 z2
        have KE : Hid (Calls Tryz.prog 14 #[.agg #[.int .i64 r.gen, .int .i64 r.snap, .slice A5 r.segs.length c5], .agg #[.int .i64 r.gen, .int .i64 r.snap, .slice A7 r.segs.length c7]] w8 fun e w' => e = .returned (.bool true) ∧ Frm Nix w8 w') := (rSame_any r r A5 A7 c5 c7 _ _ w8 H8.out.2.2.1 H8.out.2.2.2.2 (by omega) (by omega)).mono fun e w' h => by rwa [(manEq_iff r r).2 rfl] at h
        rw [HW8.out] at y0 y1 y2 z0 z1 z2
        go_wp2_with fail
        rw [← HW8.out]
        refine KE.out.mono ?_
        rintro e w9 ⟨rfl, hf9⟩
        have H9 := Lib.hid (H8.out.1.nix hf9)
        clear hf9
        go_wp2_with fail
        refine H9.out.alike.mono ?_
        rintro e w10 ⟨rfl, hf10⟩
        have H10 := Lib.hid (H9.out.all.trans hf10)
        clear hf10
        go_wp2
        go_ret
        exact ⟨rfl, H10.out⟩
      | true =>
        have KS := Lib.hid (HT2.out.pswitch m mA mc _ (HM.out.nix HT2.out.all) hom (HT.out.nix HT2.out.all) HT.out.lt HG.out (by omega))
        have KW : Hid (∀ W, Half w wa g g' (k + 4) D (swDsk D (manPut m)).1 W → Calls Tryz.prog 11 #[.pointer (some ⟨g', 0, none⟩), .agg #[.int .i64 m.gen, .int .i64 m.snap, .slice mA m.segs.length mc]] W fun e w2 => e = .returned (.int .i64 (swDsk D (manPut m)).2) ∧ Two w wa g g' (k + 4) (swDsk D (manPut m)).1 w2) := fun W hW =>
          hW.rswitch mA mc _ (HM.out.nix (HFA.out.trans hW.frm)) hom HG.out (by omega)
        unfold manV at KS
        obtain ⟨D', hD'⟩ : ∃ D', D' = (swDsk D (manPut m)).1 := ⟨_, rfl⟩
        obtain ⟨cd, hcd⟩ : ∃ cd, cd = (swDsk D (manPut m)).2 := ⟨_, rfl⟩
        rw [← hD', ← hcd] at KS KW
        rw [hom] at KC
        clear hom HD hD' hcd
        go_wp2_with fail
        refine KS.out.mono ?_
        rintro e w2 ⟨rfl, hh2⟩
        have HH2 := Lib.hid hh2
        clear hh2
        have hb := HBA.out.frm HH2.out.frm id
        have x0 := hb.cell 0
        have x1 := hb.cell 1
        have x2 := hb.cell 2
        simp at x0 x1 x2
        clear hb
        go_wp2_with fail
        refine (KC.out _ (HFA.out.trans HH2.out.frm)).mono ?_
        rintro e w3 ⟨rfl, hf3⟩
        have HH3 := Lib.hid (HH2.out.nix hf3)
        clear hf3
        have hb := HBA.out.frm HH3.out.frm id
        have x0 := hb.cell 0
        have x1 := hb.cell 1
        have x2 := hb.cell 2
        simp at x0 x1 x2
        clear hb
        go_wp2_with fail
        refine (KW.out _ HH3.out).mono ?_
        rintro e w4 ⟨rfl, ht4⟩
        have HT4 := Lib.hid ht4
        clear ht4
        have hro := rdDsk_ok D'
        have KR := Lib.hid (HT4.out.pread (HT.out.nix HT4.out.all))
        have KX : Hid (∀ W, Frm Nix w4 W → Calls Tryz.prog 13 #[.pointer (some ⟨g', 0, none⟩)] W (ReadMOut W (rdDsk D').1 (rdDsk D').2)) := fun W hW => (HT4.out.nix hW).rread
        generalize (rdDsk D').1 = r at *
        generalize (rdDsk D').2 = rn at *
        have HRO := Lib.hid hro
        have hr32 := man_len2 hro
        clear hro
        go_wp2_with fail
        refine KR.out.mono ?_
        rintro e w5 ⟨A5, c5, rfl, hr5⟩
        unfold manV
        have hfb : Frm Nix w5 (w5.alloc (.cells #[.int .i64 r.gen, .int .i64 r.snap, .slice A5 r.segs.length c5] 25)) := (Frm.refl Nix w5).alloc _
        obtain ⟨w6, hw6⟩ : ∃ w6, w6 = w5.alloc (.cells #[.int .i64 r.gen, .int .i64 r.snap, .slice A5 r.segs.length c5] 25) := ⟨_, rfl⟩
        rw [← hw6] at hfb
        have H6 : Hid (Frm Nix w4 w6 ∧ Blk w6 w5.heap.size 25 #[.int .i64 r.gen, .int .i64 r.snap, .slice A5 r.segs.length c5] ∧ ManIn w6 (fun k => (Value.slice A5 r.segs.length c5).ownBlock = some k) r A5 c5) := ⟨hr5.frm.trans hfb, by rw [hw6]; exact Blk.new w5 _ _, (hr5.manIn2 HRO.out).nix hfb⟩
        have HW6 := Lib.hid hw6
        clear hr5 hfb hw6
        go_wp2_with fail
        rw [← HW6.out]
        refine (KX.out _ H6.out.1).mono ?_
        rintro e w7 ⟨A7, c7, rfl, hr7⟩
        unfold manV
        have hfb : Frm Nix w7 (w7.alloc (.cells #[.int .i64 r.gen, .int .i64 r.snap, .slice A7 r.segs.length c7] 25)) := (Frm.refl Nix w7).alloc _
        obtain ⟨w8, hw8⟩ : ∃ w8, w8 = w7.alloc (.cells #[.int .i64 r.gen, .int .i64 r.snap, .slice A7 r.segs.length c7] 25) := ⟨_, rfl⟩
        rw [← hw8] at hfb
        have H8 : Hid (Two w wa g g' _ D' w8 ∧ Blk w8 w5.heap.size 25 #[.int .i64 r.gen, .int .i64 r.snap, .slice A5 r.segs.length c5] ∧ ManIn w8 (fun k => (Value.slice A5 r.segs.length c5).ownBlock = some k) r A5 c5 ∧ Blk w8 w7.heap.size 25 #[.int .i64 r.gen, .int .i64 r.snap, .slice A7 r.segs.length c7] ∧ ManIn w8 (fun k => (Value.slice A7 r.segs.length c7).ownBlock = some k) r A7 c7) :=
          ⟨HT4.out.nix (H6.out.1.trans (hr7.frm.trans hfb)), (H6.out.2.1.frm hr7.frm id).frm hfb id, H6.out.2.2.nix (hr7.frm.trans hfb), by rw [hw8]; exact Blk.new w7 _ _, (hr7.manIn2 HRO.out).nix hfb⟩
        have HW8 := Lib.hid hw8
        clear hr7 hfb hw8
        have y0 := H8.out.2.1.cell 0
        have y1 := H8.out.2.1.cell 1
        have y2 := H8.out.2.1.cell 2
        have z0 := H8.out.2.2.2.1.cell 0
        have z1 := H8.out.2.2.2.1.cell 1
        have z2 := H8.out.2.2.2.1.cell 2
        simp at y0 y1 y2 z0 z1 z2
        have KE : Hid (Calls Tryz.prog 14 #[.agg #[.int .i64 r.gen, .int .i64 r.snap, .slice A5 r.segs.length c5], .agg #[.int .i64 r.gen, .int .i64 r.snap, .slice A7 r.segs.length c7]] w8 fun e w' => e = .returned (.bool true) ∧ Frm Nix w8 w') := (rSame_any r r A5 A7 c5 c7 _ _ w8 H8.out.2.2.1 H8.out.2.2.2.2 (by omega) (by omega)).mono fun e w' h => by rwa [(manEq_iff r r).2 rfl] at h
        rw [HW8.out] at y0 y1 y2 z0 z1 z2
        go_wp2_with fail
        rw [← HW8.out]
        refine KE.out.mono ?_
        rintro e w9 ⟨rfl, hf9⟩
        have H9 := Lib.hid (H8.out.1.nix hf9)
        clear hf9
        go_wp2_with fail
        refine H9.out.alike.mono ?_
        rintro e w10 ⟨rfl, hf10⟩
        have H10 := Lib.hid (H9.out.all.trans hf10)
        clear hf10
        go_wp2
        go_ret
        exact ⟨rfl, H10.out⟩

theorem own : ownKnob Tryz.prog.godebug = none := by kernel_rfl
theorem laidOut : laidOutB Tryz.prog = true := by kernel_rfl

set_option maxRecDepth 100000 in
theorem lifted (os : Os) (started : os.Started) (H : Type) (enc : TypeId × Value → H) :
    ReturnsInHanded {} Tryz.checked os 3 .any (fun w args => (Rows.manifestSwitchesSpec.pre enc Tryz.prog Tryz.f3 [] false w args ∧ laidMetH Tryz.prog laid1 w) ∧ sizedMet enc Tryz.prog Tryz.f3 (OpenSpec.ofChange Rows.manifestSwitchesSpec) false w args)
      (Rows.manifestSwitchesSpec.post enc Tryz.prog Tryz.f3 false true false false) := by
  refine returnsInHanded_of_change_and (C := Tryz.checked) (X := fun w _ => laidMetH Tryz.prog laid1 w) (fun _ _ _ hh h => h.of_heap hh) own started (by kernel_rfl) Tryz.func3
    (ChangeSpec.witness_shaped (enc := enc) (C := Tryz.checked) (os := os) (X := fun w _ => laidMetH Tryz.prog laid1 w) false (World.doorLaid Tryz.prog 400 os) #[.int .i64 0, .slice none 0 0, .agg #[.int .i64 0, .int .i64 0, .slice none 0 0]] 8 rfl (World.shaped_of_RefB (by kernel_rfl) (by kernel_rfl)) (by kernel_rfl) (by kernel_rfl) (by kernel_rfl) (door_met os _)) ?_
  intro W base args ds gs before hval0 hW _ _ hL _
  have hval : ∀ (j : Nat) t v, Tryz.f3.params[j]? = some t → args[j]? = some v → Value.okWide Tryz.prog W .any base t v := hval0
  have hW' := hW
  obtain ⟨p, q, hA0, hV, rfl, hfz, hnd⟩ := hW
  have hA : DataW.TrodAll enc Tryz.prog W 0 (fun _ => true) true Tryz.f3.params.toList args.toList ds p := hA0
  rw [Tryz.params3] at hA hval
  obtain ⟨v0, vs0, d0, ds0, p0, q0, hargs, rfl, rfl, h0, r0⟩ := trodAll_cons hA
  obtain ⟨v1, vs1, d1, ds1, p1, q1, rfl, rfl, rfl, h1, r1⟩ := trodAll_cons r0
  obtain ⟨v2, vs2, d2, ds2, p2, q2, rfl, rfl, rfl, h2, r2⟩ := trodAll_cons r1
  obtain ⟨rfl, rfl, rfl⟩ := trodAll_nil r2
  obtain rfl : args = #[v0, v1, v2] := by cases args; simp_all
  obtain ⟨rfl, rfl⟩ := trodVars_none hV
  have k0 := h0
  have lt0 : ∀ x ∈ p0, x.block < W.heap.size := by obtain ⟨m, hm⟩ := k0; exact DataW.trod_lt m _ _ _ hm
  obtain ⟨x0, rfl, rfl, rfl, wx0⟩ := open_int Tryz.underlying3 (hval 0 3 v0 rfl rfl) h0
  have k1 := h1
  have lt1 : ∀ x ∈ p1, x.block < W.heap.size := by obtain ⟨m, hm⟩ := k1; exact DataW.trod_lt m _ _ _ hm
  obtain ⟨a1, n1, c1, l1, rfl, wx1⟩ : ∃ a n c, ∃ l : List OpV, v1 = .slice a n c ∧ l.length = n ∧ Rd W (OldB W) 6 a n (l.flatMap OpV.cells) ∧ (∀ o ∈ l, o.Ok W) ∧ NilOk a n c ∧ n ≤ c ∧ c ≤ maxLen := by
    obtain ⟨a, n, c, rfl⟩ := okWide_slice Tryz.underlying22 (hval 1 22 v1 rfl rfl)
    obtain ⟨fuel, hf⟩ := h1
    obtain ⟨A, n', c', l, e, hk⟩ := vOps hf
    simp [Value.cells] at e
    obtain ⟨rfl, rfl, rfl⟩ := e
    exact ⟨_, _, _, l, rfl, hk⟩
  have k2 := h2
  have lt2 : ∀ x ∈ p2, x.block < W.heap.size := by obtain ⟨m, hm⟩ := k2; exact DataW.trod_lt m _ _ _ hm
  obtain ⟨m2, a2, c2, rfl, wx2⟩ : ∃ m A c, v2 = manV m A c ∧ ManIn W (OldB W) m A c := by
    obtain ⟨cs, rfl, -⟩ := okWide_struct Tryz.underlying25 (hval 2 25 v2 rfl rfl)
    obtain ⟨fuel, hf⟩ := h2
    obtain ⟨m, A, c, ho, hk⟩ := vMan hf
    exact ⟨m, A, c, by unfold manV; rw [← ho]; rfl, hk⟩
  clear hA0 hval0
  refine (walk x0 a1 n1 c1 l1 m2 a2 c2 W (wf_i64 wx0) wx1 wx2 (tab_of_laid hL)).mono fun e W' ⟨he, hfr⟩ => ?_
  have bel : Below W.heap.size W W' := hfr.below (fun _ h => absurd h id) (Nat.le_refl _)
  subst he
  exact ⟨_, rfl, _, _, _, [], _, [], hW', trodAll_mk1 (shut_bool Tryz.underlying4 _), (trodAll_cons_mk (Below.trod laidOut (by kernel_rfl) (of_decide_eq_true (by kernel_rfl)) k0 bel lt0) (trodAll_cons_mk (Below.trod laidOut (by kernel_rfl) (of_decide_eq_true (by kernel_rfl)) k1 bel lt1) (trodAll_cons_mk (Below.trod laidOut (by kernel_rfl) (of_decide_eq_true (by kernel_rfl)) k2 bel lt2) trodAll_mk0))), rfl, bel.frame _, fun h => by cases h⟩

theorem proved : Rows.ManifestSwitchesSaid :=
  OpenClaim.holds_of_wide 3 Tryz.f3 rfl rfl rfl rfl rfl rfl rfl ⟨rfl, rfl, rfl, rfl, rfl⟩ rfl rfl rfl rfl rfl (by kernel_rfl) Tryz.func3 (by kernel_rfl)
    (of_decide_eq_true (by kernel_rfl)) (by unfold Func.isWrapper; first | (rw [if_pos (by decide +kernel)]; kernel_rfl) | (rw [if_neg (by decide +kernel)]; exact ⟨rfl, rfl⟩))
    (fun os started H enc _ => lifted os started H enc)
#print axioms proved

theorem card : Rows.ManifestSwitchesCardSaid :=
  Claim7.holds_tied_plain_at .later [] [.data] true (true, "8abc485501e4e63f4bc7e18f015ec5f086b2176f99642b40c1bd5c9c87c62cf9") false
    proved (fun _ h => by cases h) (by kernel_rfl) (fun _ h => by cases h) manifestSwitches_row_tie rfl ⟨rfl, rfl⟩ (by kernel_rfl) rfl
    (fun f fn hf hfn => by
      obtain rfl : f = 3 := Option.some.inj ((show Tryz.prog.funcNamed "newsstand/newsstandlaw19.ManifestSwitches" = some 3 by kernel_rfl).symm.trans hf) |>.symm
      obtain rfl : fn = Tryz.f3 := (Option.some.inj (Tryz.func3.symm.trans hfn)).symm
      exact ⟨by kernel_rfl, fun j t ht => by
        rw [Tryz.params3] at ht
        have hm : t ∈ [3, 22, 25] := by simpa using Array.mem_of_getElem? ht
        have hall : ([3, 22, 25].all fun u => !Tryz.prog.wantsStandIn u) = true := by kernel_rfl
        exact (show Tryz.prog.wantsStandIn t = false by simpa using List.all_eq_true.1 hall t hm)⟩)
    (by kernel_rfl)
#print axioms card
end manifestSwitches
end Go.Proofs.YtdgpaddmheagoaaGreatDoor
