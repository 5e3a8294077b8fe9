/-
  Contracts: the document's Check: feeds.
-/
import Derived.Test.YtjbifjgeheigoaaGreatGa58
import Derived.Deep.RegionHeld3
import Derived.Test.YtjbifjgeheigoaaGreatGa48
import Derived.Test.YtjbifjgeheigoaaGreatGa45
import Derived.Test.YtjbifjgeheigoaaGreatRows
import Derived.Test.YtjbifjgeheigoaaGreatGa57
import Derived.OpenShut
import Derived.ShutString
import Derived.ChangeOld
section
set_option linter.unusedVariables false
set_option linter.unusedSimpArgs false
namespace Go.Proofs.YtjbifjgeheigoaaGreat
open Go.RowKit Go.Lib

set_option maxRecDepth 100000 in
set_option maxHeartbeats 16000000 in
theorem rFeeds_any {w : World} {fo fe it se : Sl} {ts : List (Sl × Itm)} {x : St} {G : Nat → Prop} (hS : StIn w G fo fe it se ts x) (hsm : StSmall x) :
    Calls Tryz.prog 91 #[stV fo fe it se x] w fun e w' => e = .returned (.bool (feesOk x)) ∧ Frm Nix w w' := by
  obtain ⟨w0, hw0, hf0, hb0⟩ := box_st w fo fe it se x
  have hcap := hsm.fees
  obtain ⟨x0, x1, x2, x3, x4, x5, x6, x7, x8⟩ := blk9 hb0
  have HS := Lib.hid (hS.nix hf0)
  have HSm := Lib.hid hsm
  have HB := Lib.hid hb0
  have HF0 := Lib.hid hf0
  have HW := Lib.hid hw0
  obtain ⟨P, hP⟩ : ∃ P : List Fee → Fee → Bool, P = (fun (pre : List Fee) (f : Fee) => evOk ⟨3, f.id, f.inn, 0, f.url, f.title, eS⟩ && decide (f.id ≤ x.tFee) && risesI Fee.id pre f && inS x f.inn && !(pre.any fun g => g.url = f.url)) := ⟨_, rfl⟩
  have HP : Hid (∀ pre f, P pre f = ((fun (pre : List Fee) (f : Fee) => evOk ⟨3, f.id, f.inn, 0, f.url, f.title, eS⟩ && decide (f.id ≤ x.tFee) && risesI Fee.id pre f && inS x f.inn && !(pre.any fun g => g.url = f.url)) pre f)) := by rw [hP]; exact fun _ _ => rfl
  have HNo0 : Hid (allG P [] x.fees = false → feesOk x = false) := fun h => by unfold feesOk; rw [← hP, h]; rfl
  have HYes0 : Hid (allG P [] x.fees = true → feesOk x = (decide (x.fees.length ≤ 64) && decide (0 ≤ x.tFee ∧ x.tFee ≤ 1048576))) := fun h => by unfold feesOk; rw [← hP, h]; simp
  clear hS hsm hw0 hf0 hb0 hP
  unfold stV
  obtain ⟨A, c⟩ := fe
  dsimp only at x1 x2 x3 x4 HS HB HW ⊢
  go_enter Tryz.func91, Tryz.ntmps91
  show Code.wp Tryz.prog (peel 0 (bodyOf Tryz.f91)) _ _ _
  have e1 : peel 0 (bodyOf Tryz.f91) = .seq (hdC (peel 0 (bodyOf Tryz.f91))) (peel 1 (bodyOf Tryz.f91)) := by kernel_rfl
  rw [e1]
  clear e1
  refine wp_seq_k fun K hK => ?_
  conv in hdC _ => whnf
  go_wp2
  rw [← HW.out]
  have e1 : peel 1 (bodyOf Tryz.f91) = .seq (hdC (peel 1 (bodyOf Tryz.f91))) (peel 2 (bodyOf Tryz.f91)) := by kernel_rfl
  rw [e1]
  clear e1
  refine wp_seq_k fun K hK => ?_
  conv in hdC _ => whnf
  go_wp2
  go_loopw [3] (fun kv wr => ∃ k : Nat, k ≤ x.fees.length ∧ kv = .int .i64 k ∧ (∀ (j : Nat) (hj : j < x.fees.length), j < k → P (x.fees.take j) (x.fees[j]'hj) = true) ∧ Frm Nix w0 wr) (fun kv _ => x.fees.length - (intOf kv).toNat)
  case atStart => exact ⟨0, by omega, rfl, fun j hj h => absurd h (by omega), Frm.refl _ _⟩
  case round =>
    obtain ⟨k, hk, rfl, ht, hf⟩ := hrel
    have HT := Lib.hid ht
    have HF := Lib.hid hf
    clear ht hf x0 x1 x2 x3 x4 x5 x6 x7 x8
    obtain ⟨x0, x1, x2, x3, x4, x5, x6, x7, x8⟩ := blk9 (HB.out.frm HF.out id)
    by_cases hlt : k < x.fees.length
    · obtain ⟨b, off, hA, -, hbl, hcell⟩ := (HS.out.fees.nix HF.out).at_ Fee.clen (by decide) (by omega)
      dsimp only at hA
      subst hA
      have HNo := Lib.hid (fun h => HNo0.out (allG_no (p := P) hlt h))
      have HStep : Hid (P (x.fees.take k) x.fees[k] = true → ∀ (j : Nat) (hj : j < x.fees.length), j < k + 1 → P (x.fees.take j) (x.fees[j]'hj) = true) := fun h j hj hjk => by
        by_cases e : j = k
        · subst e; exact h
        · exact HT.out j hj (by omega)
      have HCell : Hid (∀ W, Frm Nix wr W → ∀ (i : Nat) (hi : i < x.fees.length) (j : Nat) (u : Value), (Fee.cells x.fees[i])[j]? = some u → W.cell? ⟨b, off + i * 4 + j, none⟩ = some u) := fun W hW i hi j u hu => (hW.cell (p := ⟨b, off + i * 4 + j, none⟩) hbl id).trans (hcell i hi j u hu)
      obtain ⟨p0, p1, p2, p3⟩ := Feecs (w := wr) (b := b) (off := off + k * 4) (e := x.fees[k]) (hcell k hlt)
      obtain ⟨q, hq⟩ : ∃ q, x.fees[k] = q := ⟨_, rfl⟩
      rw [hq] at p0 p1 p2 p3 HNo HStep
      clear hcell hq
      have HPq := Lib.hid (HP.out (x.fees.take k) q)
      obtain ⟨w1, hw1⟩ : ∃ w1, w1 = wr.alloc (.cells #[.int .i64 q.id, .int .i64 q.inn, .string q.url, .string q.title] 60) := ⟨_, rfl⟩
      have f1 : Frm Nix wr w1 := by rw [hw1]; exact (Frm.refl Nix wr).alloc _
      have hb4 : Blk w1 wr.heap.size 60 #[.int .i64 q.id, .int .i64 q.inn, .string q.url, .string q.title] := by rw [hw1]; exact Blk.new _ _ _
      have HW1 := Lib.hid hw1
      have HF1 := Lib.hid f1
      have HB4 := Lib.hid hb4
      have hbx := (HB.out.frm HF.out id).frm f1 id
      have z := fun y : FW (Frm Nix w1) => blk9 (hbx.frm y.h id)
      have z0 := fun y => (z y).1
      have z1 := fun y => (z y).2.1
      have z2 := fun y => (z y).2.2.1
      have z3 := fun y => (z y).2.2.2.1
      have z4 := fun y => (z y).2.2.2.2.1
      have z5 := fun y => (z y).2.2.2.2.2.1
      have z6 := fun y => (z y).2.2.2.2.2.2.1
      have z7 := fun y => (z y).2.2.2.2.2.2.2.1
      have z8 := fun y => (z y).2.2.2.2.2.2.2.2
      have HBx := Lib.hid hbx
      have r0 := fun y : FW (Frm Nix w1) => (show y.w.cell? ⟨wr.heap.size, 0, none⟩ = some (.int .i64 q.id) from (hb4.frm y.h id).cell 0)
      have r1 := fun y : FW (Frm Nix w1) => (show y.w.cell? ⟨wr.heap.size, 1, none⟩ = some (.int .i64 q.inn) from (hb4.frm y.h id).cell 1)
      have r2 := fun y : FW (Frm Nix w1) => (show y.w.cell? ⟨wr.heap.size, 2, none⟩ = some (.string q.url) from (hb4.frm y.h id).cell 2)
      have r3 := fun y : FW (Frm Nix w1) => (show y.w.cell? ⟨wr.heap.size, 3, none⟩ = some (.string q.title) from (hb4.frm y.h id).cell 3)
      have KC := fun y : FW (Frm Nix w1) => (show Calls Tryz.prog 89 #[.agg #[.int .i64 3, .int .i64 q.id, .int .i64 q.inn, .int .i64 0, .string q.url, .string q.title, .string ⟨#[]⟩]] y.w fun e w' => e = .returned (.bool (evOk ⟨3, q.id, q.inn, 0, q.url, q.title, eS⟩)) ∧ Frm Nix y.w w' from rCheck_any ⟨3, q.id, q.inn, 0, q.url, q.title, eS⟩ y.w)
      have KD := fun y : FW (Frm Nix w1) => (show Calls Tryz.prog 40 #[.agg #[.int .i64 x.clock, .slice fo.1 x.fols.length fo.2, .slice (some ⟨b, off, none⟩) x.fees.length c, .slice it.1 x.itms.length it.2, .slice se.1 x.seas.length se.2, .int .i64 x.tFol, .int .i64 x.tFee, .int .i64 x.tItm, .int .i64 x.tSea], .int .i64 q.inn] y.w fun e w' => e = .returned (.int .i64 (posR Fol.id q.inn x.fols)) ∧ Frm Nix y.w w' from rFolder_any ((HS.out.nix (HF.out.trans f1)).nix y.h) HSm.out q.inn)
      clear z hbx hb4 f1 hw1
      cases h0 : evOk ⟨3, q.id, q.inn, 0, q.url, q.title, eS⟩ with
      | false =>
        rw [h0] at KC
        go_wp2_with fail
        rw [← HW1.out]
        refine wp_region_class (Frm Nix w1) ((Frm.refl Nix w1).drew) (by kernel_rfl) (by kernel_rfl) ?_
        repeat (go_big_quiet_step (first
          | (rename_i y; go_at_call 89; refine y.call (KC y) ?_; exact fun w' hf => y.h.trans hf)
          | (rename_i y; go_at_call 40; refine y.call (KD y) ?_; exact fun w' hf => y.h.trans hf)
          | fail))
        refine wpQuiet_nil ?_
        rintro w5 ⟨⟨_, hfw5⟩, rfl⟩
        go_wp2
        go_ret
        exact ⟨ret_bool (HNo.out (by rw [HPq.out, h0]; simp)).symm, HF0.out.trans (HF.out.trans (HF1.out.trans hfw5))⟩
      | true =>
        rw [h0] at KC
        by_cases h1 : x.tFee < q.id
        · have k1 : decide (x.tFee < q.id) = true := decide_eq_true h1
          go_wp2_with fail
          rw [← HW1.out]
          refine wp_region_class (Frm Nix w1) ((Frm.refl Nix w1).drew) (by kernel_rfl) (by kernel_rfl) ?_
          repeat (go_big_quiet_step (first
            | (rename_i y; go_at_call 89; refine y.call (KC y) ?_; exact fun w' hf => y.h.trans hf)
            | (rename_i y; go_at_call 40; refine y.call (KD y) ?_; exact fun w' hf => y.h.trans hf)
            | fail))
          refine wpQuiet_nil ?_
          rintro w5 ⟨⟨_, hfw5⟩, rfl⟩
          go_wp2
          go_ret
          exact ⟨ret_bool (HNo.out (by rw [HPq.out, decide_eq_false (show ¬ q.id ≤ x.tFee by omega)]; simp)).symm, HF0.out.trans (HF.out.trans (HF1.out.trans hfw5))⟩
        have k1 : decide (x.tFee < q.id) = false := decide_eq_false h1
        have hle : q.id ≤ x.tFee := by omega
        by_cases hk0 : 0 < k
        case neg =>
          have kA : decide ((0 : Int) < (k : Int)) = false := by first | (simp; done) | (simp; omega)
          have kB : decide (0 < k) = false := by first | (simp; done) | (simp; omega)
          have hr : risesI Fee.id (x.fees.take k) q = true := by rw [show k = 0 by omega]; exact rises_zero
          by_cases h3 : q.inn = 0
          · have k3 : (q.inn != 0) = false := by rw [h3]; rfl
            have hin : inS x q.inn = true := by unfold inS; rw [h3]; rfl
            clear h3
            go_wp2_with fail
            rw [← HW1.out]
            refine wp_region_class (Frm Nix w1) ((Frm.refl Nix w1).drew) (by kernel_rfl) (by kernel_rfl) ?_
            repeat (go_big_quiet_step (first
              | (rename_i y; go_at_call 89; refine y.call (KC y) ?_; exact fun w' hf => y.h.trans hf)
              | (rename_i y; go_at_call 40; refine y.call (KD y) ?_; exact fun w' hf => y.h.trans hf)
              | fail))
            refine wpQuiet_nil ?_
            rintro w5 ⟨⟨_, hfw5⟩, rfl⟩
            have HF5 := Lib.hid hfw5
            clear hfw5
            go_wp2
            go_loopw [5] (fun jv wv => ∃ j : Nat, j ≤ k ∧ jv = .int .i64 j ∧ (x.fees.take j).any (fun g => decide (g.url = q.url)) = false ∧ Frm Nix w1 wv) (fun jv _ => k - (intOf jv).toNat)
            case atStart => exact ⟨0, by omega, rfl, by simp, HF5.out⟩
            case round =>
              obtain ⟨j, hj, rfl, ht2, hf2⟩ := hrel
              have HT2 := Lib.hid ht2
              have HF2 := Lib.hid hf2
              clear ht2 hf2
              by_cases hjk : j < k
              · exfalso
                omega
              · obtain rfl : j = k := by omega
                have HE := HT2
                go_wp2
                go_roundw
                case rel => exact ⟨j + 1, by omega, by go_num, HStep.out (by rw [HPq.out, h0, hr, decide_eq_true hle, hin, HE.out]; rfl), HF.out.trans (HF1.out.trans HF2.out)⟩
                case measure => simp [intOf]; omega
          have k3 : (q.inn != 0) = true := by simp [h3]
          cases h4 : isI Fol.id q.inn x.fols with
          | false =>
            have hin : inS x q.inn = false := by unfold inS; rw [h4, decide_eq_false h3]; rfl
            rw [posR_end h4] at KD
            go_wp2_with fail
            rw [← HW1.out]
            refine wp_region_class (Frm Nix w1) ((Frm.refl Nix w1).drew) (by kernel_rfl) (by kernel_rfl) ?_
            repeat (go_big_quiet_step (first
              | (rename_i y; go_at_call 89; refine y.call (KC y) ?_; exact fun w' hf => y.h.trans hf)
              | (rename_i y; go_at_call 40; refine y.call (KD y) ?_; exact fun w' hf => y.h.trans hf)
              | fail))
            refine wpQuiet_nil ?_
            rintro w5 ⟨⟨_, hfw5⟩, rfl⟩
            go_wp2
            go_ret
            exact ⟨ret_bool (HNo.out (by rw [HPq.out, hin]; simp)).symm, HF0.out.trans (HF.out.trans (HF1.out.trans hfw5))⟩
          | true =>
            have hin : inS x q.inn = true := by unfold inS; rw [h4]; simp
            obtain ⟨pp, -, hpp, -⟩ := posR_at h4
            rw [hpp] at KD
            have k5 : decide ((pp : Int) < 0) = false := by simp
            go_wp2_with fail
            rw [← HW1.out]
            refine wp_region_class (Frm Nix w1) ((Frm.refl Nix w1).drew) (by kernel_rfl) (by kernel_rfl) ?_
            repeat (go_big_quiet_step (first
              | (rename_i y; go_at_call 89; refine y.call (KC y) ?_; exact fun w' hf => y.h.trans hf)
              | (rename_i y; go_at_call 40; refine y.call (KD y) ?_; exact fun w' hf => y.h.trans hf)
              | fail))
            refine wpQuiet_nil ?_
            rintro w5 ⟨⟨_, hfw5⟩, rfl⟩
            have HF5 := Lib.hid hfw5
            clear hfw5
            go_wp2
            go_loopw [5] (fun jv wv => ∃ j : Nat, j ≤ k ∧ jv = .int .i64 j ∧ (x.fees.take j).any (fun g => decide (g.url = q.url)) = false ∧ Frm Nix w1 wv) (fun jv _ => k - (intOf jv).toNat)
            case atStart => exact ⟨0, by omega, rfl, by simp, HF5.out⟩
            case round =>
              obtain ⟨j, hj, rfl, ht2, hf2⟩ := hrel
              have HT2 := Lib.hid ht2
              have HF2 := Lib.hid hf2
              clear ht2 hf2
              by_cases hjk : j < k
              · exfalso
                omega
              · obtain rfl : j = k := by omega
                have HE := HT2
                go_wp2
                go_roundw
                case rel => exact ⟨j + 1, by omega, by go_num, HStep.out (by rw [HPq.out, h0, hr, decide_eq_true hle, hin, HE.out]; rfl), HF.out.trans (HF1.out.trans HF2.out)⟩
                case measure => simp [intOf]; omega
        obtain ⟨i, rfl⟩ : ∃ i, k = i + 1 := ⟨k - 1, by omega⟩
        have kA : decide ((0 : Int) < ((i + 1 : Nat) : Int)) = true := by first | (simp; done) | (simp; omega)
        have kA2 : decide ((0 : Int) < (i : Int) + 1) = true := by first | (simp; done) | (simp; omega)
        have hil : i < x.fees.length := by omega
        have hr0 := rises_at (g := Fee.id) (a := q) (l := x.fees) (k := i) (by omega)
        have zp := fun y : FW (Frm Nix w1) => HCell.out y.w (HF1.out.trans y.h) i hil 0 _ rfl
        obtain ⟨pr, hpr⟩ : ∃ pr, x.fees[i] = pr := ⟨_, rfl⟩
        rw [hpr] at zp hr0
        rw [Nat.add_zero] at zp
        clear hpr
        by_cases h2 : q.id ≤ pr.id
        · have k2 : decide (q.id ≤ pr.id) = true := decide_eq_true h2
          have hr : risesI Fee.id (x.fees.take (i + 1)) q = false := by rw [hr0]; exact decide_eq_false (by omega)
          go_wp2_with fail
          rw [← HW1.out]
          refine wp_region_class (Frm Nix w1) ((Frm.refl Nix w1).drew) (by kernel_rfl) (by kernel_rfl) ?_
          repeat (go_big_quiet_step (first
            | (rename_i y; go_at_call 89; refine y.call (KC y) ?_; exact fun w' hf => y.h.trans hf)
            | (rename_i y; go_at_call 40; refine y.call (KD y) ?_; exact fun w' hf => y.h.trans hf)
            | fail))
          refine wpQuiet_nil ?_
          rintro w5 ⟨⟨_, hfw5⟩, rfl⟩
          go_wp2
          go_ret
          exact ⟨ret_bool (HNo.out (by rw [HPq.out, hr]; simp)).symm, HF0.out.trans (HF.out.trans (HF1.out.trans hfw5))⟩
        have k2 : decide (q.id ≤ pr.id) = false := decide_eq_false h2
        have hr : risesI Fee.id (x.fees.take (i + 1)) q = true := by rw [hr0]; exact decide_eq_true (by omega)
        by_cases h3 : q.inn = 0
        · have k3 : (q.inn != 0) = false := by rw [h3]; rfl
          have hin : inS x q.inn = true := by unfold inS; rw [h3]; rfl
          clear h3
          go_wp2_with fail
          rw [← HW1.out]
          refine wp_region_class (Frm Nix w1) ((Frm.refl Nix w1).drew) (by kernel_rfl) (by kernel_rfl) ?_
          repeat (go_big_quiet_step (first
            | (rename_i y; go_at_call 89; refine y.call (KC y) ?_; exact fun w' hf => y.h.trans hf)
            | (rename_i y; go_at_call 40; refine y.call (KD y) ?_; exact fun w' hf => y.h.trans hf)
            | fail))
          refine wpQuiet_nil ?_
          rintro w5 ⟨⟨_, hfw5⟩, rfl⟩
          have HF5 := Lib.hid hfw5
          clear hfw5
          go_wp2
          go_loopw [5] (fun jv wv => ∃ j : Nat, j ≤ (i + 1) ∧ jv = .int .i64 j ∧ (x.fees.take j).any (fun g => decide (g.url = q.url)) = false ∧ Frm Nix w1 wv) (fun jv _ => (i + 1) - (intOf jv).toNat)
          case atStart => exact ⟨0, by omega, rfl, by simp, HF5.out⟩
          case round =>
            obtain ⟨j, hj, rfl, ht2, hf2⟩ := hrel
            have HT2 := Lib.hid ht2
            have HF2 := Lib.hid hf2
            clear ht2 hf2
            by_cases hjk : j < (i + 1)
            · have hjl : j < x.fees.length := by omega
              have hkl : (i + 1) ≤ x.fees.length := by omega
              have hs1 := fun he => fst_step (p := fun g : Fee => decide (g.url = q.url)) hjl HT2.out (decide_eq_false he)
              have hs2 := fun he => take_any_ (l := x.fees) (q := fun g : Fee => decide (g.url = q.url)) (k := j) (i := (i + 1)) hjk hkl (decide_eq_true he)
              have hgc := fun y : FW (Frm Nix wr) => HCell.out y.w (HF1.out.trans (HF2.out.trans y.h)) j hjl
              obtain ⟨g, hg⟩ : ∃ g, x.fees[j] = g := ⟨_, rfl⟩
              rw [hg] at hs1 hs2 hgc
              have HS1 := Lib.hid hs1
              have HS2 := Lib.hid hs2
              have g0 := fun y : FW (Frm Nix wr) => hgc y 0 _ rfl
              have g1 := fun y : FW (Frm Nix wr) => hgc y 1 _ rfl
              have g2 := fun y : FW (Frm Nix wr) => hgc y 2 _ rfl
              have g3 := fun y : FW (Frm Nix wr) => hgc y 3 _ rfl
              have y0 := fun y : FW (Frm Nix wr) => r0 ⟨y.w, HF2.out.trans y.h⟩
              have y1 := fun y : FW (Frm Nix wr) => r1 ⟨y.w, HF2.out.trans y.h⟩
              have y2 := fun y : FW (Frm Nix wr) => r2 ⟨y.w, HF2.out.trans y.h⟩
              have y3 := fun y : FW (Frm Nix wr) => r3 ⟨y.w, HF2.out.trans y.h⟩
              have v0 := fun y : FW (Frm Nix wr) => z0 ⟨y.w, HF2.out.trans y.h⟩
              have v1 := fun y : FW (Frm Nix wr) => z1 ⟨y.w, HF2.out.trans y.h⟩
              have v2 := fun y : FW (Frm Nix wr) => z2 ⟨y.w, HF2.out.trans y.h⟩
              have v3 := fun y : FW (Frm Nix wr) => z3 ⟨y.w, HF2.out.trans y.h⟩
              have v4 := fun y : FW (Frm Nix wr) => z4 ⟨y.w, HF2.out.trans y.h⟩
              have v5 := fun y : FW (Frm Nix wr) => z5 ⟨y.w, HF2.out.trans y.h⟩
              have v6 := fun y : FW (Frm Nix wr) => z6 ⟨y.w, HF2.out.trans y.h⟩
              have v7 := fun y : FW (Frm Nix wr) => z7 ⟨y.w, HF2.out.trans y.h⟩
              have v8 := fun y : FW (Frm Nix wr) => z8 ⟨y.w, HF2.out.trans y.h⟩
              dsimp only at g0 g1 g2 g3 y0 y1 y2 y3 v0 v1 v2 v3 v4 v5 v6 v7 v8
              rw [Nat.add_zero] at g0
              clear hg hgc hs1 hs2
              by_cases he0 : g.url = q.url
              case neg =>
                obtain ⟨hq1, hq2⟩ := str_ne he0
                go_wp2_with fail
                refine wp_region_class (Frm Nix wr) ((Frm.refl Nix wr).drew) (by kernel_rfl) (by kernel_rfl) ?_
                repeat (go_big_quiet_step (first
                  | fail))
                refine wpQuiet_nil ?_
                rintro w7 ⟨⟨_, hfw7⟩, rfl⟩
                go_wp2
                go_roundw
                case rel => exact ⟨j + 1, by omega, by go_num, HS1.out (he0), HF2.out.trans hfw7⟩
                case measure => simp [intOf]; omega
              have hy0 : (g.url.toList == q.url.toList) = true := by rw [he0]; simp
              have HE := Lib.hid (HS2.out he0)
              go_wp2_with fail
              refine wp_region_class (Frm Nix wr) ((Frm.refl Nix wr).drew) (by kernel_rfl) (by kernel_rfl) ?_
              repeat (go_big_quiet_step (first
                | fail))
              refine wpQuiet_nil ?_
              rintro w7 ⟨⟨_, hfw7⟩, rfl⟩
              go_wp2
              go_ret
              exact ⟨ret_bool (HNo.out (by rw [HPq.out, HE.out]; simp)).symm, HF0.out.trans (HF.out.trans (HF1.out.trans (HF2.out.trans hfw7)))⟩
            · (have hji : j = i + 1 := (by omega)); subst hji
              have HE := HT2
              go_wp2
              go_roundw
              case rel => exact ⟨i + 1 + 1, by omega, by go_num, HStep.out (by rw [HPq.out, h0, hr, decide_eq_true hle, hin, HE.out]; rfl), HF.out.trans (HF1.out.trans HF2.out)⟩
              case measure => simp [intOf]; omega
        have k3 : (q.inn != 0) = true := by simp [h3]
        cases h4 : isI Fol.id q.inn x.fols with
        | false =>
          have hin : inS x q.inn = false := by unfold inS; rw [h4, decide_eq_false h3]; rfl
          rw [posR_end h4] at KD
          go_wp2_with fail
          rw [← HW1.out]
          refine wp_region_class (Frm Nix w1) ((Frm.refl Nix w1).drew) (by kernel_rfl) (by kernel_rfl) ?_
          repeat (go_big_quiet_step (first
            | (rename_i y; go_at_call 89; refine y.call (KC y) ?_; exact fun w' hf => y.h.trans hf)
            | (rename_i y; go_at_call 40; refine y.call (KD y) ?_; exact fun w' hf => y.h.trans hf)
            | fail))
          refine wpQuiet_nil ?_
          rintro w5 ⟨⟨_, hfw5⟩, rfl⟩
          go_wp2
          go_ret
          exact ⟨ret_bool (HNo.out (by rw [HPq.out, hin]; simp)).symm, HF0.out.trans (HF.out.trans (HF1.out.trans hfw5))⟩
        | true =>
          have hin : inS x q.inn = true := by unfold inS; rw [h4]; simp
          obtain ⟨pp, -, hpp, -⟩ := posR_at h4
          rw [hpp] at KD
          have k5 : decide ((pp : Int) < 0) = false := by simp
          go_wp2_with fail
          rw [← HW1.out]
          refine wp_region_class (Frm Nix w1) ((Frm.refl Nix w1).drew) (by kernel_rfl) (by kernel_rfl) ?_
          repeat (go_big_quiet_step (first
            | (rename_i y; go_at_call 89; refine y.call (KC y) ?_; exact fun w' hf => y.h.trans hf)
            | (rename_i y; go_at_call 40; refine y.call (KD y) ?_; exact fun w' hf => y.h.trans hf)
            | fail))
          refine wpQuiet_nil ?_
          rintro w5 ⟨⟨_, hfw5⟩, rfl⟩
          have HF5 := Lib.hid hfw5
          clear hfw5
          go_wp2
          go_loopw [5] (fun jv wv => ∃ j : Nat, j ≤ (i + 1) ∧ jv = .int .i64 j ∧ (x.fees.take j).any (fun g => decide (g.url = q.url)) = false ∧ Frm Nix w1 wv) (fun jv _ => (i + 1) - (intOf jv).toNat)
          case atStart => exact ⟨0, by omega, rfl, by simp, HF5.out⟩
          case round =>
            obtain ⟨j, hj, rfl, ht2, hf2⟩ := hrel
            have HT2 := Lib.hid ht2
            have HF2 := Lib.hid hf2
            clear ht2 hf2
            by_cases hjk : j < (i + 1)
            · have hjl : j < x.fees.length := by omega
              have hkl : (i + 1) ≤ x.fees.length := by omega
              have hs1 := fun he => fst_step (p := fun g : Fee => decide (g.url = q.url)) hjl HT2.out (decide_eq_false he)
              have hs2 := fun he => take_any_ (l := x.fees) (q := fun g : Fee => decide (g.url = q.url)) (k := j) (i := (i + 1)) hjk hkl (decide_eq_true he)
              have hgc := fun y : FW (Frm Nix wr) => HCell.out y.w (HF1.out.trans (HF2.out.trans y.h)) j hjl
              obtain ⟨g, hg⟩ : ∃ g, x.fees[j] = g := ⟨_, rfl⟩
              rw [hg] at hs1 hs2 hgc
              have HS1 := Lib.hid hs1
              have HS2 := Lib.hid hs2
              have g0 := fun y : FW (Frm Nix wr) => hgc y 0 _ rfl
              have g1 := fun y : FW (Frm Nix wr) => hgc y 1 _ rfl
              have g2 := fun y : FW (Frm Nix wr) => hgc y 2 _ rfl
              have g3 := fun y : FW (Frm Nix wr) => hgc y 3 _ rfl
              have y0 := fun y : FW (Frm Nix wr) => r0 ⟨y.w, HF2.out.trans y.h⟩
              have y1 := fun y : FW (Frm Nix wr) => r1 ⟨y.w, HF2.out.trans y.h⟩
              have y2 := fun y : FW (Frm Nix wr) => r2 ⟨y.w, HF2.out.trans y.h⟩
              have y3 := fun y : FW (Frm Nix wr) => r3 ⟨y.w, HF2.out.trans y.h⟩
              have v0 := fun y : FW (Frm Nix wr) => z0 ⟨y.w, HF2.out.trans y.h⟩
              have v1 := fun y : FW (Frm Nix wr) => z1 ⟨y.w, HF2.out.trans y.h⟩
              have v2 := fun y : FW (Frm Nix wr) => z2 ⟨y.w, HF2.out.trans y.h⟩
              have v3 := fun y : FW (Frm Nix wr) => z3 ⟨y.w, HF2.out.trans y.h⟩
              have v4 := fun y : FW (Frm Nix wr) => z4 ⟨y.w, HF2.out.trans y.h⟩
              have v5 := fun y : FW (Frm Nix wr) => z5 ⟨y.w, HF2.out.trans y.h⟩
              have v6 := fun y : FW (Frm Nix wr) => z6 ⟨y.w, HF2.out.trans y.h⟩
              have v7 := fun y : FW (Frm Nix wr) => z7 ⟨y.w, HF2.out.trans y.h⟩
              have v8 := fun y : FW (Frm Nix wr) => z8 ⟨y.w, HF2.out.trans y.h⟩
              dsimp only at g0 g1 g2 g3 y0 y1 y2 y3 v0 v1 v2 v3 v4 v5 v6 v7 v8
              rw [Nat.add_zero] at g0
              clear hg hgc hs1 hs2
              by_cases he0 : g.url = q.url
              case neg =>
                obtain ⟨hq1, hq2⟩ := str_ne he0
                go_wp2_with fail
                refine wp_region_class (Frm Nix wr) ((Frm.refl Nix wr).drew) (by kernel_rfl) (by kernel_rfl) ?_
                repeat (go_big_quiet_step (first
                  | fail))
                refine wpQuiet_nil ?_
                rintro w7 ⟨⟨_, hfw7⟩, rfl⟩
                go_wp2
                go_roundw
                case rel => exact ⟨j + 1, by omega, by go_num, HS1.out (he0), HF2.out.trans hfw7⟩
                case measure => simp [intOf]; omega
              have hy0 : (g.url.toList == q.url.toList) = true := by rw [he0]; simp
              have HE := Lib.hid (HS2.out he0)
              go_wp2_with fail
              refine wp_region_class (Frm Nix wr) ((Frm.refl Nix wr).drew) (by kernel_rfl) (by kernel_rfl) ?_
              repeat (go_big_quiet_step (first
                | fail))
              refine wpQuiet_nil ?_
              rintro w7 ⟨⟨_, hfw7⟩, rfl⟩
              go_wp2
              go_ret
              exact ⟨ret_bool (HNo.out (by rw [HPq.out, HE.out]; simp)).symm, HF0.out.trans (HF.out.trans (HF1.out.trans (HF2.out.trans hfw7)))⟩
            · (have hji : j = i + 1 := (by omega)); subst hji
              have HE := HT2
              go_wp2
              go_roundw
              case rel => exact ⟨i + 1 + 1, by omega, by go_num, HStep.out (by rw [HPq.out, h0, hr, decide_eq_true hle, hin, HE.out]; rfl), HF.out.trans (HF1.out.trans HF2.out)⟩
              case measure => simp [intOf]; omega
    · obtain rfl : k = x.fees.length := by omega
      have HAll : Hid (allG P [] x.fees = true) := allG_yes fun j hj h => HT.out j hj h
      have HOk := Lib.hid (HYes0.out HAll.out)
      go_wp2
      simp only [peel, bodyOf, Tryz.f91]
      by_cases a1 : x.fees.length ≤ 64
      case neg =>
        have a2 : ¬ (x.fees.length : Int) ≤ 64 := by omega
        go_wp2
        go_ret
        exact ⟨ret_bool (by rw [HOk.out, decide_eq_false a1]; rfl), HF0.out.trans HF.out⟩
      have a2 : (x.fees.length : Int) ≤ 64 := by omega
      by_cases b1 : 0 ≤ x.tFee
      case neg =>
        go_wp2
        go_ret
        exact ⟨ret_bool (by rw [HOk.out, decide_eq_false (show ¬ (0 ≤ x.tFee ∧ x.tFee ≤ 1048576) by omega)]; simp), HF0.out.trans HF.out⟩
      by_cases b2 : x.tFee ≤ 1048576
      case neg =>
        go_wp2
        go_ret
        exact ⟨ret_bool (by rw [HOk.out, decide_eq_false (show ¬ (0 ≤ x.tFee ∧ x.tFee ≤ 1048576) by omega)]; simp), HF0.out.trans HF.out⟩
      go_wp2
      go_ret
      exact ⟨ret_bool (by rw [HOk.out, decide_eq_true a1, decide_eq_true (show (0 ≤ x.tFee ∧ x.tFee ≤ 1048576) by omega)]; rfl), HF0.out.trans HF.out⟩
end Go.Proofs.YtjbifjgeheigoaaGreat
end
section
set_option linter.unusedVariables false
set_option linter.unusedSimpArgs false
namespace Go.Proofs.YtjbifjgeheigoaaGreat
open Go.RowKit Go.Lib

theorem bytesLess_lt_ : ∀ a b : List UInt8, Op.bytesLess a b = decide (a < b)
  | [], [] => by simp [Op.bytesLess]
  | [], _ :: _ => by simp [Op.bytesLess]
  | _ :: _, [] => by simp [Op.bytesLess]
  | a :: la, b :: lb => by
    rw [Bool.eq_iff_iff]
    simp only [Op.bytesLess, bytesLess_lt_ la lb, Bool.or_eq_true, Bool.and_eq_true, beq_iff_eq, decide_eq_true_eq, List.cons_lt_cons_iff]
theorem blt (a b : ByteArray) : Op.bytesLess a.toList b.toList = decide (ltB a b) := by
  rw [bytesLess_lt_, ByteArray.toList_eq, ByteArray.toList_eq]
  rfl

set_option maxRecDepth 100000 in
set_option maxHeartbeats 16000000 in
theorem rItems_any {w : World} {fo fe it se : Sl} {ts : List (Sl × Itm)} {x : St} {G : Nat → Prop} (hS : StIn w G fo fe it se ts x) (hsm : StSmall x) :
    Calls Tryz.prog 92 #[stV fo fe it se x] w fun e w' => e = .returned (.bool (itmsOk x)) ∧ Frm Nix w w' := by
  obtain ⟨w0, hw0, hf0, hb0⟩ := box_st w fo fe it se x
  have hcap := hsm.itms
  obtain ⟨x0, x1, x2, x3, x4, x5, x6, x7, x8⟩ := blk9 hb0
  have HS := Lib.hid (hS.nix hf0)
  have HSm := Lib.hid hsm
  have HB := Lib.hid hb0
  have HF0 := Lib.hid hf0
  have HW := Lib.hid hw0
  obtain ⟨P, hP⟩ : ∃ P : List Itm → Itm → Bool, P = (fun (pre : List Itm) (t : Itm) => evOk ⟨7, t.id, t.feed, t.date, t.guid, t.title, t.link⟩ && decide (t.id ≤ x.tItm) && risesI Itm.id pre t && isI Fee.id t.feed x.fees && decide (t.tags.length ≤ 8) && tagsRise t.tags && !(pre.any fun g => g.feed = t.feed ∧ g.guid = t.guid)) := ⟨_, rfl⟩
  have HP : Hid (∀ pre f, P pre f = ((fun (pre : List Itm) (t : Itm) => evOk ⟨7, t.id, t.feed, t.date, t.guid, t.title, t.link⟩ && decide (t.id ≤ x.tItm) && risesI Itm.id pre t && isI Fee.id t.feed x.fees && decide (t.tags.length ≤ 8) && tagsRise t.tags && !(pre.any fun g => g.feed = t.feed ∧ g.guid = t.guid)) pre f)) := by rw [hP]; exact fun _ _ => rfl
  have HNo0 : Hid (allG P [] x.itms = false → itmsOk x = false) := fun h => by unfold itmsOk; rw [← hP, h]; rfl
  have HYes0 : Hid (allG P [] x.itms = true → itmsOk x = (decide (x.itms.length ≤ 1024) && decide (0 ≤ x.tItm ∧ x.tItm ≤ 1048576) && decide (x.tItm = 0 ∨ 0 < x.tFee))) := fun h => by unfold itmsOk; rw [← hP, h]; simp
  clear hS hsm hw0 hf0 hb0 hP
  unfold stV
  obtain ⟨A, c⟩ := it
  dsimp only at x1 x2 x3 x4 HS HB HW ⊢
  go_enter Tryz.func92, Tryz.ntmps92
  show Code.wp Tryz.prog (peel 0 (bodyOf Tryz.f92)) _ _ _
  have e1 : peel 0 (bodyOf Tryz.f92) = .seq (hdC (peel 0 (bodyOf Tryz.f92))) (peel 1 (bodyOf Tryz.f92)) := by kernel_rfl
  rw [e1]
  clear e1
  refine wp_seq_k fun K hK => ?_
  conv in hdC _ => whnf
  go_wp2
  rw [← HW.out]
  have e1 : peel 1 (bodyOf Tryz.f92) = .seq (hdC (peel 1 (bodyOf Tryz.f92))) (peel 2 (bodyOf Tryz.f92)) := by kernel_rfl
  rw [e1]
  clear e1
  refine wp_seq_k fun K hK => ?_
  conv in hdC _ => whnf
  go_wp2
  go_loopw [3] (fun kv wr => ∃ k : Nat, k ≤ x.itms.length ∧ kv = .int .i64 k ∧ (∀ (j : Nat) (hj : j < x.itms.length), j < k → P (x.itms.take j) (x.itms[j]'hj) = true) ∧ Frm Nix w0 wr) (fun kv _ => x.itms.length - (intOf kv).toNat)
  case atStart => exact ⟨0, by omega, rfl, fun j hj h => absurd h (by omega), Frm.refl _ _⟩
  case round =>
    obtain ⟨k, hk, rfl, ht, hf⟩ := hrel
    have HT := Lib.hid ht
    have HF := Lib.hid hf
    clear ht hf x0 x1 x2 x3 x4 x5 x6 x7 x8
    obtain ⟨x0, x1, x2, x3, x4, x5, x6, x7, x8⟩ := blk9 (HB.out.frm HF.out id)
    by_cases hlt : k < x.itms.length
    · obtain ⟨hkt, het⟩ := itms_at HS.out hlt
      obtain ⟨b, off, hA, -, hbl, hcell⟩ := (HS.out.itms.row.nix HF.out).at_ itmC_len (by decide) (by omega)
      dsimp only at hA
      subst hA
      have HNo := Lib.hid (fun h => HNo0.out (allG_no (p := P) hlt h))
      have HStep : Hid (P (x.itms.take k) x.itms[k] = true → ∀ (j : Nat) (hj : j < x.itms.length), j < k + 1 → P (x.itms.take j) (x.itms[j]'hj) = true) := fun h j hj hjk => by
        by_cases e : j = k
        · subst e; exact h
        · exact HT.out j hj (by omega)
      have HCell : Hid (∀ (i : Nat) (hi : i < x.itms.length), ∃ p : Sl × Itm, p.2 = x.itms[i] ∧ ∀ W, Frm Nix wr W → ∀ (j : Nat) (u : Value), (itmC p)[j]? = some u → W.cell? ⟨b, off + i * 9 + j, none⟩ = some u) := fun i hi => by
        obtain ⟨hit, hie⟩ := itms_at HS.out hi
        exact ⟨_, hie, fun W hW j u hu => (hW.cell (p := ⟨b, off + i * 9 + j, none⟩) hbl id).trans (hcell i hit j u hu)⟩
      have htg := HS.out.itms.tags _ (List.getElem_mem hkt)
      have hc := hcell k hkt
      have hs8 := HSm.out.tags _ (List.getElem_mem hlt)
      obtain ⟨tp, htp⟩ : ∃ tp, ts[k] = tp := ⟨_, rfl⟩
      rw [htp] at hc het htg
      obtain ⟨tv, q⟩ := tp
      dsimp only at het htg
      rw [← het] at HNo HStep hs8
      obtain ⟨p0, p1, p2, p3, p4, p5, p6, p7, p8⟩ := itmcs (w := wr) (b := b) (off := off + k * 9) (p := (tv, q)) hc
      dsimp only at p0 p1 p2 p3 p4 p5 p6 p7 p8
      have HTg := Lib.hid htg
      clear hc htp het htg
      have HPq := Lib.hid (HP.out (x.itms.take k) q)
      obtain ⟨w1, hw1⟩ : ∃ w1, w1 = wr.alloc (.cells #[.int .i64 q.id, .int .i64 q.feed, .int .i64 q.date, .string q.guid, .string q.title, .string q.link, .bool q.read, .bool q.star, .slice tv.1 q.tags.length tv.2] 63) := ⟨_, rfl⟩
      have f1 : Frm Nix wr w1 := by rw [hw1]; exact (Frm.refl Nix wr).alloc _
      have hb4 : Blk w1 wr.heap.size 63 #[.int .i64 q.id, .int .i64 q.feed, .int .i64 q.date, .string q.guid, .string q.title, .string q.link, .bool q.read, .bool q.star, .slice tv.1 q.tags.length tv.2] := by rw [hw1]; exact Blk.new _ _ _
      have HW1 := Lib.hid hw1
      have HF1 := Lib.hid f1
      have HB4 := Lib.hid hb4
      have hbx := (HB.out.frm HF.out id).frm f1 id
      have z := fun y : FW (Frm Nix w1) => blk9 (hbx.frm y.h id)
      have z0 := fun y => (z y).1
      have z1 := fun y => (z y).2.1
      have z2 := fun y => (z y).2.2.1
      have z3 := fun y => (z y).2.2.2.1
      have z4 := fun y => (z y).2.2.2.2.1
      have z5 := fun y => (z y).2.2.2.2.2.1
      have z6 := fun y => (z y).2.2.2.2.2.2.1
      have z7 := fun y => (z y).2.2.2.2.2.2.2.1
      have z8 := fun y => (z y).2.2.2.2.2.2.2.2
      have HBx := Lib.hid hbx
      have r0 := fun y : FW (Frm Nix w1) => (show y.w.cell? ⟨wr.heap.size, 0, none⟩ = some (.int .i64 q.id) from (hb4.frm y.h id).cell 0)
      have r1 := fun y : FW (Frm Nix w1) => (show y.w.cell? ⟨wr.heap.size, 1, none⟩ = some (.int .i64 q.feed) from (hb4.frm y.h id).cell 1)
      have r2 := fun y : FW (Frm Nix w1) => (show y.w.cell? ⟨wr.heap.size, 2, none⟩ = some (.int .i64 q.date) from (hb4.frm y.h id).cell 2)
      have r3 := fun y : FW (Frm Nix w1) => (show y.w.cell? ⟨wr.heap.size, 3, none⟩ = some (.string q.guid) from (hb4.frm y.h id).cell 3)
      have r4 := fun y : FW (Frm Nix w1) => (show y.w.cell? ⟨wr.heap.size, 4, none⟩ = some (.string q.title) from (hb4.frm y.h id).cell 4)
      have r5 := fun y : FW (Frm Nix w1) => (show y.w.cell? ⟨wr.heap.size, 5, none⟩ = some (.string q.link) from (hb4.frm y.h id).cell 5)
      have r6 := fun y : FW (Frm Nix w1) => (show y.w.cell? ⟨wr.heap.size, 6, none⟩ = some (.bool q.read) from (hb4.frm y.h id).cell 6)
      have r7 := fun y : FW (Frm Nix w1) => (show y.w.cell? ⟨wr.heap.size, 7, none⟩ = some (.bool q.star) from (hb4.frm y.h id).cell 7)
      have r8 := fun y : FW (Frm Nix w1) => (show y.w.cell? ⟨wr.heap.size, 8, none⟩ = some (.slice tv.1 q.tags.length tv.2) from (hb4.frm y.h id).cell 8)
      have KC := fun y : FW (Frm Nix w1) => (show Calls Tryz.prog 89 #[.agg #[.int .i64 7, .int .i64 q.id, .int .i64 q.feed, .int .i64 q.date, .string q.guid, .string q.title, .string q.link]] y.w fun e w' => e = .returned (.bool (evOk ⟨7, q.id, q.feed, q.date, q.guid, q.title, q.link⟩)) ∧ Frm Nix y.w w' from rCheck_any ⟨7, q.id, q.feed, q.date, q.guid, q.title, q.link⟩ y.w)
      have KD := fun y : FW (Frm Nix w1) => (show Calls Tryz.prog 41 #[.agg #[.int .i64 x.clock, .slice fo.1 x.fols.length fo.2, .slice fe.1 x.fees.length fe.2, .slice (some ⟨b, off, none⟩) x.itms.length c, .slice se.1 x.seas.length se.2, .int .i64 x.tFol, .int .i64 x.tFee, .int .i64 x.tItm, .int .i64 x.tSea], .int .i64 q.feed] y.w fun e w' => e = .returned (.int .i64 (posR Fee.id q.feed x.fees)) ∧ Frm Nix y.w w' from rFeed_any ((HS.out.nix (HF.out.trans f1)).nix y.h) HSm.out q.feed)
      clear z hbx hb4 f1 hw1
      cases h0 : evOk ⟨7, q.id, q.feed, q.date, q.guid, q.title, q.link⟩ with
      | false =>
        rw [h0] at KC
        go_wp2_with fail
        rw [← HW1.out]
        refine wp_region_class (Frm Nix w1) ((Frm.refl Nix w1).drew) (by kernel_rfl) (by kernel_rfl) ?_
        repeat (go_big_quiet_step (first
          | (rename_i y; go_at_call 89; refine y.call (KC y) ?_; exact fun w' hf => y.h.trans hf)
          | (rename_i y; go_at_call 41; refine y.call (KD y) ?_; exact fun w' hf => y.h.trans hf)
          | fail))
        refine wpQuiet_nil ?_
        rintro w5 ⟨⟨_, hfw5⟩, rfl⟩
        go_wp2
        go_ret
        exact ⟨ret_bool (HNo.out (by rw [HPq.out, h0]; simp)).symm, HF0.out.trans (HF.out.trans (HF1.out.trans hfw5))⟩
      | true =>
        rw [h0] at KC
        by_cases h1 : x.tItm < q.id
        · have k1 : decide (x.tItm < q.id) = true := decide_eq_true h1
          go_wp2_with fail
          rw [← HW1.out]
          refine wp_region_class (Frm Nix w1) ((Frm.refl Nix w1).drew) (by kernel_rfl) (by kernel_rfl) ?_
          repeat (go_big_quiet_step (first
            | (rename_i y; go_at_call 89; refine y.call (KC y) ?_; exact fun w' hf => y.h.trans hf)
            | (rename_i y; go_at_call 41; refine y.call (KD y) ?_; exact fun w' hf => y.h.trans hf)
            | fail))
          refine wpQuiet_nil ?_
          rintro w5 ⟨⟨_, hfw5⟩, rfl⟩
          go_wp2
          go_ret
          exact ⟨ret_bool (HNo.out (by rw [HPq.out, decide_eq_false (show ¬ q.id ≤ x.tItm by omega)]; simp)).symm, HF0.out.trans (HF.out.trans (HF1.out.trans hfw5))⟩
        have k1 : decide (x.tItm < q.id) = false := decide_eq_false h1
        have hle : q.id ≤ x.tItm := by omega
        by_cases hk0 : 0 < k
        case neg =>
          have kA : decide ((0 : Int) < (k : Int)) = false := by first | (simp; done) | (simp; omega)
          have kB : decide (0 < k) = false := by first | (simp; done) | (simp; omega)
          have hr : risesI Itm.id (x.itms.take k) q = true := by rw [show k = 0 by omega]; exact rises_zero
          cases h4 : isI Fee.id q.feed x.fees with
          | false =>
            rw [posR_end h4] at KD
            go_wp2_with fail
            rw [← HW1.out]
            refine wp_region_class (Frm Nix w1) ((Frm.refl Nix w1).drew) (by kernel_rfl) (by kernel_rfl) ?_
            repeat (go_big_quiet_step (first
              | (rename_i y; go_at_call 89; refine y.call (KC y) ?_; exact fun w' hf => y.h.trans hf)
              | (rename_i y; go_at_call 41; refine y.call (KD y) ?_; exact fun w' hf => y.h.trans hf)
              | fail))
            refine wpQuiet_nil ?_
            rintro w5 ⟨⟨_, hfw5⟩, rfl⟩
            go_wp2
            go_ret
            exact ⟨ret_bool (HNo.out (by rw [HPq.out, h4]; simp)).symm, HF0.out.trans (HF.out.trans (HF1.out.trans hfw5))⟩
          | true =>
            obtain ⟨pp, -, hpp, -⟩ := posR_at h4
            rw [hpp] at KD
            have k5 : decide ((pp : Int) < 0) = false := by simp
            by_cases h5 : 8 < q.tags.length
            · have k6 : decide ((8 : Int) < (q.tags.length : Int)) = true := by first | (simp; done) | (simp; omega)
              have k7 : decide (8 < q.tags.length) = true := by first | (simp; done) | (simp; omega)
              go_wp2_with fail
              rw [← HW1.out]
              refine wp_region_class (Frm Nix w1) ((Frm.refl Nix w1).drew) (by kernel_rfl) (by kernel_rfl) ?_
              repeat (go_big_quiet_step (first
                | (rename_i y; go_at_call 89; refine y.call (KC y) ?_; exact fun w' hf => y.h.trans hf)
                | (rename_i y; go_at_call 41; refine y.call (KD y) ?_; exact fun w' hf => y.h.trans hf)
                | fail))
              refine wpQuiet_nil ?_
              rintro w5 ⟨⟨_, hfw5⟩, rfl⟩
              go_wp2
              go_ret
              exact ⟨ret_bool (HNo.out (by rw [HPq.out, decide_eq_false (show ¬ q.tags.length ≤ 8 by omega)]; simp)).symm, HF0.out.trans (HF.out.trans (HF1.out.trans hfw5))⟩
            have k6 : decide ((8 : Int) < (q.tags.length : Int)) = false := by first | (simp; done) | (simp; omega)
            have k7 : decide (8 < q.tags.length) = false := by first | (simp; done) | (simp; omega)
            have h8 : q.tags.length ≤ 8 := by omega
            go_wp2_with fail
            rw [← HW1.out]
            refine wp_region_class (Frm Nix w1) ((Frm.refl Nix w1).drew) (by kernel_rfl) (by kernel_rfl) ?_
            repeat (go_big_quiet_step (first
              | (rename_i y; go_at_call 89; refine y.call (KC y) ?_; exact fun w' hf => y.h.trans hf)
              | (rename_i y; go_at_call 41; refine y.call (KD y) ?_; exact fun w' hf => y.h.trans hf)
              | fail))
            refine wpQuiet_nil ?_
            rintro w5 ⟨⟨_, hfw5⟩, rfl⟩
            have HF5 := Lib.hid hfw5
            clear hfw5
            have HTg0 := Lib.hid ((HTg.out.nix HF.out).nix HF1.out)
            obtain ⟨tA, tc⟩ := tv
            dsimp only at r8
            have HTNo : Hid (tagsRise q.tags = false → itmsOk x = false) := fun h => HNo.out (by rw [HPq.out, h]; simp)
            have hcapt := hs8
            go_wp2
            go_loopw [5] (fun jv wv => ∃ j : Nat, j ≤ q.tags.length ∧ jv = .int .i64 j ∧ (∀ (i : Nat) (hi : i < q.tags.length), i < j → tagOk q.tags[i] = true ∧ (i = 0 ∨ ∃ h0 : 0 < i, ltB (q.tags[i - 1]'(by omega)) q.tags[i])) ∧ Frm Nix w1 wv) (fun jv _ => q.tags.length - (intOf jv).toNat)
            case atStart => exact ⟨0, by omega, rfl, fun i hi h => absurd h (by omega), HF5.out⟩
            case round =>
              obtain ⟨t, htl, rfl, ht2, hf2⟩ := hrel
              have HTT := Lib.hid ht2
              have HF2 := Lib.hid hf2
              clear ht2 hf2
              have c8 := r8 ⟨wr, HF2.out⟩
              have c0 := r0 ⟨wr, HF2.out⟩
              dsimp only at c8 c0
              by_cases htk : t < q.tags.length
              · have htg2 := HTg0.out.nix HF2.out
                rw [str_flat] at htg2
                obtain ⟨b3, off3, hA3, -, hbl3, hcell3⟩ := htg2.at_ (f := fun i => [Value.string i]) (fun _ => rfl) (by decide) (by omega)
                dsimp only at hA3
                subst hA3
                have HTC : Hid (∀ W, Frm Nix wr W → ∀ i (hi : i < q.tags.length), W.cell? ⟨b3, off3 + i, none⟩ = some (.string q.tags[i])) := fun W hW i hi => by
                  have h0 := hcell3 i hi 0 _ rfl
                  rw [Nat.mul_one, Nat.add_zero] at h0
                  exact (hW.cell (p := ⟨b3, off3 + i, none⟩) hbl3 id).trans h0
                have HTS : Hid (tagOk q.tags[t] = true ∧ (t = 0 ∨ ∃ h0 : 0 < t, ltB (q.tags[t - 1]'(by omega)) q.tags[t]) → ∀ (i : Nat) (hi : i < q.tags.length), i < t + 1 → tagOk q.tags[i] = true ∧ (i = 0 ∨ ∃ h0 : 0 < i, ltB (q.tags[i - 1]'(by omega)) q.tags[i])) := fun h i hi hit => by
                  by_cases e : i = t
                  · subst e; exact h
                  · exact HTT.out i hi (by omega)
                have HTF : Hid (¬ (tagOk q.tags[t] = true ∧ (t = 0 ∨ ∃ h0 : 0 < t, ltB (q.tags[t - 1]'(by omega)) q.tags[t])) → itmsOk x = false) := fun h => HTNo.out (Bool.eq_false_iff.2 fun hr => h ((tagsRise_all q.tags).1 hr t htk))
                have s1 := fun y : FW (Frm Nix wr) => HTC.out y.w y.h t htk
                have u8 := fun y : FW (Frm Nix wr) => r8 ⟨y.w, HF2.out.trans y.h⟩
                have u0 := fun y : FW (Frm Nix wr) => r0 ⟨y.w, HF2.out.trans y.h⟩
                dsimp only at u8 u0
                obtain ⟨tq, htq⟩ : ∃ tq, q.tags[t] = tq := ⟨_, rfl⟩
                rw [htq] at s1 HTS HTF
                have KT := fun y : FW (Frm Nix wr) => (show Calls Tryz.prog 147 #[.string tq] y.w fun e w' => e = .returned (.bool (tagOk tq)) ∧ Frm Nix y.w w' from rTag_any tq y.w)
                clear htg2 hcell3
                cases hto : tagOk tq with
                | false =>
                  rw [hto] at KT
                  have HE := Lib.hid (HTF.out (fun e => by rw [hto] at e; cases e.1))
                  go_wp2_with fail
                  refine wp_region_class (Frm Nix wr) ((Frm.refl Nix wr).drew) (by kernel_rfl) (by kernel_rfl) ?_
                  repeat (go_big_quiet_step (first
                    | (rename_i y; go_at_call 147; refine y.call (KT y) ?_; exact fun w' hf => y.h.trans hf)
                    | fail))
                  refine wpQuiet_nil ?_
                  rintro w7 ⟨⟨_, hfw7⟩, rfl⟩
                  go_wp2
                  go_ret
                  exact ⟨ret_bool HE.out.symm, HF0.out.trans (HF.out.trans (HF1.out.trans (HF2.out.trans hfw7)))⟩
                | true =>
                  rw [hto] at KT
                  by_cases ht0 : 0 < t
                  case neg =>
                    have kC : decide ((0 : Int) < (t : Int)) = false := by first | (simp; done) | (simp; omega)
                    have kD : decide (0 < t) = false := by first | (simp; done) | (simp; omega)
                    have HE := Lib.hid (HTS.out ⟨hto, .inl (by omega)⟩)
                    go_wp2_with fail
                    refine wp_region_class (Frm Nix wr) ((Frm.refl Nix wr).drew) (by kernel_rfl) (by kernel_rfl) ?_
                    repeat (go_big_quiet_step (first
                      | (rename_i y; go_at_call 147; refine y.call (KT y) ?_; exact fun w' hf => y.h.trans hf)
                      | fail))
                    refine wpQuiet_nil ?_
                    rintro w7 ⟨⟨_, hfw7⟩, rfl⟩
                    go_wp2
                    go_roundw
                    case rel => exact ⟨t + 1, by omega, by go_num, HE.out, HF2.out.trans hfw7⟩
                    case measure => simp [intOf]; omega
                  obtain ⟨ti, rfl⟩ : ∃ ti, t = ti + 1 := ⟨t - 1, by omega⟩
                  have kC : decide ((0 : Int) < ((ti + 1 : Nat) : Int)) = true := by first | (simp; done) | (simp; omega)
                  have kD : decide ((0 : Int) < (ti : Int) + 1) = true := by first | (simp; done) | (simp; omega)
                  have s0 := fun y : FW (Frm Nix wr) => HTC.out y.w y.h ti (by omega)
                  have htil : ti < q.tags.length := by omega
                  have HTS2 : Hid (ltB (q.tags[ti]'htil) tq → _) := fun h => HTS.out ⟨hto, .inr ⟨by omega, h⟩⟩
                  have HTF2 : Hid (¬ ltB (q.tags[ti]'htil) tq → itmsOk x = false) := fun h => HTF.out fun e => by
                    rcases e.2 with e | ⟨_, e⟩
                    · omega
                    · exact h e
                  obtain ⟨tp0, htp0⟩ : ∃ tp0, q.tags[ti]'htil = tp0 := ⟨_, rfl⟩
                  rw [htp0] at s0 HTS2 HTF2
                  have hbl := blt tp0 tq
                  by_cases hlt2 : ltB tp0 tq
                  · rw [decide_eq_true hlt2] at hbl
                    have HE := Lib.hid (HTS2.out hlt2)
                    go_wp2_with fail
                    refine wp_region_class (Frm Nix wr) ((Frm.refl Nix wr).drew) (by kernel_rfl) (by kernel_rfl) ?_
                    repeat (go_big_quiet_step (first
                      | (rename_i y; go_at_call 147; refine y.call (KT y) ?_; exact fun w' hf => y.h.trans hf)
                      | fail))
                    refine wpQuiet_nil ?_
                    rintro w7 ⟨⟨_, hfw7⟩, rfl⟩
                    go_wp2
                    go_roundw
                    case rel => exact ⟨ti + 1 + 1, by omega, by go_num, HE.out, HF2.out.trans hfw7⟩
                    case measure => simp [intOf]; omega
                  · rw [decide_eq_false hlt2] at hbl
                    have HE := Lib.hid (HTF2.out hlt2)
                    go_wp2_with fail
                    refine wp_region_class (Frm Nix wr) ((Frm.refl Nix wr).drew) (by kernel_rfl) (by kernel_rfl) ?_
                    repeat (go_big_quiet_step (first
                      | (rename_i y; go_at_call 147; refine y.call (KT y) ?_; exact fun w' hf => y.h.trans hf)
                      | fail))
                    refine wpQuiet_nil ?_
                    rintro w7 ⟨⟨_, hfw7⟩, rfl⟩
                    go_wp2
                    go_ret
                    exact ⟨ret_bool HE.out.symm, HF0.out.trans (HF.out.trans (HF1.out.trans (HF2.out.trans hfw7)))⟩
              · have htt : t = q.tags.length := by omega
                have HTR : Hid (tagsRise q.tags = true) := (tagsRise_all q.tags).2 fun j hj => HTT.out j hj (by omega)
                have HFt := HF2
                clear HF2
                go_wp2
                go_loopw [6] (fun jv wv => ∃ j : Nat, j ≤ k ∧ jv = .int .i64 j ∧ (x.itms.take j).any (fun g => decide (g.feed = q.feed ∧ g.guid = q.guid)) = false ∧ Frm Nix w1 wv) (fun jv _ => k - (intOf jv).toNat)
                case atStart => exact ⟨0, by omega, rfl, by simp, HFt.out⟩
                case round =>
                  obtain ⟨j, hj, rfl, ht2, hf2⟩ := hrel
                  have HT2 := Lib.hid ht2
                  have HF2 := Lib.hid hf2
                  clear ht2 hf2
                  by_cases hjk : j < k
                  · exfalso
                    omega
                  · obtain rfl : j = k := by omega
                    have HE := HT2
                    go_wp2
                    go_roundw
                    case rel => exact ⟨j + 1, by omega, by go_num, HStep.out (by rw [HPq.out, h0, hr, decide_eq_true hle, h4, decide_eq_true h8, HTR.out, HE.out]; rfl), HF.out.trans (HF1.out.trans HF2.out)⟩
                    case measure => simp [intOf]; omega
        obtain ⟨i, rfl⟩ : ∃ i, k = i + 1 := ⟨k - 1, by omega⟩
        have kA : decide ((0 : Int) < ((i + 1 : Nat) : Int)) = true := by first | (simp; done) | (simp; omega)
        have kA2 : decide ((0 : Int) < (i : Int) + 1) = true := by first | (simp; done) | (simp; omega)
        have hil : i < x.itms.length := by omega
        have hr0 := rises_at (g := Itm.id) (a := q) (l := x.itms) (k := i) (by omega)
        obtain ⟨pv, hpe, hpc⟩ := HCell.out i hil
        have zp := fun y : FW (Frm Nix w1) => hpc y.w (HF1.out.trans y.h) 0 _ rfl
        rw [← hpe] at hr0
        obtain ⟨pw, pr⟩ := pv
        dsimp only at zp hr0
        rw [Nat.add_zero] at zp
        clear hpe hpc
        by_cases h2 : q.id ≤ pr.id
        · have k2 : decide (q.id ≤ pr.id) = true := decide_eq_true h2
          have hr : risesI Itm.id (x.itms.take (i + 1)) q = false := by rw [hr0]; exact decide_eq_false (by omega)
          go_wp2_with fail
          rw [← HW1.out]
          refine wp_region_class (Frm Nix w1) ((Frm.refl Nix w1).drew) (by kernel_rfl) (by kernel_rfl) ?_
          repeat (go_big_quiet_step (first
            | (rename_i y; go_at_call 89; refine y.call (KC y) ?_; exact fun w' hf => y.h.trans hf)
            | (rename_i y; go_at_call 41; refine y.call (KD y) ?_; exact fun w' hf => y.h.trans hf)
            | fail))
          refine wpQuiet_nil ?_
          rintro w5 ⟨⟨_, hfw5⟩, rfl⟩
          go_wp2
          go_ret
          exact ⟨ret_bool (HNo.out (by rw [HPq.out, hr]; simp)).symm, HF0.out.trans (HF.out.trans (HF1.out.trans hfw5))⟩
        have k2 : decide (q.id ≤ pr.id) = false := decide_eq_false h2
        have hr : risesI Itm.id (x.itms.take (i + 1)) q = true := by rw [hr0]; exact decide_eq_true (by omega)
        cases h4 : isI Fee.id q.feed x.fees with
        | false =>
          rw [posR_end h4] at KD
          go_wp2_with fail
          rw [← HW1.out]
          refine wp_region_class (Frm Nix w1) ((Frm.refl Nix w1).drew) (by kernel_rfl) (by kernel_rfl) ?_
          repeat (go_big_quiet_step (first
            | (rename_i y; go_at_call 89; refine y.call (KC y) ?_; exact fun w' hf => y.h.trans hf)
            | (rename_i y; go_at_call 41; refine y.call (KD y) ?_; exact fun w' hf => y.h.trans hf)
            | fail))
          refine wpQuiet_nil ?_
          rintro w5 ⟨⟨_, hfw5⟩, rfl⟩
          go_wp2
          go_ret
          exact ⟨ret_bool (HNo.out (by rw [HPq.out, h4]; simp)).symm, HF0.out.trans (HF.out.trans (HF1.out.trans hfw5))⟩
        | true =>
          obtain ⟨pp, -, hpp, -⟩ := posR_at h4
          rw [hpp] at KD
          have k5 : decide ((pp : Int) < 0) = false := by simp
          by_cases h5 : 8 < q.tags.length
          · have k6 : decide ((8 : Int) < (q.tags.length : Int)) = true := by first | (simp; done) | (simp; omega)
            have k7 : decide (8 < q.tags.length) = true := by first | (simp; done) | (simp; omega)
            go_wp2_with fail
            rw [← HW1.out]
            refine wp_region_class (Frm Nix w1) ((Frm.refl Nix w1).drew) (by kernel_rfl) (by kernel_rfl) ?_
            repeat (go_big_quiet_step (first
              | (rename_i y; go_at_call 89; refine y.call (KC y) ?_; exact fun w' hf => y.h.trans hf)
              | (rename_i y; go_at_call 41; refine y.call (KD y) ?_; exact fun w' hf => y.h.trans hf)
              | fail))
            refine wpQuiet_nil ?_
            rintro w5 ⟨⟨_, hfw5⟩, rfl⟩
            go_wp2
            go_ret
            exact ⟨ret_bool (HNo.out (by rw [HPq.out, decide_eq_false (show ¬ q.tags.length ≤ 8 by omega)]; simp)).symm, HF0.out.trans (HF.out.trans (HF1.out.trans hfw5))⟩
          have k6 : decide ((8 : Int) < (q.tags.length : Int)) = false := by first | (simp; done) | (simp; omega)
          have k7 : decide (8 < q.tags.length) = false := by first | (simp; done) | (simp; omega)
          have h8 : q.tags.length ≤ 8 := by omega
          go_wp2_with fail
          rw [← HW1.out]
          refine wp_region_class (Frm Nix w1) ((Frm.refl Nix w1).drew) (by kernel_rfl) (by kernel_rfl) ?_
          repeat (go_big_quiet_step (first
            | (rename_i y; go_at_call 89; refine y.call (KC y) ?_; exact fun w' hf => y.h.trans hf)
            | (rename_i y; go_at_call 41; refine y.call (KD y) ?_; exact fun w' hf => y.h.trans hf)
            | fail))
          refine wpQuiet_nil ?_
          rintro w5 ⟨⟨_, hfw5⟩, rfl⟩
          have HF5 := Lib.hid hfw5
          clear hfw5
          have HTg0 := Lib.hid ((HTg.out.nix HF.out).nix HF1.out)
          obtain ⟨tA, tc⟩ := tv
          dsimp only at r8
          have HTNo : Hid (tagsRise q.tags = false → itmsOk x = false) := fun h => HNo.out (by rw [HPq.out, h]; simp)
          have hcapt := hs8
          go_wp2
          go_loopw [5] (fun jv wv => ∃ j : Nat, j ≤ q.tags.length ∧ jv = .int .i64 j ∧ (∀ (i : Nat) (hi : i < q.tags.length), i < j → tagOk q.tags[i] = true ∧ (i = 0 ∨ ∃ h0 : 0 < i, ltB (q.tags[i - 1]'(by omega)) q.tags[i])) ∧ Frm Nix w1 wv) (fun jv _ => q.tags.length - (intOf jv).toNat)
          case atStart => exact ⟨0, by omega, rfl, fun i hi h => absurd h (by omega), HF5.out⟩
          case round =>
            obtain ⟨t, htl, rfl, ht2, hf2⟩ := hrel
            have HTT := Lib.hid ht2
            have HF2 := Lib.hid hf2
            clear ht2 hf2
            have c8 := r8 ⟨wr, HF2.out⟩
            have c0 := r0 ⟨wr, HF2.out⟩
            dsimp only at c8 c0
            by_cases htk : t < q.tags.length
            · have htg2 := HTg0.out.nix HF2.out
              rw [str_flat] at htg2
              obtain ⟨b3, off3, hA3, -, hbl3, hcell3⟩ := htg2.at_ (f := fun i => [Value.string i]) (fun _ => rfl) (by decide) (by omega)
              dsimp only at hA3
              subst hA3
              have HTC : Hid (∀ W, Frm Nix wr W → ∀ i (hi : i < q.tags.length), W.cell? ⟨b3, off3 + i, none⟩ = some (.string q.tags[i])) := fun W hW i hi => by
                have h0 := hcell3 i hi 0 _ rfl
                rw [Nat.mul_one, Nat.add_zero] at h0
                exact (hW.cell (p := ⟨b3, off3 + i, none⟩) hbl3 id).trans h0
              have HTS : Hid (tagOk q.tags[t] = true ∧ (t = 0 ∨ ∃ h0 : 0 < t, ltB (q.tags[t - 1]'(by omega)) q.tags[t]) → ∀ (i : Nat) (hi : i < q.tags.length), i < t + 1 → tagOk q.tags[i] = true ∧ (i = 0 ∨ ∃ h0 : 0 < i, ltB (q.tags[i - 1]'(by omega)) q.tags[i])) := fun h i hi hit => by
                by_cases e : i = t
                · subst e; exact h
                · exact HTT.out i hi (by omega)
              have HTF : Hid (¬ (tagOk q.tags[t] = true ∧ (t = 0 ∨ ∃ h0 : 0 < t, ltB (q.tags[t - 1]'(by omega)) q.tags[t])) → itmsOk x = false) := fun h => HTNo.out (Bool.eq_false_iff.2 fun hr => h ((tagsRise_all q.tags).1 hr t htk))
              have s1 := fun y : FW (Frm Nix wr) => HTC.out y.w y.h t htk
              have u8 := fun y : FW (Frm Nix wr) => r8 ⟨y.w, HF2.out.trans y.h⟩
              have u0 := fun y : FW (Frm Nix wr) => r0 ⟨y.w, HF2.out.trans y.h⟩
              dsimp only at u8 u0
              obtain ⟨tq, htq⟩ : ∃ tq, q.tags[t] = tq := ⟨_, rfl⟩
              rw [htq] at s1 HTS HTF
              have KT := fun y : FW (Frm Nix wr) => (show Calls Tryz.prog 147 #[.string tq] y.w fun e w' => e = .returned (.bool (tagOk tq)) ∧ Frm Nix y.w w' from rTag_any tq y.w)
              clear htg2 hcell3
              cases hto : tagOk tq with
              | false =>
                rw [hto] at KT
                have HE := Lib.hid (HTF.out (fun e => by rw [hto] at e; cases e.1))
                go_wp2_with fail
                refine wp_region_class (Frm Nix wr) ((Frm.refl Nix wr).drew) (by kernel_rfl) (by kernel_rfl) ?_
                repeat (go_big_quiet_step (first
                  | (rename_i y; go_at_call 147; refine y.call (KT y) ?_; exact fun w' hf => y.h.trans hf)
                  | fail))
                refine wpQuiet_nil ?_
                rintro w7 ⟨⟨_, hfw7⟩, rfl⟩
                go_wp2
                go_ret
                exact ⟨ret_bool HE.out.symm, HF0.out.trans (HF.out.trans (HF1.out.trans (HF2.out.trans hfw7)))⟩
              | true =>
                rw [hto] at KT
                by_cases ht0 : 0 < t
                case neg =>
                  have kC : decide ((0 : Int) < (t : Int)) = false := by first | (simp; done) | (simp; omega)
                  have kD : decide (0 < t) = false := by first | (simp; done) | (simp; omega)
                  have HE := Lib.hid (HTS.out ⟨hto, .inl (by omega)⟩)
                  go_wp2_with fail
                  refine wp_region_class (Frm Nix wr) ((Frm.refl Nix wr).drew) (by kernel_rfl) (by kernel_rfl) ?_
                  repeat (go_big_quiet_step (first
                    | (rename_i y; go_at_call 147; refine y.call (KT y) ?_; exact fun w' hf => y.h.trans hf)
                    | fail))
                  refine wpQuiet_nil ?_
                  rintro w7 ⟨⟨_, hfw7⟩, rfl⟩
                  go_wp2
                  go_roundw
                  case rel => exact ⟨t + 1, by omega, by go_num, HE.out, HF2.out.trans hfw7⟩
                  case measure => simp [intOf]; omega
                obtain ⟨ti, rfl⟩ : ∃ ti, t = ti + 1 := ⟨t - 1, by omega⟩
                have kC : decide ((0 : Int) < ((ti + 1 : Nat) : Int)) = true := by first | (simp; done) | (simp; omega)
                have kD : decide ((0 : Int) < (ti : Int) + 1) = true := by first | (simp; done) | (simp; omega)
                have s0 := fun y : FW (Frm Nix wr) => HTC.out y.w y.h ti (by omega)
                have htil : ti < q.tags.length := by omega
                have HTS2 : Hid (ltB (q.tags[ti]'htil) tq → _) := fun h => HTS.out ⟨hto, .inr ⟨by omega, h⟩⟩
                have HTF2 : Hid (¬ ltB (q.tags[ti]'htil) tq → itmsOk x = false) := fun h => HTF.out fun e => by
                  rcases e.2 with e | ⟨_, e⟩
                  · omega
                  · exact h e
                obtain ⟨tp0, htp0⟩ : ∃ tp0, q.tags[ti]'htil = tp0 := ⟨_, rfl⟩
                rw [htp0] at s0 HTS2 HTF2
                have hbl := blt tp0 tq
                by_cases hlt2 : ltB tp0 tq
                · rw [decide_eq_true hlt2] at hbl
                  have HE := Lib.hid (HTS2.out hlt2)
                  go_wp2_with fail
                  refine wp_region_class (Frm Nix wr) ((Frm.refl Nix wr).drew) (by kernel_rfl) (by kernel_rfl) ?_
                  repeat (go_big_quiet_step (first
                    | (rename_i y; go_at_call 147; refine y.call (KT y) ?_; exact fun w' hf => y.h.trans hf)
                    | fail))
                  refine wpQuiet_nil ?_
                  rintro w7 ⟨⟨_, hfw7⟩, rfl⟩
                  go_wp2
                  go_roundw
                  case rel => exact ⟨ti + 1 + 1, by omega, by go_num, HE.out, HF2.out.trans hfw7⟩
                  case measure => simp [intOf]; omega
                · rw [decide_eq_false hlt2] at hbl
                  have HE := Lib.hid (HTF2.out hlt2)
                  go_wp2_with fail
                  refine wp_region_class (Frm Nix wr) ((Frm.refl Nix wr).drew) (by kernel_rfl) (by kernel_rfl) ?_
                  repeat (go_big_quiet_step (first
                    | (rename_i y; go_at_call 147; refine y.call (KT y) ?_; exact fun w' hf => y.h.trans hf)
                    | fail))
                  refine wpQuiet_nil ?_
                  rintro w7 ⟨⟨_, hfw7⟩, rfl⟩
                  go_wp2
                  go_ret
                  exact ⟨ret_bool HE.out.symm, HF0.out.trans (HF.out.trans (HF1.out.trans (HF2.out.trans hfw7)))⟩
            · have htt : t = q.tags.length := by omega
              have HTR : Hid (tagsRise q.tags = true) := (tagsRise_all q.tags).2 fun j hj => HTT.out j hj (by omega)
              have HFt := HF2
              clear HF2
              go_wp2
              go_loopw [6] (fun jv wv => ∃ j : Nat, j ≤ (i + 1) ∧ jv = .int .i64 j ∧ (x.itms.take j).any (fun g => decide (g.feed = q.feed ∧ g.guid = q.guid)) = false ∧ Frm Nix w1 wv) (fun jv _ => (i + 1) - (intOf jv).toNat)
              case atStart => exact ⟨0, by omega, rfl, by simp, HFt.out⟩
              case round =>
                obtain ⟨j, hj, rfl, ht2, hf2⟩ := hrel
                have HT2 := Lib.hid ht2
                have HF2 := Lib.hid hf2
                clear ht2 hf2
                by_cases hjk : j < (i + 1)
                · have hjl : j < x.itms.length := by omega
                  have hkl : (i + 1) ≤ x.itms.length := by omega
                  obtain ⟨gp, hge, hgc⟩ := HCell.out j hjl
                  have hs1 := fun he => fst_step (p := fun g : Itm => decide (g.feed = q.feed ∧ g.guid = q.guid)) hjl HT2.out (decide_eq_false he)
                  have hs2 := fun he => take_any_ (l := x.itms) (q := fun g : Itm => decide (g.feed = q.feed ∧ g.guid = q.guid)) (k := j) (i := (i + 1)) hjk hkl (decide_eq_true he)
                  rw [← hge] at hs1 hs2
                  obtain ⟨gv, g⟩ := gp
                  dsimp only at hs1 hs2
                  have HS1 := Lib.hid hs1
                  have HS2 := Lib.hid hs2
                  have g0 := fun y : FW (Frm Nix wr) => hgc y.w (HF1.out.trans (HF2.out.trans y.h)) 0 _ rfl
                  have g1 := fun y : FW (Frm Nix wr) => hgc y.w (HF1.out.trans (HF2.out.trans y.h)) 1 _ rfl
                  have g2 := fun y : FW (Frm Nix wr) => hgc y.w (HF1.out.trans (HF2.out.trans y.h)) 2 _ rfl
                  have g3 := fun y : FW (Frm Nix wr) => hgc y.w (HF1.out.trans (HF2.out.trans y.h)) 3 _ rfl
                  have g4 := fun y : FW (Frm Nix wr) => hgc y.w (HF1.out.trans (HF2.out.trans y.h)) 4 _ rfl
                  have g5 := fun y : FW (Frm Nix wr) => hgc y.w (HF1.out.trans (HF2.out.trans y.h)) 5 _ rfl
                  have g6 := fun y : FW (Frm Nix wr) => hgc y.w (HF1.out.trans (HF2.out.trans y.h)) 6 _ rfl
                  have g7 := fun y : FW (Frm Nix wr) => hgc y.w (HF1.out.trans (HF2.out.trans y.h)) 7 _ rfl
                  have g8 := fun y : FW (Frm Nix wr) => hgc y.w (HF1.out.trans (HF2.out.trans y.h)) 8 _ rfl
                  have y0 := fun y : FW (Frm Nix wr) => r0 ⟨y.w, HF2.out.trans y.h⟩
                  have y1 := fun y : FW (Frm Nix wr) => r1 ⟨y.w, HF2.out.trans y.h⟩
                  have y2 := fun y : FW (Frm Nix wr) => r2 ⟨y.w, HF2.out.trans y.h⟩
                  have y3 := fun y : FW (Frm Nix wr) => r3 ⟨y.w, HF2.out.trans y.h⟩
                  have y4 := fun y : FW (Frm Nix wr) => r4 ⟨y.w, HF2.out.trans y.h⟩
                  have y5 := fun y : FW (Frm Nix wr) => r5 ⟨y.w, HF2.out.trans y.h⟩
                  have y6 := fun y : FW (Frm Nix wr) => r6 ⟨y.w, HF2.out.trans y.h⟩
                  have y7 := fun y : FW (Frm Nix wr) => r7 ⟨y.w, HF2.out.trans y.h⟩
                  have y8 := fun y : FW (Frm Nix wr) => r8 ⟨y.w, HF2.out.trans y.h⟩
                  have v0 := fun y : FW (Frm Nix wr) => z0 ⟨y.w, HF2.out.trans y.h⟩
                  have v1 := fun y : FW (Frm Nix wr) => z1 ⟨y.w, HF2.out.trans y.h⟩
                  have v2 := fun y : FW (Frm Nix wr) => z2 ⟨y.w, HF2.out.trans y.h⟩
                  have v3 := fun y : FW (Frm Nix wr) => z3 ⟨y.w, HF2.out.trans y.h⟩
                  have v4 := fun y : FW (Frm Nix wr) => z4 ⟨y.w, HF2.out.trans y.h⟩
                  have v5 := fun y : FW (Frm Nix wr) => z5 ⟨y.w, HF2.out.trans y.h⟩
                  have v6 := fun y : FW (Frm Nix wr) => z6 ⟨y.w, HF2.out.trans y.h⟩
                  have v7 := fun y : FW (Frm Nix wr) => z7 ⟨y.w, HF2.out.trans y.h⟩
                  have v8 := fun y : FW (Frm Nix wr) => z8 ⟨y.w, HF2.out.trans y.h⟩
                  dsimp only at g0 g1 g2 g3 g4 g5 g6 g7 g8 y0 y1 y2 y3 y4 y5 y6 y7 y8 v0 v1 v2 v3 v4 v5 v6 v7 v8
                  rw [Nat.add_zero] at g0
                  clear hge hgc hs1 hs2
                  by_cases he0 : g.feed = q.feed
                  case neg =>
                    have hq2 : (g.feed == q.feed) = false := by simp [he0]
                    go_wp2_with fail
                    refine wp_region_class (Frm Nix wr) ((Frm.refl Nix wr).drew) (by kernel_rfl) (by kernel_rfl) ?_
                    repeat (go_big_quiet_step (first
                      | fail))
                    refine wpQuiet_nil ?_
                    rintro w7 ⟨⟨_, hfw7⟩, rfl⟩
                    go_wp2
                    go_roundw
                    case rel => exact ⟨j + 1, by omega, by go_num, HS1.out (fun e => he0 e.1), HF2.out.trans hfw7⟩
                    case measure => simp [intOf]; omega
                  have hy0 : (g.feed == q.feed) = true := by rw [he0]; simp
                  by_cases he1 : g.guid = q.guid
                  case neg =>
                    obtain ⟨hq1, hq2⟩ := str_ne he1
                    go_wp2_with fail
                    refine wp_region_class (Frm Nix wr) ((Frm.refl Nix wr).drew) (by kernel_rfl) (by kernel_rfl) ?_
                    repeat (go_big_quiet_step (first
                      | fail))
                    refine wpQuiet_nil ?_
                    rintro w7 ⟨⟨_, hfw7⟩, rfl⟩
                    go_wp2
                    go_roundw
                    case rel => exact ⟨j + 1, by omega, by go_num, HS1.out (fun e => he1 e.2), HF2.out.trans hfw7⟩
                    case measure => simp [intOf]; omega
                  have hy1 : (g.guid.toList == q.guid.toList) = true := by rw [he1]; simp
                  have HE := Lib.hid (HS2.out ⟨he0, he1⟩)
                  go_wp2_with fail
                  refine wp_region_class (Frm Nix wr) ((Frm.refl Nix wr).drew) (by kernel_rfl) (by kernel_rfl) ?_
                  repeat (go_big_quiet_step (first
                    | fail))
                  refine wpQuiet_nil ?_
                  rintro w7 ⟨⟨_, hfw7⟩, rfl⟩
                  go_wp2
                  go_ret
                  exact ⟨ret_bool (HNo.out (by rw [HPq.out, HE.out]; simp)).symm, HF0.out.trans (HF.out.trans (HF1.out.trans (HF2.out.trans hfw7)))⟩
                · (have hji : j = i + 1 := (by omega)); subst hji
                  have HE := HT2
                  go_wp2
                  go_roundw
                  case rel => exact ⟨i + 1 + 1, by omega, by go_num, HStep.out (by rw [HPq.out, h0, hr, decide_eq_true hle, h4, decide_eq_true h8, HTR.out, HE.out]; rfl), HF.out.trans (HF1.out.trans HF2.out)⟩
                  case measure => simp [intOf]; omega
    · obtain rfl : k = x.itms.length := by omega
      have HAll : Hid (allG P [] x.itms = true) := allG_yes fun j hj h => HT.out j hj h
      have HOk := Lib.hid (HYes0.out HAll.out)
      go_wp2
      simp only [peel, bodyOf, Tryz.f92]
      by_cases a1 : x.itms.length ≤ 1024
      case neg =>
        have a2 : ¬ (x.itms.length : Int) ≤ 1024 := by omega
        go_wp2
        go_ret
        exact ⟨ret_bool (by rw [HOk.out, decide_eq_false a1]; rfl), HF0.out.trans HF.out⟩
      have a2 : (x.itms.length : Int) ≤ 1024 := by omega
      by_cases b1 : 0 ≤ x.tItm
      case neg =>
        go_wp2
        go_ret
        exact ⟨ret_bool (by rw [HOk.out, decide_eq_false (show ¬ (0 ≤ x.tItm ∧ x.tItm ≤ 1048576) by omega)]; simp), HF0.out.trans HF.out⟩
      by_cases b2 : x.tItm ≤ 1048576
      case neg =>
        go_wp2
        go_ret
        exact ⟨ret_bool (by rw [HOk.out, decide_eq_false (show ¬ (0 ≤ x.tItm ∧ x.tItm ≤ 1048576) by omega)]; simp), HF0.out.trans HF.out⟩
      by_cases b3 : x.tItm = 0
      · have kE : (x.tItm == 0) = true := by rw [b3]; rfl
        have HE : Hid (itmsOk x = true) := by unfold Hid; rw [HOk.out, decide_eq_true a1, decide_eq_true (show (0 ≤ x.tItm ∧ x.tItm ≤ 1048576) by omega), decide_eq_true (show x.tItm = 0 ∨ 0 < x.tFee from .inl b3)]; rfl
        clear b3
        go_wp2
        go_ret
        exact ⟨ret_bool HE.out.symm, HF0.out.trans HF.out⟩
      have kE : (x.tItm == 0) = false := by simp [b3]
      by_cases b4 : 0 < x.tFee
      case neg =>
        go_wp2
        go_ret
        exact ⟨ret_bool (by rw [HOk.out, decide_eq_false (show ¬ (x.tItm = 0 ∨ 0 < x.tFee) by omega)]; simp), HF0.out.trans HF.out⟩
      go_wp2
      go_ret
      exact ⟨ret_bool (by rw [HOk.out, decide_eq_true a1, decide_eq_true (show (0 ≤ x.tItm ∧ x.tItm ≤ 1048576) by omega), decide_eq_true (show x.tItm = 0 ∨ 0 < x.tFee from .inr b4)]; rfl), HF0.out.trans HF.out⟩
end Go.Proofs.YtjbifjgeheigoaaGreat
end
section
set_option linter.unusedVariables false
set_option linter.unusedSimpArgs false
namespace Go.Proofs.YtjbifjgeheigoaaGreat
open Go.RowKit Go.Lib

set_option maxRecDepth 100000 in
set_option maxHeartbeats 16000000 in
theorem rStCheck_any {w : World} {fo fe it se : Sl} {ts : List (Sl × Itm)} {x : St} {G : Nat → Prop} (hS : StIn w G fo fe it se ts x) (hsm : StSmall x) :
    Calls Tryz.prog 27 #[stV fo fe it se x] w fun e w' => e = .returned (.bool (stOk x)) ∧ Frm Nix w w' := by
  obtain ⟨w0, hw0, hf0, hb0⟩ := box_st w fo fe it se x
  have hcap := hsm.seas
  obtain ⟨x0, x1, x2, x3, x4, x5, x6, x7, x8⟩ := blk9 hb0
  have HS := Lib.hid (hS.nix hf0)
  have HSm := Lib.hid hsm
  have HB := Lib.hid hb0
  have HF0 := Lib.hid hf0
  have HW := Lib.hid hw0
  obtain ⟨P, hP⟩ : ∃ P : List Sea → Sea → Bool, P = (fun (pre : List Sea) (s : Sea) => evOk ⟨11, s.id, 0, 0, s.name, s.query, eS⟩ && decide (s.id ≤ x.tSea) && risesI Sea.id pre s) := ⟨_, rfl⟩
  have HP : Hid (∀ pre f, P pre f = ((fun (pre : List Sea) (s : Sea) => evOk ⟨11, s.id, 0, 0, s.name, s.query, eS⟩ && decide (s.id ≤ x.tSea) && risesI Sea.id pre s) pre f)) := by rw [hP]; exact fun _ _ => rfl
  have HNo0 : Hid (allG P [] x.seas = false → stOk x = false) := fun h => by unfold stOk seasOk; rw [← hP, h]; rfl
  have HYes0 : Hid (allG P [] x.seas = true → seasOk x = (decide (x.seas.length ≤ 32) && decide (0 ≤ x.tSea ∧ x.tSea ≤ 1048576))) := fun h => by unfold seasOk; rw [← hP, h]; simp
  clear hS hsm hw0 hf0 hb0 hP
  unfold stV
  obtain ⟨A, c⟩ := se
  dsimp only at x1 x2 x3 x4 HS HB HW ⊢
  go_enter Tryz.func27, Tryz.ntmps27
  show Code.wp Tryz.prog (peel 0 (bodyOf Tryz.f27)) _ _ _
  have e1 : peel 0 (bodyOf Tryz.f27) = .seq (hdC (peel 0 (bodyOf Tryz.f27))) (peel 1 (bodyOf Tryz.f27)) := by kernel_rfl
  rw [e1]
  clear e1
  refine wp_seq_k fun K hK => ?_
  conv in hdC _ => whnf
  go_wp2
  rw [← HW.out]
  have e1 : peel 1 (bodyOf Tryz.f27) = .seq (hdC (peel 1 (bodyOf Tryz.f27))) (peel 2 (bodyOf Tryz.f27)) := by kernel_rfl
  rw [e1]
  clear e1
  refine wp_seq_k fun K hK => ?_
  conv in hdC _ => whnf
  go_wp2
  go_loopw [3] (fun kv wr => ∃ k : Nat, k ≤ x.seas.length ∧ kv = .int .i64 k ∧ (∀ (j : Nat) (hj : j < x.seas.length), j < k → P (x.seas.take j) (x.seas[j]'hj) = true) ∧ Frm Nix w0 wr) (fun kv _ => x.seas.length - (intOf kv).toNat)
  case atStart => exact ⟨0, by omega, rfl, fun j hj h => absurd h (by omega), Frm.refl _ _⟩
  case round =>
    obtain ⟨k, hk, rfl, ht, hf⟩ := hrel
    have HT := Lib.hid ht
    have HF := Lib.hid hf
    clear ht hf x0 x1 x2 x3 x4 x5 x6 x7 x8
    obtain ⟨x0, x1, x2, x3, x4, x5, x6, x7, x8⟩ := blk9 (HB.out.frm HF.out id)
    by_cases hlt : k < x.seas.length
    · obtain ⟨b, off, hA, -, hbl, hcell⟩ := (HS.out.seas.nix HF.out).at_ Sea.clen (by decide) (by omega)
      dsimp only at hA
      subst hA
      have HNo := Lib.hid (fun h => HNo0.out (allG_no (p := P) hlt h))
      have HStep : Hid (P (x.seas.take k) x.seas[k] = true → ∀ (j : Nat) (hj : j < x.seas.length), j < k + 1 → P (x.seas.take j) (x.seas[j]'hj) = true) := fun h j hj hjk => by
        by_cases e : j = k
        · subst e; exact h
        · exact HT.out j hj (by omega)
      have HCell : Hid (∀ W, Frm Nix wr W → ∀ (i : Nat) (hi : i < x.seas.length) (j : Nat) (u : Value), (Sea.cells x.seas[i])[j]? = some u → W.cell? ⟨b, off + i * 3 + j, none⟩ = some u) := fun W hW i hi j u hu => (hW.cell (p := ⟨b, off + i * 3 + j, none⟩) hbl id).trans (hcell i hi j u hu)
      obtain ⟨p0, p1, p2⟩ := Seacs (w := wr) (b := b) (off := off + k * 3) (e := x.seas[k]) (hcell k hlt)
      obtain ⟨q, hq⟩ : ∃ q, x.seas[k] = q := ⟨_, rfl⟩
      rw [hq] at p0 p1 p2 HNo HStep
      clear hcell hq
      have HPq := Lib.hid (HP.out (x.seas.take k) q)
      obtain ⟨w1, hw1⟩ : ∃ w1, w1 = wr.alloc (.cells #[.int .i64 q.id, .string q.name, .string q.query] 65) := ⟨_, rfl⟩
      have f1 : Frm Nix wr w1 := by rw [hw1]; exact (Frm.refl Nix wr).alloc _
      have hb4 : Blk w1 wr.heap.size 65 #[.int .i64 q.id, .string q.name, .string q.query] := by rw [hw1]; exact Blk.new _ _ _
      have HW1 := Lib.hid hw1
      have HF1 := Lib.hid f1
      have HB4 := Lib.hid hb4
      have hbx := (HB.out.frm HF.out id).frm f1 id
      have z := fun y : FW (Frm Nix w1) => blk9 (hbx.frm y.h id)
      have z0 := fun y => (z y).1
      have z1 := fun y => (z y).2.1
      have z2 := fun y => (z y).2.2.1
      have z3 := fun y => (z y).2.2.2.1
      have z4 := fun y => (z y).2.2.2.2.1
      have z5 := fun y => (z y).2.2.2.2.2.1
      have z6 := fun y => (z y).2.2.2.2.2.2.1
      have z7 := fun y => (z y).2.2.2.2.2.2.2.1
      have z8 := fun y => (z y).2.2.2.2.2.2.2.2
      have HBx := Lib.hid hbx
      have r0 := fun y : FW (Frm Nix w1) => (show y.w.cell? ⟨wr.heap.size, 0, none⟩ = some (.int .i64 q.id) from (hb4.frm y.h id).cell 0)
      have r1 := fun y : FW (Frm Nix w1) => (show y.w.cell? ⟨wr.heap.size, 1, none⟩ = some (.string q.name) from (hb4.frm y.h id).cell 1)
      have r2 := fun y : FW (Frm Nix w1) => (show y.w.cell? ⟨wr.heap.size, 2, none⟩ = some (.string q.query) from (hb4.frm y.h id).cell 2)
      have KC := fun y : FW (Frm Nix w1) => (show Calls Tryz.prog 89 #[.agg #[.int .i64 11, .int .i64 q.id, .int .i64 0, .int .i64 0, .string q.name, .string q.query, .string ⟨#[]⟩]] y.w fun e w' => e = .returned (.bool (evOk ⟨11, q.id, 0, 0, q.name, q.query, eS⟩)) ∧ Frm Nix y.w w' from rCheck_any ⟨11, q.id, 0, 0, q.name, q.query, eS⟩ y.w)
      clear z hbx hb4 f1 hw1
      cases h0 : evOk ⟨11, q.id, 0, 0, q.name, q.query, eS⟩ with
      | false =>
        rw [h0] at KC
        go_wp2_with fail
        rw [← HW1.out]
        refine wp_region_class (Frm Nix w1) ((Frm.refl Nix w1).drew) (by kernel_rfl) (by kernel_rfl) ?_
        repeat (go_big_quiet_step (first
          | (rename_i y; go_at_call 89; refine y.call (KC y) ?_; exact fun w' hf => y.h.trans hf)
          | fail))
        refine wpQuiet_nil ?_
        rintro w5 ⟨⟨_, hfw5⟩, rfl⟩
        go_wp2
        go_ret
        exact ⟨ret_bool (HNo.out (by rw [HPq.out, h0]; simp)).symm, HF0.out.trans (HF.out.trans (HF1.out.trans hfw5))⟩
      | true =>
        rw [h0] at KC
        by_cases h1 : x.tSea < q.id
        · have k1 : decide (x.tSea < q.id) = true := decide_eq_true h1
          go_wp2_with fail
          rw [← HW1.out]
          refine wp_region_class (Frm Nix w1) ((Frm.refl Nix w1).drew) (by kernel_rfl) (by kernel_rfl) ?_
          repeat (go_big_quiet_step (first
            | (rename_i y; go_at_call 89; refine y.call (KC y) ?_; exact fun w' hf => y.h.trans hf)
            | fail))
          refine wpQuiet_nil ?_
          rintro w5 ⟨⟨_, hfw5⟩, rfl⟩
          go_wp2
          go_ret
          exact ⟨ret_bool (HNo.out (by rw [HPq.out, decide_eq_false (show ¬ q.id ≤ x.tSea by omega)]; simp)).symm, HF0.out.trans (HF.out.trans (HF1.out.trans hfw5))⟩
        have k1 : decide (x.tSea < q.id) = false := decide_eq_false h1
        have hle : q.id ≤ x.tSea := by omega
        by_cases hk0 : 0 < k
        case neg =>
          have kA : decide ((0 : Int) < (k : Int)) = false := by first | (simp; done) | (simp; omega)
          have kB : decide (0 < k) = false := by first | (simp; done) | (simp; omega)
          have hr : risesI Sea.id (x.seas.take k) q = true := by rw [show k = 0 by omega]; exact rises_zero
          go_wp2_with fail
          rw [← HW1.out]
          refine wp_region_class (Frm Nix w1) ((Frm.refl Nix w1).drew) (by kernel_rfl) (by kernel_rfl) ?_
          repeat (go_big_quiet_step (first
            | (rename_i y; go_at_call 89; refine y.call (KC y) ?_; exact fun w' hf => y.h.trans hf)
            | fail))
          refine wpQuiet_nil ?_
          rintro w5 ⟨⟨_, hfw5⟩, rfl⟩
          go_wp2
          go_roundw
          case rel => exact ⟨k + 1, by omega, by go_num, HStep.out (by rw [HPq.out, h0, hr, decide_eq_true hle]; rfl), HF.out.trans (HF1.out.trans hfw5)⟩
          case measure => simp [intOf]; omega
        obtain ⟨i, rfl⟩ : ∃ i, k = i + 1 := ⟨k - 1, by omega⟩
        have kA : decide ((0 : Int) < ((i + 1 : Nat) : Int)) = true := by first | (simp; done) | (simp; omega)
        have kA2 : decide ((0 : Int) < (i : Int) + 1) = true := by first | (simp; done) | (simp; omega)
        have hil : i < x.seas.length := by omega
        have hr0 := rises_at (g := Sea.id) (a := q) (l := x.seas) (k := i) (by omega)
        have zp := fun y : FW (Frm Nix w1) => HCell.out y.w (HF1.out.trans y.h) i hil 0 _ rfl
        obtain ⟨pr, hpr⟩ : ∃ pr, x.seas[i] = pr := ⟨_, rfl⟩
        rw [hpr] at zp hr0
        rw [Nat.add_zero] at zp
        clear hpr
        by_cases h2 : q.id ≤ pr.id
        · have k2 : decide (q.id ≤ pr.id) = true := decide_eq_true h2
          have hr : risesI Sea.id (x.seas.take (i + 1)) q = false := by rw [hr0]; exact decide_eq_false (by omega)
          go_wp2_with fail
          rw [← HW1.out]
          refine wp_region_class (Frm Nix w1) ((Frm.refl Nix w1).drew) (by kernel_rfl) (by kernel_rfl) ?_
          repeat (go_big_quiet_step (first
            | (rename_i y; go_at_call 89; refine y.call (KC y) ?_; exact fun w' hf => y.h.trans hf)
            | fail))
          refine wpQuiet_nil ?_
          rintro w5 ⟨⟨_, hfw5⟩, rfl⟩
          go_wp2
          go_ret
          exact ⟨ret_bool (HNo.out (by rw [HPq.out, hr]; simp)).symm, HF0.out.trans (HF.out.trans (HF1.out.trans hfw5))⟩
        have k2 : decide (q.id ≤ pr.id) = false := decide_eq_false h2
        have hr : risesI Sea.id (x.seas.take (i + 1)) q = true := by rw [hr0]; exact decide_eq_true (by omega)
        go_wp2_with fail
        rw [← HW1.out]
        refine wp_region_class (Frm Nix w1) ((Frm.refl Nix w1).drew) (by kernel_rfl) (by kernel_rfl) ?_
        repeat (go_big_quiet_step (first
          | (rename_i y; go_at_call 89; refine y.call (KC y) ?_; exact fun w' hf => y.h.trans hf)
          | fail))
        refine wpQuiet_nil ?_
        rintro w5 ⟨⟨_, hfw5⟩, rfl⟩
        go_wp2
        go_roundw
        case rel => exact ⟨i + 1 + 1, by omega, by go_num, HStep.out (by rw [HPq.out, h0, hr, decide_eq_true hle]; rfl), HF.out.trans (HF1.out.trans hfw5)⟩
        case measure => simp [intOf]; omega
    · obtain rfl : k = x.seas.length := by omega
      have HAll : Hid (allG P [] x.seas = true) := allG_yes fun j hj h => HT.out j hj h
      have HOk := Lib.hid (HYes0.out HAll.out)
      go_wp2
      have HSe := HOk
      clear HOk
      have HE : Hid (stOk x = (seasOk x && decide (0 ≤ x.clock) && evOk ⟨13, 0, 0, x.clock, eS, eS, eS⟩ && folsOk x && feesOk x && itmsOk x)) := rfl
      have KCl := Lib.hid (fun W => (show Calls Tryz.prog 89 #[.agg #[.int .i64 13, .int .i64 0, .int .i64 0, .int .i64 x.clock, .string ⟨#[]⟩, .string ⟨#[]⟩, .string ⟨#[]⟩]] W fun e w' => e = .returned (.bool (evOk ⟨13, 0, 0, x.clock, eS, eS, eS⟩)) ∧ Frm Nix W w' from rCheck_any ⟨13, 0, 0, x.clock, eS, eS, eS⟩ W))
      have KFo := Lib.hid (fun W (hW : Frm Nix w0 W) => (show Calls Tryz.prog 90 #[.agg #[.int .i64 x.clock, .slice fo.1 x.fols.length fo.2, .slice fe.1 x.fees.length fe.2, .slice it.1 x.itms.length it.2, .slice A x.seas.length c, .int .i64 x.tFol, .int .i64 x.tFee, .int .i64 x.tItm, .int .i64 x.tSea]] W fun e w' => e = .returned (.bool (folsOk x)) ∧ Frm Nix W w' from by have q := rFolders_any (HS.out.nix hW) HSm.out; exact q))
      have KFe := Lib.hid (fun W (hW : Frm Nix w0 W) => (show Calls Tryz.prog 91 #[.agg #[.int .i64 x.clock, .slice fo.1 x.fols.length fo.2, .slice fe.1 x.fees.length fe.2, .slice it.1 x.itms.length it.2, .slice A x.seas.length c, .int .i64 x.tFol, .int .i64 x.tFee, .int .i64 x.tItm, .int .i64 x.tSea]] W fun e w' => e = .returned (.bool (feesOk x)) ∧ Frm Nix W w' from by have q := rFeeds_any (HS.out.nix hW) HSm.out; exact q))
      have KIt := Lib.hid (fun W (hW : Frm Nix w0 W) => (show Calls Tryz.prog 92 #[.agg #[.int .i64 x.clock, .slice fo.1 x.fols.length fo.2, .slice fe.1 x.fees.length fe.2, .slice it.1 x.itms.length it.2, .slice A x.seas.length c, .int .i64 x.tFol, .int .i64 x.tFee, .int .i64 x.tItm, .int .i64 x.tSea]] W fun e w' => e = .returned (.bool (itmsOk x)) ∧ Frm Nix W w' from by have q := rItems_any (HS.out.nix hW) HSm.out; exact q))
      simp only [peel, bodyOf, Tryz.f27]
      by_cases a1 : x.seas.length ≤ 32
      case neg =>
        have a2 : (32 : Int) < (x.seas.length : Int) := by omega
        go_wp2
        go_ret
        exact ⟨ret_bool (by rw [HE.out, HSe.out, decide_eq_false a1] <;> first | rfl | (simp; done)), HF0.out.trans HF.out⟩
      have a2 : ¬ (32 : Int) < (x.seas.length : Int) := by omega
      by_cases b1 : x.tSea < 0
      case pos =>
        go_wp2
        go_ret
        exact ⟨ret_bool (by rw [HE.out, HSe.out, decide_eq_false (show ¬ (0 ≤ x.tSea ∧ x.tSea ≤ 1048576) by omega)] <;> first | rfl | (simp; done)), HF0.out.trans HF.out⟩
      by_cases b2 : 1048576 < x.tSea
      case pos =>
        go_wp2
        go_ret
        exact ⟨ret_bool (by rw [HE.out, HSe.out, decide_eq_false (show ¬ (0 ≤ x.tSea ∧ x.tSea ≤ 1048576) by omega)] <;> first | rfl | (simp; done)), HF0.out.trans HF.out⟩
      have HSt : Hid (seasOk x = true) := by unfold Hid; rw [HSe.out, decide_eq_true a1, decide_eq_true (show (0 ≤ x.tSea ∧ x.tSea ≤ 1048576) by omega)]; rfl
      rw [HSt.out] at HE
      by_cases c1 : x.clock < 0
      case pos =>
        go_wp2
        go_ret
        exact ⟨ret_bool (by rw [HE.out, decide_eq_false (show ¬ 0 ≤ x.clock by omega)] <;> first | rfl | (simp; done)), HF0.out.trans HF.out⟩
      rw [decide_eq_true (show 0 ≤ x.clock by omega)] at HE
      cases d0 : evOk ⟨13, 0, 0, x.clock, eS, eS, eS⟩ with
      | false =>
        rw [d0] at HE KCl
        clear d0
        go_wp2_with (go_at_call 89; refine (KCl.out _).mono ?_; rintro e w2 ⟨rfl, hf⟩; have Z2 : Hid (Frm Nix w0 w2) := HF.out.trans hf; clear hf x0 x1 x2 x3 x4 x5 x6 x7 x8; obtain ⟨x0, x1, x2, x3, x4, x5, x6, x7, x8⟩ := blk9 (HB.out.frm Z2.out id))
        go_ret
        exact ⟨ret_bool (by rw [HE.out] <;> first | rfl | (simp; done)), HF0.out.trans Z2.out⟩
      | true =>
        rw [d0] at HE KCl
        clear d0
        cases d1 : folsOk x with
        | false =>
          rw [d1] at HE KFo
          clear d1
          go_wp2_with (first
              | (go_at_call 90; refine (KFo.out _ Z2.out).mono ?_; rintro e w3 ⟨rfl, hf⟩; have Z3 : Hid (Frm Nix w0 w3) := Z2.out.trans hf; clear hf x0 x1 x2 x3 x4 x5 x6 x7 x8; obtain ⟨x0, x1, x2, x3, x4, x5, x6, x7, x8⟩ := blk9 (HB.out.frm Z3.out id))
              | (go_at_call 89; refine (KCl.out _).mono ?_; rintro e w2 ⟨rfl, hf⟩; have Z2 : Hid (Frm Nix w0 w2) := HF.out.trans hf; clear hf x0 x1 x2 x3 x4 x5 x6 x7 x8; obtain ⟨x0, x1, x2, x3, x4, x5, x6, x7, x8⟩ := blk9 (HB.out.frm Z2.out id)))
          go_ret
          exact ⟨ret_bool (by rw [HE.out] <;> first | rfl | (simp; done)), HF0.out.trans Z3.out⟩
        | true =>
          rw [d1] at HE KFo
          clear d1
          cases d2 : feesOk x with
          | false =>
            rw [d2] at HE KFe
            clear d2
            go_wp2_with (first
                | (go_at_call 91; refine (KFe.out _ Z3.out).mono ?_; rintro e w4 ⟨rfl, hf⟩; have Z4 : Hid (Frm Nix w0 w4) := Z3.out.trans hf; clear hf x0 x1 x2 x3 x4 x5 x6 x7 x8; obtain ⟨x0, x1, x2, x3, x4, x5, x6, x7, x8⟩ := blk9 (HB.out.frm Z4.out id))
                | (go_at_call 90; refine (KFo.out _ Z2.out).mono ?_; rintro e w3 ⟨rfl, hf⟩; have Z3 : Hid (Frm Nix w0 w3) := Z2.out.trans hf; clear hf x0 x1 x2 x3 x4 x5 x6 x7 x8; obtain ⟨x0, x1, x2, x3, x4, x5, x6, x7, x8⟩ := blk9 (HB.out.frm Z3.out id))
                | (go_at_call 89; refine (KCl.out _).mono ?_; rintro e w2 ⟨rfl, hf⟩; have Z2 : Hid (Frm Nix w0 w2) := HF.out.trans hf; clear hf x0 x1 x2 x3 x4 x5 x6 x7 x8; obtain ⟨x0, x1, x2, x3, x4, x5, x6, x7, x8⟩ := blk9 (HB.out.frm Z2.out id)))
            go_ret
            exact ⟨ret_bool (by rw [HE.out] <;> first | rfl | (simp; done)), HF0.out.trans Z4.out⟩
          | true =>
            rw [d2] at HE KFe
            clear d2
            cases d3 : itmsOk x with
            | false =>
              rw [d3] at HE KIt
              clear d3
              go_wp2_with (first
                  | (go_at_call 92; refine (KIt.out _ Z4.out).mono ?_; rintro e w5 ⟨rfl, hf⟩; have Z5 : Hid (Frm Nix w0 w5) := Z4.out.trans hf; clear hf x0 x1 x2 x3 x4 x5 x6 x7 x8; obtain ⟨x0, x1, x2, x3, x4, x5, x6, x7, x8⟩ := blk9 (HB.out.frm Z5.out id))
                  | (go_at_call 91; refine (KFe.out _ Z3.out).mono ?_; rintro e w4 ⟨rfl, hf⟩; have Z4 : Hid (Frm Nix w0 w4) := Z3.out.trans hf; clear hf x0 x1 x2 x3 x4 x5 x6 x7 x8; obtain ⟨x0, x1, x2, x3, x4, x5, x6, x7, x8⟩ := blk9 (HB.out.frm Z4.out id))
                  | (go_at_call 90; refine (KFo.out _ Z2.out).mono ?_; rintro e w3 ⟨rfl, hf⟩; have Z3 : Hid (Frm Nix w0 w3) := Z2.out.trans hf; clear hf x0 x1 x2 x3 x4 x5 x6 x7 x8; obtain ⟨x0, x1, x2, x3, x4, x5, x6, x7, x8⟩ := blk9 (HB.out.frm Z3.out id))
                  | (go_at_call 89; refine (KCl.out _).mono ?_; rintro e w2 ⟨rfl, hf⟩; have Z2 : Hid (Frm Nix w0 w2) := HF.out.trans hf; clear hf x0 x1 x2 x3 x4 x5 x6 x7 x8; obtain ⟨x0, x1, x2, x3, x4, x5, x6, x7, x8⟩ := blk9 (HB.out.frm Z2.out id)))
              go_ret
              exact ⟨ret_bool (by rw [HE.out] <;> first | rfl | (simp; done)), HF0.out.trans Z5.out⟩
            | true =>
              rw [d3] at HE KIt
              clear d3
              go_wp2_with (first
                  | (go_at_call 92; refine (KIt.out _ Z4.out).mono ?_; rintro e w5 ⟨rfl, hf⟩; have Z5 : Hid (Frm Nix w0 w5) := Z4.out.trans hf; clear hf x0 x1 x2 x3 x4 x5 x6 x7 x8; obtain ⟨x0, x1, x2, x3, x4, x5, x6, x7, x8⟩ := blk9 (HB.out.frm Z5.out id))
                  | (go_at_call 91; refine (KFe.out _ Z3.out).mono ?_; rintro e w4 ⟨rfl, hf⟩; have Z4 : Hid (Frm Nix w0 w4) := Z3.out.trans hf; clear hf x0 x1 x2 x3 x4 x5 x6 x7 x8; obtain ⟨x0, x1, x2, x3, x4, x5, x6, x7, x8⟩ := blk9 (HB.out.frm Z4.out id))
                  | (go_at_call 90; refine (KFo.out _ Z2.out).mono ?_; rintro e w3 ⟨rfl, hf⟩; have Z3 : Hid (Frm Nix w0 w3) := Z2.out.trans hf; clear hf x0 x1 x2 x3 x4 x5 x6 x7 x8; obtain ⟨x0, x1, x2, x3, x4, x5, x6, x7, x8⟩ := blk9 (HB.out.frm Z3.out id))
                  | (go_at_call 89; refine (KCl.out _).mono ?_; rintro e w2 ⟨rfl, hf⟩; have Z2 : Hid (Frm Nix w0 w2) := HF.out.trans hf; clear hf x0 x1 x2 x3 x4 x5 x6 x7 x8; obtain ⟨x0, x1, x2, x3, x4, x5, x6, x7, x8⟩ := blk9 (HB.out.frm Z2.out id)))
              go_ret
              exact ⟨ret_bool (by rw [HE.out] <;> first | rfl | (simp; done)), HF0.out.trans Z5.out⟩
end Go.Proofs.YtjbifjgeheigoaaGreat
end
section
set_option linter.unusedVariables false
set_option linter.unusedSimpArgs false
namespace Go.Proofs.YtjbifjgeheigoaaGreat
open Go.RowKit Go.Lib

theorem box_ss (w : World) (fo fe it se fo' fe' it' se' : Sl) (x y : St) : ∃ w0, w0 = (w.alloc (.cells #[.int .i64 x.clock, .slice fo.1 x.fols.length fo.2, .slice fe.1 x.fees.length fe.2, .slice it.1 x.itms.length it.2, .slice se.1 x.seas.length se.2, .int .i64 x.tFol, .int .i64 x.tFee, .int .i64 x.tItm, .int .i64 x.tSea] 30)).alloc (.cells #[.int .i64 y.clock, .slice fo'.1 y.fols.length fo'.2, .slice fe'.1 y.fees.length fe'.2, .slice it'.1 y.itms.length it'.2, .slice se'.1 y.seas.length se'.2, .int .i64 y.tFol, .int .i64 y.tFee, .int .i64 y.tItm, .int .i64 y.tSea] 30) ∧ Frm Nix w w0 ∧ Blk w0 w.heap.size 30 #[.int .i64 x.clock, .slice fo.1 x.fols.length fo.2, .slice fe.1 x.fees.length fe.2, .slice it.1 x.itms.length it.2, .slice se.1 x.seas.length se.2, .int .i64 x.tFol, .int .i64 x.tFee, .int .i64 x.tItm, .int .i64 x.tSea] ∧ Blk w0 (w.heap.size + 1) 30 #[.int .i64 y.clock, .slice fo'.1 y.fols.length fo'.2, .slice fe'.1 y.fees.length fe'.2, .slice it'.1 y.itms.length it'.2, .slice se'.1 y.seas.length se'.2, .int .i64 y.tFol, .int .i64 y.tFee, .int .i64 y.tItm, .int .i64 y.tSea] := by
  refine ⟨_, rfl, ((Frm.refl Nix w).alloc _).alloc _, (Blk.new w _ _).frm ((Frm.refl Nix _).alloc _) id, ?_⟩
  have := Blk.new (w.alloc (.cells #[.int .i64 x.clock, .slice fo.1 x.fols.length fo.2, .slice fe.1 x.fees.length fe.2, .slice it.1 x.itms.length it.2, .slice se.1 x.seas.length se.2, .int .i64 x.tFol, .int .i64 x.tFee, .int .i64 x.tItm, .int .i64 x.tSea] 30)) 30 #[.int .i64 y.clock, .slice fo'.1 y.fols.length fo'.2, .slice fe'.1 y.fees.length fe'.2, .slice it'.1 y.itms.length it'.2, .slice se'.1 y.seas.length se'.2, .int .i64 y.tFol, .int .i64 y.tFee, .int .i64 y.tItm, .int .i64 y.tSea]
  simpa using this

set_option maxRecDepth 100000 in
set_option maxHeartbeats 16000000 in
theorem checks_l1 {w : World} {G G' : Nat → Prop} {fo fe it se fo' fe' it' se' : Sl} {ts ts' : List (Sl × Itm)} {x y : St} (h : StIn w G fo fe it se ts x) (h' : StIn w G' fo' fe' it' se' ts' y) (hn : StNums x) (hl : largeS x = true) : Calls Tryz.prog 4 #[stV fo fe it se x, stV fo' fe' it' se' y] w fun e w' => e = .returned (.bool true) ∧ Frm Nix w w' := by
  obtain ⟨w0, hw0, hf0, hb1, hb2⟩ := box_ss w fo fe it se fo' fe' it' se' x y
  obtain ⟨x0, x1, x2, x3, x4, x5, x6, x7, x8⟩ := blk9 hb1
  obtain ⟨y0, y1, y2, y3, y4, y5, y6, y7, y8⟩ := blk9 hb2
  have HX := Lib.hid (h.nix hf0)
  have HY := Lib.hid (h'.nix hf0)
  have HNum := Lib.hid hn
  have HB := Lib.hid (And.intro hb1 hb2)
  have HF0 := Lib.hid hf0
  have HW := Lib.hid hw0
  have KX : Hid (∀ W, Frm Nix w0 W → Calls Tryz.prog 24 #[.agg #[.int .i64 x.clock, .slice fo.1 x.fols.length fo.2, .slice fe.1 x.fees.length fe.2, .slice it.1 x.itms.length it.2, .slice se.1 x.seas.length se.2, .int .i64 x.tFol, .int .i64 x.tFee, .int .i64 x.tItm, .int .i64 x.tSea]] W fun e w' => e = .returned (.bool (largeS x)) ∧ Frm Nix W w') := fun W hW => rLargeSt_any (HX.out.nix hW)
  have KY : Hid (∀ W, Frm Nix w0 W → Calls Tryz.prog 24 #[.agg #[.int .i64 y.clock, .slice fo'.1 y.fols.length fo'.2, .slice fe'.1 y.fees.length fe'.2, .slice it'.1 y.itms.length it'.2, .slice se'.1 y.seas.length se'.2, .int .i64 y.tFol, .int .i64 y.tFee, .int .i64 y.tItm, .int .i64 y.tSea]] W fun e w' => e = .returned (.bool (largeS y)) ∧ Frm Nix W w') := fun W hW => rLargeSt_any (HY.out.nix hW)
  clear h h' hn hf0 hb1 hb2
  rw [hw0] at x0 x1 x2 x3 x4 x5 x6 x7 x8 y0 y1 y2 y3 y4 y5 y6 y7 y8
  clear hw0
  unfold stV
  rw [hl] at KX
  clear hl
  go_enter Tryz.func4, Tryz.ntmps4
  go_wp2_with (first
    | (go_at_call 16; have _q := Z1; refine (lives_any _).mono ?_; rintro e w2 ⟨rfl, hf⟩; have Z2 : Hid (Frm Nix w0 w2) := Z1.out.trans hf; clear hf)
    | (go_at_call 24; rw [← HW.out]; refine (KX.out _ (Frm.refl Nix w0)).mono ?_; rintro e w1 ⟨rfl, hf⟩; have Z1 := Lib.hid hf; clear hf; clear x0 x1 x2 x3 x4 x5 x6 x7 x8 y0 y1 y2 y3 y4 y5 y6 y7 y8; obtain ⟨x0, x1, x2, x3, x4, x5, x6, x7, x8⟩ := blk9 (HB.out.1.frm Z1.out id); obtain ⟨y0, y1, y2, y3, y4, y5, y6, y7, y8⟩ := blk9 (HB.out.2.frm Z1.out id)))
  go_ret
  exact ⟨rfl, HF0.out.trans Z2.out⟩

set_option maxRecDepth 100000 in
set_option maxHeartbeats 16000000 in
theorem checks_l2 {w : World} {G G' : Nat → Prop} {fo fe it se fo' fe' it' se' : Sl} {ts ts' : List (Sl × Itm)} {x y : St} (h : StIn w G fo fe it se ts x) (h' : StIn w G' fo' fe' it' se' ts' y) (hn : StNums x) (hl : largeS x = false) (hl' : largeS y = true) : Calls Tryz.prog 4 #[stV fo fe it se x, stV fo' fe' it' se' y] w fun e w' => e = .returned (.bool true) ∧ Frm Nix w w' := by
  obtain ⟨w0, hw0, hf0, hb1, hb2⟩ := box_ss w fo fe it se fo' fe' it' se' x y
  obtain ⟨x0, x1, x2, x3, x4, x5, x6, x7, x8⟩ := blk9 hb1
  obtain ⟨y0, y1, y2, y3, y4, y5, y6, y7, y8⟩ := blk9 hb2
  have HX := Lib.hid (h.nix hf0)
  have HY := Lib.hid (h'.nix hf0)
  have HNum := Lib.hid hn
  have HB := Lib.hid (And.intro hb1 hb2)
  have HF0 := Lib.hid hf0
  have HW := Lib.hid hw0
  have KX : Hid (∀ W, Frm Nix w0 W → Calls Tryz.prog 24 #[.agg #[.int .i64 x.clock, .slice fo.1 x.fols.length fo.2, .slice fe.1 x.fees.length fe.2, .slice it.1 x.itms.length it.2, .slice se.1 x.seas.length se.2, .int .i64 x.tFol, .int .i64 x.tFee, .int .i64 x.tItm, .int .i64 x.tSea]] W fun e w' => e = .returned (.bool (largeS x)) ∧ Frm Nix W w') := fun W hW => rLargeSt_any (HX.out.nix hW)
  have KY : Hid (∀ W, Frm Nix w0 W → Calls Tryz.prog 24 #[.agg #[.int .i64 y.clock, .slice fo'.1 y.fols.length fo'.2, .slice fe'.1 y.fees.length fe'.2, .slice it'.1 y.itms.length it'.2, .slice se'.1 y.seas.length se'.2, .int .i64 y.tFol, .int .i64 y.tFee, .int .i64 y.tItm, .int .i64 y.tSea]] W fun e w' => e = .returned (.bool (largeS y)) ∧ Frm Nix W w') := fun W hW => rLargeSt_any (HY.out.nix hW)
  clear h h' hn hf0 hb1 hb2
  rw [hw0] at x0 x1 x2 x3 x4 x5 x6 x7 x8 y0 y1 y2 y3 y4 y5 y6 y7 y8
  clear hw0
  unfold stV
  rw [hl] at KX
  rw [hl'] at KY
  clear hl hl'
  go_enter Tryz.func4, Tryz.ntmps4
  go_wp2_with (first
    | (go_at_call 16; have _q := Z2; refine (lives_any _).mono ?_; rintro e w3 ⟨rfl, hf⟩; have Z3 : Hid (Frm Nix w0 w3) := Z2.out.trans hf; clear hf)
    | (go_at_call 24; have _q := Z1; refine (KY.out _ Z1.out).mono ?_; rintro e w2 ⟨rfl, hf⟩; have Z2 : Hid (Frm Nix w0 w2) := Z1.out.trans hf; clear hf; clear x0 x1 x2 x3 x4 x5 x6 x7 x8 y0 y1 y2 y3 y4 y5 y6 y7 y8; obtain ⟨x0, x1, x2, x3, x4, x5, x6, x7, x8⟩ := blk9 (HB.out.1.frm Z2.out id); obtain ⟨y0, y1, y2, y3, y4, y5, y6, y7, y8⟩ := blk9 (HB.out.2.frm Z2.out id))
    | (go_at_call 24; rw [← HW.out]; refine (KX.out _ (Frm.refl Nix w0)).mono ?_; rintro e w1 ⟨rfl, hf⟩; have Z1 := Lib.hid hf; clear hf; clear x0 x1 x2 x3 x4 x5 x6 x7 x8 y0 y1 y2 y3 y4 y5 y6 y7 y8; obtain ⟨x0, x1, x2, x3, x4, x5, x6, x7, x8⟩ := blk9 (HB.out.1.frm Z1.out id); obtain ⟨y0, y1, y2, y3, y4, y5, y6, y7, y8⟩ := blk9 (HB.out.2.frm Z1.out id)))
  go_ret
  exact ⟨rfl, HF0.out.trans Z3.out⟩

set_option maxRecDepth 100000 in
set_option maxHeartbeats 16000000 in
theorem checks_no {w : World} {G G' : Nat → Prop} {fo fe it se fo' fe' it' se' : Sl} {ts ts' : List (Sl × Itm)} {x y : St} (h : StIn w G fo fe it se ts x) (h' : StIn w G' fo' fe' it' se' ts' y) (hn : StNums x) (hl : largeS x = false) (hl' : largeS y = false) (hok : stOk x = false) : Calls Tryz.prog 4 #[stV fo fe it se x, stV fo' fe' it' se' y] w fun e w' => e = .returned (.bool true) ∧ Frm Nix w w' := by
  obtain ⟨w0, hw0, hf0, hb1, hb2⟩ := box_ss w fo fe it se fo' fe' it' se' x y
  obtain ⟨x0, x1, x2, x3, x4, x5, x6, x7, x8⟩ := blk9 hb1
  obtain ⟨y0, y1, y2, y3, y4, y5, y6, y7, y8⟩ := blk9 hb2
  have HX := Lib.hid (h.nix hf0)
  have HY := Lib.hid (h'.nix hf0)
  have HNum := Lib.hid hn
  have HB := Lib.hid (And.intro hb1 hb2)
  have HF0 := Lib.hid hf0
  have HW := Lib.hid hw0
  have KX : Hid (∀ W, Frm Nix w0 W → Calls Tryz.prog 24 #[.agg #[.int .i64 x.clock, .slice fo.1 x.fols.length fo.2, .slice fe.1 x.fees.length fe.2, .slice it.1 x.itms.length it.2, .slice se.1 x.seas.length se.2, .int .i64 x.tFol, .int .i64 x.tFee, .int .i64 x.tItm, .int .i64 x.tSea]] W fun e w' => e = .returned (.bool (largeS x)) ∧ Frm Nix W w') := fun W hW => rLargeSt_any (HX.out.nix hW)
  have KY : Hid (∀ W, Frm Nix w0 W → Calls Tryz.prog 24 #[.agg #[.int .i64 y.clock, .slice fo'.1 y.fols.length fo'.2, .slice fe'.1 y.fees.length fe'.2, .slice it'.1 y.itms.length it'.2, .slice se'.1 y.seas.length se'.2, .int .i64 y.tFol, .int .i64 y.tFee, .int .i64 y.tItm, .int .i64 y.tSea]] W fun e w' => e = .returned (.bool (largeS y)) ∧ Frm Nix W w') := fun W hW => rLargeSt_any (HY.out.nix hW)
  clear h h' hn hf0 hb1 hb2
  rw [hw0] at x0 x1 x2 x3 x4 x5 x6 x7 x8 y0 y1 y2 y3 y4 y5 y6 y7 y8
  clear hw0
  unfold stV
  have HSm : Hid (StSmall x) := small_large hl
  have HSm' : Hid (StSmall y) := small_large hl'
  have HPl : Hid ((pastS x).length ≤ 900000) := past_large hl
  have HPn : Hid (∀ e ∈ pastS x, I64 e.a ∧ I64 e.b) := past_nums HNum.out
  have HOk := Lib.hid hok
  obtain ⟨bx, hbx⟩ : ∃ bx, decide (x = y) = bx := ⟨_, rfl⟩
  have HBx := Lib.hid hbx
  have hbb : (bx != bx) = false := by simp
  rw [hl] at KX
  rw [hl'] at KY
  clear hl hl' hok hbx
  go_enter Tryz.func4, Tryz.ntmps4
  show Code.wp Tryz.prog (peel 0 (bodyOf Tryz.f4)) _ _ _
  have e1 : peel 0 (bodyOf Tryz.f4) = .seq (hdC (peel 0 (bodyOf Tryz.f4))) (peel 1 (bodyOf Tryz.f4)) := by kernel_rfl
  rw [e1]
  clear e1
  refine wp_seq_k fun K hK => ?_
  conv in hdC _ => whnf
  go_wp2
  have e1 : peel 1 (bodyOf Tryz.f4) = .seq (hdC (peel 1 (bodyOf Tryz.f4))) (peel 2 (bodyOf Tryz.f4)) := by kernel_rfl
  rw [e1]
  clear e1
  refine wp_seq_k fun K hK => ?_
  conv in hdC _ => whnf
  go_wp2_with (first
    | (go_at_call 24; have _q := Z1; refine (KY.out _ Z1.out).mono ?_; rintro e w2 ⟨rfl, hf⟩; have Z2 : Hid (Frm Nix w0 w2) := Z1.out.trans hf; clear hf; clear x0 x1 x2 x3 x4 x5 x6 x7 x8 y0 y1 y2 y3 y4 y5 y6 y7 y8; obtain ⟨x0, x1, x2, x3, x4, x5, x6, x7, x8⟩ := blk9 (HB.out.1.frm Z2.out id); obtain ⟨y0, y1, y2, y3, y4, y5, y6, y7, y8⟩ := blk9 (HB.out.2.frm Z2.out id))
    | (go_at_call 24; rw [← HW.out]; refine (KX.out _ (Frm.refl Nix w0)).mono ?_; rintro e w1 ⟨rfl, hf⟩; have Z1 := Lib.hid hf; clear hf; clear x0 x1 x2 x3 x4 x5 x6 x7 x8 y0 y1 y2 y3 y4 y5 y6 y7 y8; obtain ⟨x0, x1, x2, x3, x4, x5, x6, x7, x8⟩ := blk9 (HB.out.1.frm Z1.out id); obtain ⟨y0, y1, y2, y3, y4, y5, y6, y7, y8⟩ := blk9 (HB.out.2.frm Z1.out id)))
  have e1 : peel 2 (bodyOf Tryz.f4) = .seq (hdC (peel 2 (bodyOf Tryz.f4))) (peel 3 (bodyOf Tryz.f4)) := by kernel_rfl
  rw [e1]
  clear e1
  refine wp_seq_k fun K hK => ?_
  conv in hdC _ => whnf
  go_wp2_with (go_at_call 25; refine (From_no (HX.out.nix Z2.out) HSm.out HPl.out HPn.out HOk.out).mono ?_; rintro e w3 ⟨rfl, hf⟩; have Z3 : Hid (Frm Nix w0 w3) := Z2.out.trans hf; clear hf; clear x0 x1 x2 x3 x4 x5 x6 x7 x8 y0 y1 y2 y3 y4 y5 y6 y7 y8; obtain ⟨x0, x1, x2, x3, x4, x5, x6, x7, x8⟩ := blk9 (HB.out.1.frm Z3.out id); obtain ⟨y0, y1, y2, y3, y4, y5, y6, y7, y8⟩ := blk9 (HB.out.2.frm Z3.out id))
  have q := fun z : FW (Frm Nix w3) => blk9 ((HB.out.1.frm Z3.out id).frm z.h id)
  have q' := fun z : FW (Frm Nix w3) => blk9 ((HB.out.2.frm Z3.out id).frm z.h id)
  have q0 := fun z => (q z).1
  have r0 := fun z => (q' z).1
  have q1 := fun z => (q z).2.1
  have r1 := fun z => (q' z).2.1
  have q2 := fun z => (q z).2.2.1
  have r2 := fun z => (q' z).2.2.1
  have q3 := fun z => (q z).2.2.2.1
  have r3 := fun z => (q' z).2.2.2.1
  have q4 := fun z => (q z).2.2.2.2.1
  have r4 := fun z => (q' z).2.2.2.2.1
  have q5 := fun z => (q z).2.2.2.2.2.1
  have r5 := fun z => (q' z).2.2.2.2.2.1
  have q6 := fun z => (q z).2.2.2.2.2.2.1
  have r6 := fun z => (q' z).2.2.2.2.2.2.1
  have q7 := fun z => (q z).2.2.2.2.2.2.2.1
  have r7 := fun z => (q' z).2.2.2.2.2.2.2.1
  have q8 := fun z => (q z).2.2.2.2.2.2.2.2
  have r8 := fun z => (q' z).2.2.2.2.2.2.2.2
  clear q q'
  have KLv := fun z : FW (Frm Nix w3) => lives_any z.w
  have KS1 := fun z : FW (Frm Nix w3) => (show Calls Tryz.prog 26 #[.agg #[.int .i64 x.clock, .slice fo.1 x.fols.length fo.2, .slice fe.1 x.fees.length fe.2, .slice it.1 x.itms.length it.2, .slice se.1 x.seas.length se.2, .int .i64 x.tFol, .int .i64 x.tFee, .int .i64 x.tItm, .int .i64 x.tSea], .agg #[.int .i64 y.clock, .slice fo'.1 y.fols.length fo'.2, .slice fe'.1 y.fees.length fe'.2, .slice it'.1 y.itms.length it'.2, .slice se'.1 y.seas.length se'.2, .int .i64 y.tFol, .int .i64 y.tFee, .int .i64 y.tItm, .int .i64 y.tSea]] z.w fun e w' => e = .returned (.bool bx) ∧ Frm Nix z.w w' from by have := Same_any ((HX.out.nix Z3.out).nix z.h) ((HY.out.nix Z3.out).nix z.h) HSm.out HSm'.out; rw [HBx.out] at this; exact this)
  have KS2 := fun z : FW (Frm Nix w3) => (show Calls Tryz.prog 17 #[.agg #[.int .i64 x.clock, .slice fo.1 x.fols.length fo.2, .slice fe.1 x.fees.length fe.2, .slice it.1 x.itms.length it.2, .slice se.1 x.seas.length se.2, .int .i64 x.tFol, .int .i64 x.tFee, .int .i64 x.tItm, .int .i64 x.tSea], .agg #[.int .i64 y.clock, .slice fo'.1 y.fols.length fo'.2, .slice fe'.1 y.fees.length fe'.2, .slice it'.1 y.itms.length it'.2, .slice se'.1 y.seas.length se'.2, .int .i64 y.tFol, .int .i64 y.tFee, .int .i64 y.tItm, .int .i64 y.tSea]] z.w fun e w' => e = .returned (.bool bx) ∧ Frm Nix z.w w' from by have := rStSame_any ((HX.out.nix Z3.out).nix z.h) ((HY.out.nix Z3.out).nix z.h) HSm.out HSm'.out; rw [HBx.out] at this; exact this)
  have KS3 := fun z : FW (Frm Nix w3) => (show Calls Tryz.prog 26 #[.agg #[.int .i64 x.clock, .slice fo.1 x.fols.length fo.2, .slice fe.1 x.fees.length fe.2, .slice it.1 x.itms.length it.2, .slice se.1 x.seas.length se.2, .int .i64 x.tFol, .int .i64 x.tFee, .int .i64 x.tItm, .int .i64 x.tSea], .agg #[.int .i64 x.clock, .slice fo.1 x.fols.length fo.2, .slice fe.1 x.fees.length fe.2, .slice it.1 x.itms.length it.2, .slice se.1 x.seas.length se.2, .int .i64 x.tFol, .int .i64 x.tFee, .int .i64 x.tItm, .int .i64 x.tSea]] z.w fun e w' => e = .returned (.bool true) ∧ Frm Nix z.w w' from by have := Same_any ((HX.out.nix Z3.out).nix z.h) ((HX.out.nix Z3.out).nix z.h) HSm.out HSm.out; rw [decide_eq_true rfl] at this; exact this)
  have e1 : peel 3 (bodyOf Tryz.f4) = .seq (hdC (peel 3 (bodyOf Tryz.f4))) (peel 4 (bodyOf Tryz.f4)) := by kernel_rfl
  rw [e1]
  clear e1
  refine wp_seq_k fun K hK => ?_
  conv in hdC _ => whnf
  go_wp2_with fail
  refine wp_region_class (Frm Nix w3) ((Frm.refl Nix w3).drew) (by kernel_rfl) (by kernel_rfl) ?_
  repeat (go_big_quiet_step (first
    | (rename_i z; go_at_call 16; refine z.call (KLv z) ?_; exact fun w' hf => z.h.trans hf)
    | (rename_i z; go_at_call 17; refine z.call (KS2 z) ?_; exact fun w' hf => z.h.trans hf)
    | (rename_i z; go_at_call 26; with_reducible refine z.call (KS1 z) ?_; exact fun w' hf => z.h.trans hf)
    | (rename_i z; go_at_call 26; with_reducible refine z.call (KS3 z) ?_; exact fun w' hf => z.h.trans hf)
    | fail))
  refine wpQuiet_nil ?_
  rintro w4 ⟨⟨_, hf4⟩, rfl⟩
  have Z4 : Hid (Frm Nix w0 w4) := Z3.out.trans hf4
  have HF4 := Lib.hid hf4
  clear hf4 KLv KS1 KS2 KS3 q0 r0 q1 r1 q2 r2 q3 r3 q4 r4 q5 r5 q6 r6 q7 r7 q8 r8
  clear x0 x1 x2 x3 x4 x5 x6 x7 x8 y0 y1 y2 y3 y4 y5 y6 y7 y8; obtain ⟨x0, x1, x2, x3, x4, x5, x6, x7, x8⟩ := blk9 (HB.out.1.frm Z4.out id); obtain ⟨y0, y1, y2, y3, y4, y5, y6, y7, y8⟩ := blk9 (HB.out.2.frm Z4.out id)
  go_wp2
  have KC : Hid (Calls Tryz.prog 27 #[.agg #[.int .i64 x.clock, .slice fo.1 x.fols.length fo.2, .slice fe.1 x.fees.length fe.2, .slice it.1 x.itms.length it.2, .slice se.1 x.seas.length se.2, .int .i64 x.tFol, .int .i64 x.tFee, .int .i64 x.tItm, .int .i64 x.tSea]] w4 fun e w' => e = .returned (.bool false) ∧ Frm Nix w4 w') := by
    have := rStCheck_any (HX.out.nix Z4.out) HSm.out
    rw [HOk.out] at this
    exact this
  have KCh : Hid (∀ W, Frm Nix w0 W → Calls Tryz.prog 28 #[.agg #[.int .i64 x.clock, .slice fo.1 x.fols.length fo.2, .slice fe.1 x.fees.length fe.2, .slice it.1 x.itms.length it.2, .slice se.1 x.seas.length se.2, .int .i64 x.tFol, .int .i64 x.tFee, .int .i64 x.tItm, .int .i64 x.tSea]] W fun e w' => e = .returned (.int .i64 210) ∧ Frm Nix W w') := fun W hW => by
    have := Check_any (HX.out.nix hW) HSm.out HPl.out HPn.out
    rw [HOk.out] at this
    exact this
  have e1 : peel 4 (bodyOf Tryz.f4) = .seq (hdC (peel 4 (bodyOf Tryz.f4))) (peel 5 (bodyOf Tryz.f4)) := by kernel_rfl
  rw [e1]
  clear e1
  refine wp_seq_k fun K hK => ?_
  conv in hdC _ => whnf
  go_wp2_with (first
    | (go_at_call 29; refine (History_no (HX.out.nix Z6.out) HSm.out HPl.out HPn.out HOk.out).mono ?_; rintro e w7 ⟨rfl, hf⟩; have Z7 : Hid (Frm Nix w0 w7) := Z6.out.trans hf; clear hf)
    | (go_at_call 28; refine (KCh.out _ Z5.out).mono ?_; rintro e w6 ⟨rfl, hf⟩; have Z6 : Hid (Frm Nix w0 w6) := Z5.out.trans hf; clear hf; clear x0 x1 x2 x3 x4 x5 x6 x7 x8 y0 y1 y2 y3 y4 y5 y6 y7 y8; obtain ⟨x0, x1, x2, x3, x4, x5, x6, x7, x8⟩ := blk9 (HB.out.1.frm Z6.out id); obtain ⟨y0, y1, y2, y3, y4, y5, y6, y7, y8⟩ := blk9 (HB.out.2.frm Z6.out id))
    | (go_at_call 27; refine KC.out.mono ?_; rintro e w5 ⟨rfl, hf⟩; have Z5 : Hid (Frm Nix w0 w5) := Z4.out.trans hf; have HF5 := Lib.hid hf; clear hf; clear x0 x1 x2 x3 x4 x5 x6 x7 x8 y0 y1 y2 y3 y4 y5 y6 y7 y8; obtain ⟨x0, x1, x2, x3, x4, x5, x6, x7, x8⟩ := blk9 (HB.out.1.frm Z5.out id); obtain ⟨y0, y1, y2, y3, y4, y5, y6, y7, y8⟩ := blk9 (HB.out.2.frm Z5.out id)))
  go_ret
  exact ⟨rfl, HF0.out.trans Z7.out⟩

set_option maxRecDepth 100000 in
set_option maxHeartbeats 16000000 in
theorem checks_yes {w : World} {G G' : Nat → Prop} {fo fe it se fo' fe' it' se' : Sl} {ts ts' : List (Sl × Itm)} {x y : St} (h : StIn w G fo fe it se ts x) (h' : StIn w G' fo' fe' it' se' ts' y) (hn : StNums x) (hl : largeS x = false) (hl' : largeS y = false) (hok : stOk x = true) : Calls Tryz.prog 4 #[stV fo fe it se x, stV fo' fe' it' se' y] w fun e w' => e = .returned (.bool true) ∧ Frm Nix w w' := by
  obtain ⟨w0, hw0, hf0, hb1, hb2⟩ := box_ss w fo fe it se fo' fe' it' se' x y
  obtain ⟨x0, x1, x2, x3, x4, x5, x6, x7, x8⟩ := blk9 hb1
  obtain ⟨y0, y1, y2, y3, y4, y5, y6, y7, y8⟩ := blk9 hb2
  have HX := Lib.hid (h.nix hf0)
  have HY := Lib.hid (h'.nix hf0)
  have HNum := Lib.hid hn
  have HB := Lib.hid (And.intro hb1 hb2)
  have HF0 := Lib.hid hf0
  have HW := Lib.hid hw0
  have KX : Hid (∀ W, Frm Nix w0 W → Calls Tryz.prog 24 #[.agg #[.int .i64 x.clock, .slice fo.1 x.fols.length fo.2, .slice fe.1 x.fees.length fe.2, .slice it.1 x.itms.length it.2, .slice se.1 x.seas.length se.2, .int .i64 x.tFol, .int .i64 x.tFee, .int .i64 x.tItm, .int .i64 x.tSea]] W fun e w' => e = .returned (.bool (largeS x)) ∧ Frm Nix W w') := fun W hW => rLargeSt_any (HX.out.nix hW)
  have KY : Hid (∀ W, Frm Nix w0 W → Calls Tryz.prog 24 #[.agg #[.int .i64 y.clock, .slice fo'.1 y.fols.length fo'.2, .slice fe'.1 y.fees.length fe'.2, .slice it'.1 y.itms.length it'.2, .slice se'.1 y.seas.length se'.2, .int .i64 y.tFol, .int .i64 y.tFee, .int .i64 y.tItm, .int .i64 y.tSea]] W fun e w' => e = .returned (.bool (largeS y)) ∧ Frm Nix W w') := fun W hW => rLargeSt_any (HY.out.nix hW)
  clear h h' hn hf0 hb1 hb2
  rw [hw0] at x0 x1 x2 x3 x4 x5 x6 x7 x8 y0 y1 y2 y3 y4 y5 y6 y7 y8
  clear hw0
  unfold stV
  have HSm : Hid (StSmall x) := small_large hl
  have HSm' : Hid (StSmall y) := small_large hl'
  have HPl : Hid ((pastS x).length ≤ 900000) := past_large hl
  have HPn : Hid (∀ e ∈ pastS x, I64 e.a ∧ I64 e.b) := past_nums HNum.out
  have HOk := Lib.hid hok
  obtain ⟨bx, hbx⟩ : ∃ bx, decide (x = y) = bx := ⟨_, rfl⟩
  have HBx := Lib.hid hbx
  have hbb : (bx != bx) = false := by simp
  rw [hl] at KX
  rw [hl'] at KY
  clear hl hl' hok hbx
  go_enter Tryz.func4, Tryz.ntmps4
  show Code.wp Tryz.prog (peel 0 (bodyOf Tryz.f4)) _ _ _
  have e1 : peel 0 (bodyOf Tryz.f4) = .seq (hdC (peel 0 (bodyOf Tryz.f4))) (peel 1 (bodyOf Tryz.f4)) := by kernel_rfl
  rw [e1]
  clear e1
  refine wp_seq_k fun K hK => ?_
  conv in hdC _ => whnf
  go_wp2
  have e1 : peel 1 (bodyOf Tryz.f4) = .seq (hdC (peel 1 (bodyOf Tryz.f4))) (peel 2 (bodyOf Tryz.f4)) := by kernel_rfl
  rw [e1]
  clear e1
  refine wp_seq_k fun K hK => ?_
  conv in hdC _ => whnf
  go_wp2_with (first
    | (go_at_call 24; have _q := Z1; refine (KY.out _ Z1.out).mono ?_; rintro e w2 ⟨rfl, hf⟩; have Z2 : Hid (Frm Nix w0 w2) := Z1.out.trans hf; clear hf; clear x0 x1 x2 x3 x4 x5 x6 x7 x8 y0 y1 y2 y3 y4 y5 y6 y7 y8; obtain ⟨x0, x1, x2, x3, x4, x5, x6, x7, x8⟩ := blk9 (HB.out.1.frm Z2.out id); obtain ⟨y0, y1, y2, y3, y4, y5, y6, y7, y8⟩ := blk9 (HB.out.2.frm Z2.out id))
    | (go_at_call 24; rw [← HW.out]; refine (KX.out _ (Frm.refl Nix w0)).mono ?_; rintro e w1 ⟨rfl, hf⟩; have Z1 := Lib.hid hf; clear hf; clear x0 x1 x2 x3 x4 x5 x6 x7 x8 y0 y1 y2 y3 y4 y5 y6 y7 y8; obtain ⟨x0, x1, x2, x3, x4, x5, x6, x7, x8⟩ := blk9 (HB.out.1.frm Z1.out id); obtain ⟨y0, y1, y2, y3, y4, y5, y6, y7, y8⟩ := blk9 (HB.out.2.frm Z1.out id)))
  have e1 : peel 2 (bodyOf Tryz.f4) = .seq (hdC (peel 2 (bodyOf Tryz.f4))) (peel 3 (bodyOf Tryz.f4)) := by kernel_rfl
  rw [e1]
  clear e1
  refine wp_seq_k fun K hK => ?_
  conv in hdC _ => whnf
  go_wp2_with (go_at_call 25; refine (From_yes (HX.out.nix Z2.out) HSm.out HPl.out HPn.out HOk.out).mono ?_; rintro e w3 ⟨g, M, rfl, hs, hf, hg⟩; have H3 := Lib.hid hs; have Z3 : Hid (Frm Nix w0 w3) := Z2.out.trans hf; clear hs hf hg; clear x0 x1 x2 x3 x4 x5 x6 x7 x8 y0 y1 y2 y3 y4 y5 y6 y7 y8; obtain ⟨x0, x1, x2, x3, x4, x5, x6, x7, x8⟩ := blk9 (HB.out.1.frm Z3.out id); obtain ⟨y0, y1, y2, y3, y4, y5, y6, y7, y8⟩ := blk9 (HB.out.2.frm Z3.out id))
  have q := fun z : FW (Frm Nix w3) => blk9 ((HB.out.1.frm Z3.out id).frm z.h id)
  have q' := fun z : FW (Frm Nix w3) => blk9 ((HB.out.2.frm Z3.out id).frm z.h id)
  have q0 := fun z => (q z).1
  have r0 := fun z => (q' z).1
  have q1 := fun z => (q z).2.1
  have r1 := fun z => (q' z).2.1
  have q2 := fun z => (q z).2.2.1
  have r2 := fun z => (q' z).2.2.1
  have q3 := fun z => (q z).2.2.2.1
  have r3 := fun z => (q' z).2.2.2.1
  have q4 := fun z => (q z).2.2.2.2.1
  have r4 := fun z => (q' z).2.2.2.2.1
  have q5 := fun z => (q z).2.2.2.2.2.1
  have r5 := fun z => (q' z).2.2.2.2.2.1
  have q6 := fun z => (q z).2.2.2.2.2.2.1
  have r6 := fun z => (q' z).2.2.2.2.2.2.1
  have q7 := fun z => (q z).2.2.2.2.2.2.2.1
  have r7 := fun z => (q' z).2.2.2.2.2.2.2.1
  have q8 := fun z => (q z).2.2.2.2.2.2.2.2
  have r8 := fun z => (q' z).2.2.2.2.2.2.2.2
  clear q q'
  have KLv := fun z : FW (Frm Nix w3) => lives_any z.w
  have KS1 := fun z : FW (Frm Nix w3) => (show Calls Tryz.prog 26 #[.agg #[.int .i64 x.clock, .slice fo.1 x.fols.length fo.2, .slice fe.1 x.fees.length fe.2, .slice it.1 x.itms.length it.2, .slice se.1 x.seas.length se.2, .int .i64 x.tFol, .int .i64 x.tFee, .int .i64 x.tItm, .int .i64 x.tSea], .agg #[.int .i64 y.clock, .slice fo'.1 y.fols.length fo'.2, .slice fe'.1 y.fees.length fe'.2, .slice it'.1 y.itms.length it'.2, .slice se'.1 y.seas.length se'.2, .int .i64 y.tFol, .int .i64 y.tFee, .int .i64 y.tItm, .int .i64 y.tSea]] z.w fun e w' => e = .returned (.bool bx) ∧ Frm Nix z.w w' from by have := Same_any ((HX.out.nix Z3.out).nix z.h) ((HY.out.nix Z3.out).nix z.h) HSm.out HSm'.out; rw [HBx.out] at this; exact this)
  have KS2 := fun z : FW (Frm Nix w3) => (show Calls Tryz.prog 17 #[.agg #[.int .i64 x.clock, .slice fo.1 x.fols.length fo.2, .slice fe.1 x.fees.length fe.2, .slice it.1 x.itms.length it.2, .slice se.1 x.seas.length se.2, .int .i64 x.tFol, .int .i64 x.tFee, .int .i64 x.tItm, .int .i64 x.tSea], .agg #[.int .i64 y.clock, .slice fo'.1 y.fols.length fo'.2, .slice fe'.1 y.fees.length fe'.2, .slice it'.1 y.itms.length it'.2, .slice se'.1 y.seas.length se'.2, .int .i64 y.tFol, .int .i64 y.tFee, .int .i64 y.tItm, .int .i64 y.tSea]] z.w fun e w' => e = .returned (.bool bx) ∧ Frm Nix z.w w' from by have := rStSame_any ((HX.out.nix Z3.out).nix z.h) ((HY.out.nix Z3.out).nix z.h) HSm.out HSm'.out; rw [HBx.out] at this; exact this)
  have KS3 := fun z : FW (Frm Nix w3) => (show Calls Tryz.prog 26 #[.agg #[.int .i64 x.clock, .slice fo.1 x.fols.length fo.2, .slice fe.1 x.fees.length fe.2, .slice it.1 x.itms.length it.2, .slice se.1 x.seas.length se.2, .int .i64 x.tFol, .int .i64 x.tFee, .int .i64 x.tItm, .int .i64 x.tSea], .agg #[.int .i64 x.clock, .slice fo.1 x.fols.length fo.2, .slice fe.1 x.fees.length fe.2, .slice it.1 x.itms.length it.2, .slice se.1 x.seas.length se.2, .int .i64 x.tFol, .int .i64 x.tFee, .int .i64 x.tItm, .int .i64 x.tSea]] z.w fun e w' => e = .returned (.bool true) ∧ Frm Nix z.w w' from by have := Same_any ((HX.out.nix Z3.out).nix z.h) ((HX.out.nix Z3.out).nix z.h) HSm.out HSm.out; rw [decide_eq_true rfl] at this; exact this)
  have e1 : peel 3 (bodyOf Tryz.f4) = .seq (hdC (peel 3 (bodyOf Tryz.f4))) (peel 4 (bodyOf Tryz.f4)) := by kernel_rfl
  rw [e1]
  clear e1
  refine wp_seq_k fun K hK => ?_
  conv in hdC _ => whnf
  go_wp2_with fail
  refine wp_region_class (Frm Nix w3) ((Frm.refl Nix w3).drew) (by kernel_rfl) (by kernel_rfl) ?_
  repeat (go_big_quiet_step (first
    | (rename_i z; go_at_call 16; refine z.call (KLv z) ?_; exact fun w' hf => z.h.trans hf)
    | (rename_i z; go_at_call 17; refine z.call (KS2 z) ?_; exact fun w' hf => z.h.trans hf)
    | (rename_i z; go_at_call 26; with_reducible refine z.call (KS1 z) ?_; exact fun w' hf => z.h.trans hf)
    | (rename_i z; go_at_call 26; with_reducible refine z.call (KS3 z) ?_; exact fun w' hf => z.h.trans hf)
    | fail))
  refine wpQuiet_nil ?_
  rintro w4 ⟨⟨_, hf4⟩, rfl⟩
  have Z4 : Hid (Frm Nix w0 w4) := Z3.out.trans hf4
  have HF4 := Lib.hid hf4
  clear hf4 KLv KS1 KS2 KS3 q0 r0 q1 r1 q2 r2 q3 r3 q4 r4 q5 r5 q6 r6 q7 r7 q8 r8
  clear x0 x1 x2 x3 x4 x5 x6 x7 x8 y0 y1 y2 y3 y4 y5 y6 y7 y8; obtain ⟨x0, x1, x2, x3, x4, x5, x6, x7, x8⟩ := blk9 (HB.out.1.frm Z4.out id); obtain ⟨y0, y1, y2, y3, y4, y5, y6, y7, y8⟩ := blk9 (HB.out.2.frm Z4.out id)
  go_wp2
  have KC : Hid (Calls Tryz.prog 27 #[.agg #[.int .i64 x.clock, .slice fo.1 x.fols.length fo.2, .slice fe.1 x.fees.length fe.2, .slice it.1 x.itms.length it.2, .slice se.1 x.seas.length se.2, .int .i64 x.tFol, .int .i64 x.tFee, .int .i64 x.tItm, .int .i64 x.tSea]] w4 fun e w' => e = .returned (.bool true) ∧ Frm Nix w4 w') := by
    have := rStCheck_any (HX.out.nix Z4.out) HSm.out
    rw [HOk.out] at this
    exact this
  have KCh : Hid (∀ W, Frm Nix w0 W → Calls Tryz.prog 28 #[.agg #[.int .i64 x.clock, .slice fo.1 x.fols.length fo.2, .slice fe.1 x.fees.length fe.2, .slice it.1 x.itms.length it.2, .slice se.1 x.seas.length se.2, .int .i64 x.tFol, .int .i64 x.tFee, .int .i64 x.tItm, .int .i64 x.tSea]] W fun e w' => e = .returned (.int .i64 0) ∧ Frm Nix W w') := fun W hW => by
    have := Check_any (HX.out.nix hW) HSm.out HPl.out HPn.out
    rw [HOk.out] at this
    exact this
  have e1 : peel 4 (bodyOf Tryz.f4) = .seq (hdC (peel 4 (bodyOf Tryz.f4))) (peel 5 (bodyOf Tryz.f4)) := by kernel_rfl
  rw [e1]
  clear e1
  refine wp_seq_k fun K hK => ?_
  conv in hdC _ => whnf
  go_wp2_with (go_at_call 27; refine KC.out.mono ?_; rintro e w5 ⟨rfl, hf⟩; have Z5 : Hid (Frm Nix w0 w5) := Z4.out.trans hf; have HF5 := Lib.hid hf; clear hf; clear x0 x1 x2 x3 x4 x5 x6 x7 x8 y0 y1 y2 y3 y4 y5 y6 y7 y8; obtain ⟨x0, x1, x2, x3, x4, x5, x6, x7, x8⟩ := blk9 (HB.out.1.frm Z5.out id); obtain ⟨y0, y1, y2, y3, y4, y5, y6, y7, y8⟩ := blk9 (HB.out.2.frm Z5.out id))
  have H5 := Lib.hid ((H3.out.nix HF4.out).nix HF5.out)
  have HMk : Hid (∀ W, Frm Nix w5 W → (fun W => Frm Nix w5 W ∧ W.cell? ⟨w.heap.size, 0, none⟩ = some (.int .i64 x.clock) ∧ W.cell? ⟨w.heap.size, 1, none⟩ = some (.slice fo.1 x.fols.length fo.2) ∧ W.cell? ⟨w.heap.size, 2, none⟩ = some (.slice fe.1 x.fees.length fe.2) ∧ W.cell? ⟨w.heap.size, 3, none⟩ = some (.slice it.1 x.itms.length it.2) ∧ W.cell? ⟨w.heap.size, 4, none⟩ = some (.slice se.1 x.seas.length se.2) ∧ W.cell? ⟨w.heap.size, 5, none⟩ = some (.int .i64 x.tFol) ∧ W.cell? ⟨w.heap.size, 6, none⟩ = some (.int .i64 x.tFee) ∧ W.cell? ⟨w.heap.size, 7, none⟩ = some (.int .i64 x.tItm) ∧ W.cell? ⟨w.heap.size, 8, none⟩ = some (.int .i64 x.tSea)) W) := fun W hW => ⟨hW, blk9 ((HB.out.1.frm Z5.out id).frm hW id)⟩
  have KCh5 : Hid (∀ W, Frm Nix w5 W → Calls Tryz.prog 28 #[.agg #[.int .i64 x.clock, .slice fo.1 x.fols.length fo.2, .slice fe.1 x.fees.length fe.2, .slice it.1 x.itms.length it.2, .slice se.1 x.seas.length se.2, .int .i64 x.tFol, .int .i64 x.tFee, .int .i64 x.tItm, .int .i64 x.tSea]] W fun e w' => e = .returned (.int .i64 0) ∧ Frm Nix w5 w') := fun W hW => (KCh.out W (Z5.out.trans hW)).mono fun e w' q => ⟨q.1, hW.trans q.2⟩
  have KT : Hid (∀ W, Frm Nix w5 W → Calls Tryz.prog 18 #[.pointer (some ⟨g, 0, none⟩)] W fun e w' => ∃ fo fe it se : Sl, ∃ ts : List (Sl × Itm), e = .returned (.agg #[.int .i64 x.clock, .slice fo.1 x.fols.length fo.2, .slice fe.1 x.fees.length fe.2, .slice it.1 x.itms.length it.2, .slice se.1 x.seas.length se.2, .int .i64 x.tFol, .int .i64 x.tFee, .int .i64 x.tItm, .int .i64 x.tSea]) ∧ StIn w' (fun k => W.heap.size ≤ k) fo fe it se ts x ∧ Frm Nix w5 w') := fun W hW => (Tell_any (H5.out.nix hW)).mono fun e w' ⟨a1, a2, a3, a4, a5, q1, q2, q3⟩ => ⟨a1, a2, a3, a4, a5, q1, q2, hW.trans q3⟩
  have KR : Hid (∀ W fo5 fe5 it5 se5 ts5 G5, Frm Nix w5 W → StIn W G5 fo5 fe5 it5 se5 ts5 x → Calls Tryz.prog 17 #[.agg #[.int .i64 x.clock, .slice fo5.1 x.fols.length fo5.2, .slice fe5.1 x.fees.length fe5.2, .slice it5.1 x.itms.length it5.2, .slice se5.1 x.seas.length se5.2, .int .i64 x.tFol, .int .i64 x.tFee, .int .i64 x.tItm, .int .i64 x.tSea], .agg #[.int .i64 x.clock, .slice fo.1 x.fols.length fo.2, .slice fe.1 x.fees.length fe.2, .slice it.1 x.itms.length it.2, .slice se.1 x.seas.length se.2, .int .i64 x.tFol, .int .i64 x.tFee, .int .i64 x.tItm, .int .i64 x.tSea]] W fun e w' => e = .returned (.bool true) ∧ Frm Nix w5 w') := fun W fo5 fe5 it5 se5 ts5 G5 hW hD => by
    have := rStSame_any hD ((HX.out.nix Z5.out).nix hW) HSm.out HSm.out
    rw [decide_eq_true rfl] at this
    exact this.mono fun e w' q => ⟨q.1, hW.trans q.2⟩
  simp only [peel, bodyOf, Tryz.f4]
  go_wp2
  go_region_held3 (fun W => Frm Nix w5 W ∧ W.cell? ⟨w.heap.size, 0, none⟩ = some (.int .i64 x.clock) ∧ W.cell? ⟨w.heap.size, 1, none⟩ = some (.slice fo.1 x.fols.length fo.2) ∧ W.cell? ⟨w.heap.size, 2, none⟩ = some (.slice fe.1 x.fees.length fe.2) ∧ W.cell? ⟨w.heap.size, 3, none⟩ = some (.slice it.1 x.itms.length it.2) ∧ W.cell? ⟨w.heap.size, 4, none⟩ = some (.slice se.1 x.seas.length se.2) ∧ W.cell? ⟨w.heap.size, 5, none⟩ = some (.int .i64 x.tFol) ∧ W.cell? ⟨w.heap.size, 6, none⟩ = some (.int .i64 x.tFee) ∧ W.cell? ⟨w.heap.size, 7, none⟩ = some (.int .i64 x.tItm) ∧ W.cell? ⟨w.heap.size, 8, none⟩ = some (.int .i64 x.tSea)) ((refine HMk.out _ ?_; repeat' (first | with_reducible exact Frm.refl _ _ | with_reducible apply Frm.drew | with_reducible exact hz1 | with_reducible exact hz2 | with_reducible exact hz3)))
    (first
      | (go_at_call 28; refine (KCh5.out _ (by repeat' (first | with_reducible exact Frm.refl _ _ | with_reducible apply Frm.drew))).mono ?_; rintro r w6 ⟨rfl, hz1⟩)
      | (go_at_call 18; refine (KT.out _ hz1).mono ?_; rintro r w7 ⟨fo7, fe7, it7, se7, ts7, rfl, hd7, hz2⟩)
      | (go_at_call 17; refine (KR.out _ _ _ _ _ _ _ hz2 hd7).mono ?_; rintro r w8 ⟨rfl, hz3⟩; have HZ := Lib.hid hz3))
  all_goals
    go_wp2
    go_ret
    exact ⟨rfl, HF0.out.trans (Z5.out.trans HZ.out)⟩

theorem checks_walk {w : World} {G G' : Nat → Prop} {fo fe it se fo' fe' it' se' : Sl} {ts ts' : List (Sl × Itm)} {x y : St} (h : StIn w G fo fe it se ts x) (h' : StIn w G' fo' fe' it' se' ts' y) (hn : StNums x) : Calls Tryz.prog 4 #[stV fo fe it se x, stV fo' fe' it' se' y] w fun e w' => e = .returned (.bool true) ∧ Frm Nix w w' := by
  cases h1 : largeS x with
  | true => exact checks_l1 h h' hn h1
  | false =>
    cases h2 : largeS y with
    | true => exact checks_l2 h h' hn h1 h2
    | false =>
      cases h3 : stOk x with
      | true => exact checks_yes h h' hn h1 h2 h3
      | false => exact checks_no h h' hn h1 h2 h3
end Go.Proofs.YtjbifjgeheigoaaGreat
end
section
set_option linter.unusedVariables false
set_option linter.unusedSimpArgs false
namespace Go.Proofs.YtjbifjgeheigoaaGreat
open Go.ChangeShapes Go.WideShapes Go.ChangeAt Go.RowKit

namespace stateChecks
set_option maxRecDepth 100000 in
theorem walk (fo fe it se : Sl) (ts : List (Sl × Itm)) (x : St) (fo' fe' it' se' : Sl) (ts' : List (Sl × Itm)) (y : St) (W : World) (h : StIs W fo fe it se ts x) (h' : StIs W fo' fe' it' se' ts' y) :
    Calls Tryz.prog 4 #[stV fo fe it se x, stV fo' fe' it' se' y] W fun r w' => r = .returned (.bool true) ∧ Frm Nix W w' :=
  checks_walk h.st h'.st h.nums

theorem own : ownKnob Tryz.prog.godebug = none := by kernel_rfl
theorem laidOut : laidOutB Tryz.prog = true := by kernel_rfl

set_option maxRecDepth 100000 in
theorem lifted (os : Os) (started : os.Started) (H : Type) (enc : TypeId × Value → H) :
    ReturnsInHanded {} Tryz.checked os 4 .any (Rows.stateChecksSpec.pre6 enc Tryz.prog Tryz.f4 Rows.stateChecksRow.domain false) (Rows.stateChecksSpec.post enc Tryz.prog Tryz.f4 false true false false) := by
  refine returnsInHanded_of_change (C := Tryz.checked) own started (by kernel_rfl) Tryz.func4
    (ChangeSpec.witness6 (enc := enc) (C := Tryz.checked) false ⟨#[], #[.agg #[.int .i64 0, .slice none 0 0, .slice none 0 0, .slice none 0 0, .slice none 0 0, .int .i64 0, .int .i64 0, .int .i64 0, .int .i64 0], .agg #[.int .i64 0, .slice none 0 0, .slice none 0 0, .slice none 0 0, .slice none 0 0, .int .i64 0, .int .i64 0, .int .i64 0, .int .i64 0]], []⟩ 8 (by kernel_rfl) (by kernel_rfl) (by kernel_rfl) (by kernel_rfl)) ?_
  intro W base args ds gs before hval0 hW hcnd _
  have hval : ∀ (j : Nat) t v, Tryz.f4.params[j]? = some t → args[j]? = some v → Value.okWide Tryz.prog W .any base t v := hval0
  have hW' := hW
  obtain ⟨p, q, hA0, hV, rfl, hfz, hnd⟩ := hW
  have hA : DataW.TrodAll enc Tryz.prog W 0 (fun _ => true) true Tryz.f4.params.toList args.toList ds p := hA0
  rw [Tryz.params4] at hA hval
  obtain ⟨v0, vs0, d0, ds0, p0, q0, hargs, rfl, rfl, h0, r0⟩ := trodAll_cons hA
  obtain ⟨v1, vs1, d1, ds1, p1, q1, rfl, rfl, rfl, h1, r1⟩ := trodAll_cons r0
  obtain ⟨rfl, rfl, rfl⟩ := trodAll_nil r1
  obtain rfl : args = #[v0, v1] := by cases args; simp_all
  obtain ⟨rfl, rfl⟩ := trodVars_none hV
  have k0 := h0
  have lt0 : ∀ x ∈ p0, x.block < W.heap.size := by obtain ⟨m, hm⟩ := k0; exact DataW.trod_lt m _ _ _ hm
  obtain ⟨fo0, fe0, it0, se0, ts0, x0, rfl, wx0⟩ : ∃ fo fe it se ts s, v0 = stV fo fe it se s ∧ StIs W fo fe it se ts s := by
    obtain ⟨cs, rfl, -⟩ := okWide_struct Tryz.underlying30 (hval 0 30 v0 rfl rfl)
    obtain ⟨fuel, hf⟩ := h0
    obtain ⟨fo, fe, it, se, ts, s, ho, hk⟩ := vSt hf
    exact ⟨fo, fe, it, se, ts, s, by rw [← ho]; rfl, hk⟩
  have k1 := h1
  have lt1 : ∀ x ∈ p1, x.block < W.heap.size := by obtain ⟨m, hm⟩ := k1; exact DataW.trod_lt m _ _ _ hm
  obtain ⟨fo1, fe1, it1, se1, ts1, x1, rfl, wx1⟩ : ∃ fo fe it se ts s, v1 = stV fo fe it se s ∧ StIs W fo fe it se ts s := by
    obtain ⟨cs, rfl, -⟩ := okWide_struct Tryz.underlying30 (hval 1 30 v1 rfl rfl)
    obtain ⟨fuel, hf⟩ := h1
    obtain ⟨fo, fe, it, se, ts, s, ho, hk⟩ := vSt hf
    exact ⟨fo, fe, it, se, ts, s, by rw [← ho]; rfl, hk⟩
  clear hA0 hval0
  refine (walk fo0 fe0 it0 se0 ts0 x0 fo1 fe1 it1 se1 ts1 x1 W wx0 wx1).mono fun e W' ⟨he, hfr⟩ => ?_
  have bel : Below W.heap.size W W' := hfr.below (fun _ h => absurd h id) (Nat.le_refl _)
  subst he
  exact ⟨_, rfl, _, _, _, [], _, [], hW', trodAll_mk1 (shut_bool Tryz.underlying4 _), (trodAll_cons_mk (Below.trod laidOut (by kernel_rfl) (of_decide_eq_true (by kernel_rfl)) k0 bel lt0) (trodAll_cons_mk (Below.trod laidOut (by kernel_rfl) (of_decide_eq_true (by kernel_rfl)) k1 bel lt1) trodAll_mk0)), rfl, bel.frame _, fun h => by cases h⟩

theorem proved : Rows.StateChecksSaid :=
  OpenClaim.holds_of_wide 4 Tryz.f4 rfl rfl rfl rfl rfl rfl rfl ⟨rfl, rfl, rfl, rfl, rfl⟩ rfl rfl rfl rfl rfl (by kernel_rfl) Tryz.func4 closed
    (of_decide_eq_true (by kernel_rfl)) (by unfold Func.isWrapper; first | (rw [if_pos (by decide +kernel)]; kernel_rfl) | (rw [if_neg (by decide +kernel)]; exact ⟨rfl, rfl⟩))
    (fun os started H enc _ => lifted os started H enc)
#print axioms proved
end stateChecks
end Go.Proofs.YtjbifjgeheigoaaGreat
end
