/-
  The reference's disk: Crash, walked.
-/
import Derived.Test.YtdgpaddmheagoaaGreatDoorRefP
import Derived.Deep.DeepCutAuto
set_option linter.unusedVariables false
set_option linter.unusedSimpArgs false
namespace Go.Proofs.YtdgpaddmheagoaaGreatDoor
open Go.RowKit

section
variable {w wr w2 : World} {B g gr c k : Nat} {D : Dsk} {V0 : List RFil} {ks : List Int} {A : Option Addr}
theorem RCr.nix (h : RCr w B g D A c V0 ks k wr) (hf : Frm Nix wr w2) : RCr w B g D A c V0 ks k w2 := by
  obtain ⟨V, h1, h2, h3⟩ := h
  exact ⟨V, h1.nix hf, h2.more hf, h3⟩

/-- a file that is whole. -/
theorem RCr.whole {V : List RFil} {f : Fil} (hd : RDiskAt wr B g { D with L := crashTo D.L ks k } (some ⟨gr, 0, none⟩) c V) (hfr : Frm (RFoot g (.slice (some ⟨gr, 0, none⟩) D.L.length c)) w wr) (hby : ∀ r ∈ V, ∀ b, r.2.ownBlock = some b → (∃ r' ∈ V0, r'.2.ownBlock = some b) ∨ w.heap.size ≤ b)
    (hk : k < D.L.length) (hf : D.L[k] = f) (hw : f.safe = f.b.length) : RCr w B g D (some ⟨gr, 0, none⟩) c V0 ks (k + 1) (wr.setCell ⟨gr, k * 3 + 2, none⟩ (.int .i64 f.b.length)) := by
  have hl := crashTo_len D.L ks k
  have hat := crashTo_at D.L ks k hk (by omega)
  refine RCr.next hk ?_ hd (by simpa using hl) (fun _ => by simp only; rw [hat, hf]) hfr hby
  have h1 : crash1 D.L[k] ks (cntU (D.L.take k)) = { f with safe := f.b.length } := by
    rw [crash1, hf, if_pos hw, ← hw]
  have := crashTo_set D.L ks k hk
  rw [h1] at this
  simp only [this]

/-- a file that is cut. -/
theorem RCr.cut {V : List RFil} {f : Fil} {N c2 : Nat} {A2 : Option Addr} {w7 : World} (h7 : RDiskAt w7 B g { D with L := (crashTo D.L ks k).set k { f with b := f.b.take N } } (some ⟨gr, 0, none⟩) c (V.set k ({ f with b := f.b.take N }, .slice A2 N c2)))
    (hfr : Frm (RFoot g (.slice (some ⟨gr, 0, none⟩) D.L.length c)) w w7) (hby : ∀ r ∈ V, ∀ b, r.2.ownBlock = some b → (∃ r' ∈ V0, r'.2.ownBlock = some b) ∨ w.heap.size ≤ b) (hnew : ∀ b, (Value.slice A2 N c2).ownBlock = some b → w.heap.size ≤ b)
    (hk : k < D.L.length) (hf : D.L[k] = f) (hw : ¬ f.safe = f.b.length) (hNl : N ≤ f.b.length) (hN : N = f.safe + cutN (ks.getD (cntU (D.L.take k)) 0) f.b.length f.safe) : RCr w B g D (some ⟨gr, 0, none⟩) c V0 ks (k + 1) (w7.setCell ⟨gr, k * 3 + 2, none⟩ (.int .i64 N)) := by
  have hl := crashTo_len D.L ks k
  have hlN : (f.b.take N).length = N := by simp; omega
  have := RCr.next (w := w) (V0 := V0) (ks := ks) (D := D) (f7 := { f with b := f.b.take N }) hk ?_ h7 (by simp [hl]) (fun _ => by simp) hfr ?_
  · simp only [hlN] at this
    exact this
  · have h1 : crash1 D.L[k] ks (cntU (D.L.take k)) = { f with b := f.b.take N, safe := N } := by
      rw [crash1, hf, if_neg hw]
      have e : f.safe + min (max (ks.getD (cntU (D.L.take k)) 0) 0).toNat (f.b.length - f.safe) = N := hN.symm
      simp only [Fil.cut, e, hlN]
    have := crashTo_set D.L ks k hk
    rw [h1] at this
    simp only [List.set_set, hlN, this]
  · intro r hr b hb
    rcases List.mem_or_eq_of_mem_set hr with hr | rfl
    · exact hby r hr b hb
    · exact .inr (hnew b hb)
end

set_option maxRecDepth 100000 in
set_option maxHeartbeats 4000000 in
theorem rCrash_any {w : World} {B g : Nat} {W F : Nat → Prop} {D : Dsk} (h : RD w B g W F D) (A : Option Addr) (n c : Nat) (ks : List Int) (hks : ks.length = n) (hn : n ≤ 9223372036854775807) (G : Nat → Prop) (hrd : Rd w G 1 A n (ivs ks)) (hG : ∀ k, G k → ¬ F k) :
    Calls Tryz.prog 34 #[.pointer (some ⟨g, 0, none⟩), .slice A n c] w fun e w' => e = .returned (.tuple #[]) ∧ RGo w B g W F (D.crash ks) w' := by
  obtain ⟨A0, c0, V0, h1, h2, h3⟩ := h.at_
  have HH := Lib.hid h
  have H1 := Lib.hid h1
  have H2 := Lib.hid h2
  have H3 := Lib.hid h3
  have HR := Lib.hid hrd
  have HG := Lib.hid hG
  have HL := Lib.hid hks
  have HO := Lib.hid h1.ok
  have hcnt := h1.ok.cnt
  have HS : Hid (RCr w B g D A0 c0 V0 ks 0 w) := ⟨V0, by rw [crashTo_zero]; exact h1, Frm.refl _ _, fun r hr b hb => .inl ⟨r, hr, hb⟩⟩
  clear h h1 h2 h3 hrd hG hks
  go_enter Tryz.func34, Tryz.ntmps34
  go_wp2
  go_loopw [4, 5] (fun j i wr => ∃ k : Nat, k ≤ D.L.length ∧ i = .int .i64 k ∧ j = .int .i64 (cntU (D.L.take k)) ∧ RCr w B g D A0 c0 V0 ks k wr) (fun _ i _ => D.L.length - (intOf i).toNat)
  case atStart => exact ⟨0, Nat.zero_le _, rfl, rfl, HS.out⟩
  case round =>
    obtain ⟨k, hk, rfl, rfl, hcr⟩ := hrel
    have HC := Lib.hid hcr
    clear hcr
    have hjk := cntU_le D.L k
    by_cases hlt : k < D.L.length
    · obtain ⟨V, hd, hfr, hby⟩ := HC.out
      have hl' := crashTo_len D.L ks k
      have hat := crashTo_at D.L ks k hlt (by omega)
      obtain ⟨gr, fA, fc, hA, ⟨hv, e1, e2⟩, k0, k1, k2, hle, -, hown, hbl, hgr, hgB⟩ := hd.at_ (i := k) (by simp only; omega)
      simp only at e1 e2 k0 k1 k2 hle hown hbl
      have hsafe := HO.out.safe D.L[k] (List.getElem_mem hlt)
      obtain ⟨f, hf⟩ : ∃ f, D.L[k] = f := ⟨_, rfl⟩
      rw [hat, hf] at e1 e2 k0 k1 k2 hle hown hbl
      rw [hf] at hsafe
      subst hA
      have x0 := hd.blk.cell 0
      simp at x0
      rw [hl'] at x0
      have z2 := hd.rowFrozen (k * 3 + 2)
      have hg0 : gr ≠ g := hd.row_ne_g (k := gr) rfl
      have hp0 : (0 : Int) ≤ (k : Int) := Int.natCast_nonneg _
      have hp1 : (k : Int) < (D.L.length : Int) := by omega
      have hgl := hd.blk.lt
      by_cases hwh : f.safe = f.b.length
      · have hb : decide (f.safe < f.b.length) = false := by simp; omega
        have HJ : Hid (cntU (D.L.take (k + 1)) = cntU (D.L.take k)) := by
          unfold Hid
          rw [cntU_succ D.L k hlt, if_pos (by rw [hf]; exact hwh), Nat.add_zero]
        have HW : Hid (RCr w B g D (some ⟨gr, 0, none⟩) c0 V0 ks (k + 1) (wr.setCell ⟨gr, k * 3 + 2, none⟩ (.int .i64 f.b.length))) := RCr.whole hd hfr hby hlt hf hwh
        clear hwh hd hfr hby hat e1 e2 hown hf hl'
        generalize f.b.length = N0 at *
        generalize f.safe = S0 at *
        go_wp2
        go_region
        go_wp2
        go_roundw
        case rel => exact ⟨k + 1, by omega, by go_num, by rw [HJ.out], HW.out.nix ((Frm.refl Nix _).alloc _).drew⟩
        case measure => simp [intOf]; omega
      · have HJ : Hid (cntU (D.L.take (k + 1)) = cntU (D.L.take k) + 1) := by
          unfold Hid
          rw [cntU_succ D.L k hlt, if_neg (by rw [hf]; exact hwh)]
        have HT : Hid (∀ (N : Nat) (bx : Obj), N = f.safe + cutN (ks.getD (cntU (D.L.take k)) 0) f.b.length f.safe → ∃ A2 c2 w6, (∀ ty, (Builtin.append_ #[35, 35] ty #[.slice (some ⟨wr.heap.size + 1, 0, none⟩) 0 0, .slice fA N fc]).run Tryz.prog ((wr.alloc bx).alloc (.cells #[] 5)).drew = .ok (.slice A2 N c2) w6) ∧
            Frm Nix (wr.alloc bx) w6 ∧ (∀ i, w6.frozen? ⟨gr, i, none⟩ = false) ∧ RCr w B g D (some ⟨gr, 0, none⟩) c0 V0 ks (k + 1) ((w6.setCell ⟨gr, k * 3 + 1, none⟩ (.slice A2 N c2)).setCell ⟨gr, k * 3 + 2, none⟩ (.int .i64 N))) := fun N bx hN => by
          have hcl := cutN_le (ks.getD (cntU (D.L.take k)) 0) f.b.length f.safe
          obtain ⟨A2, c2, w6, r1, f6, -, h7, hf7, hn7⟩ := cut_tail hd (p := k) (by simp only; omega) (f := f) (by simp only; rw [hat, hf]) hown hv e1 N (by omega) (by omega) bx hbl
          have hs := hfr.size
          refine ⟨A2, c2, w6, r1, f6, (hd.nix (((Frm.refl Nix wr).alloc bx).trans f6)).rowFrozen, RCr.cut h7 (hfr.trans (hf7.mono fun b e => .inr (by rw [e]; rfl))) hby (fun b hb => Nat.le_trans hs (hn7 b hb)) hlt hf hwh (by omega) hN⟩
        have hlt2 : f.safe < f.b.length := by omega
        generalize hJJ : cntU (D.L.take k) = J at *
        have HF := Lib.hid hfr
        clear hwh hd hfr hby hat e1 e2 hown hf hl' hJJ
        generalize f.b.length = N0 at *
        generalize f.safe = S0 at *
        generalize f.name = nm at *
        obtain ⟨d, rfl⟩ : ∃ d, N0 = S0 + d := ⟨N0 - S0, by omega⟩
        have hd0 : 0 < d := by omega
        clear hlt2 hsafe
        obtain ⟨KK, hKK⟩ : ∃ KK, ks.getD J 0 = KK := ⟨_, rfl⟩
        obtain ⟨K0, hK0⟩ : ∃ K0 : Nat, (max KK 0).toNat = K0 := ⟨_, rfl⟩
        obtain ⟨M, hM⟩ : ∃ M, min K0 d = M := ⟨_, rfl⟩
        obtain ⟨A2, c2, w6, hrun, f6, z6, hfin⟩ := HT.out (S0 + M) (.cells #[.string nm, .slice fA (S0 + d) fc, .int .i64 S0] 73) (by simp only [cutN, hKK, hK0]; omega)
        have y6 := (((Frm.refl Nix wr).alloc _).trans f6).cell (p := ⟨g, 0, none⟩) hgl id |>.trans x0
        have y61 := (((Frm.refl Nix wr).alloc _).trans f6).cell (p := ⟨gr, k * 3 + 1, none⟩) hgr id |>.trans k1
        have y62 := (((Frm.refl Nix wr).alloc _).trans f6).cell (p := ⟨gr, k * 3 + 2, none⟩) hgr id |>.trans k2
        have z61 := z6 (k * 3 + 1)
        have z62 := z6 (k * 3 + 2)
        have HZ := Lib.hid hfin
        have hMd : M ≤ d := by omega
        have HRun := Lib.hid hrun
        have HM := Lib.hid hM
        have HCK : Hid ((J < n → ∃ ad, A = some ad ∧ wr.cell? (ad.add J) = some (.int .i64 KK)) ∧ (¬ J < n → KK = 0) ∧ (max KK 0).toNat = K0) := by
          refine ⟨fun hjn => ?_, fun hjn => ?_, hK0⟩
          · obtain ⟨ad, u, hA, hGa, hla, hu, hcu⟩ := (HR.out).at_ hjn
            have hjl : J < ks.length := by rw [HL.out]; exact hjn
            have hug : u = .int .i64 KK := by
              simp only [ivs, List.getElem?_map, List.getElem?_eq_getElem hjl, Option.map_some, Option.some.injEq] at hu
              rw [← hu, ← hKK, List.getD_eq_getElem?_getD, List.getElem?_eq_getElem hjl]
              rfl
            refine ⟨ad, hA, ?_⟩
            rw [← hug, ← hcu]
            exact HF.out.cell (by rw [block_of_add]; exact hla) (by rw [block_of_add]; exact fun e => HG.out _ hGa (HH.out.wf _ (H2.out _ e)))
          · rw [← hKK, List.getD_eq_getElem?_getD, List.getElem?_eq_none (by rw [HL.out]; omega)]
            rfl
        have HY := Lib.hid (And.intro y6 (And.intro y61 (And.intro y62 (And.intro z61 z62))))
        clear z6 hfin f6 HT hrun hM hKK hK0 y6 y61 y62 z61 z62
        go_upto_region 7 with fail
        go_cut [40] (fun s40 wx => s40 = .bool (decide (0 < KK)) ∧ wx = wr.alloc (.cells #[.string nm, .slice fA (S0 + d) fc, .int .i64 S0] 73))
        case first =>
          by_cases hjn : J < n
          · obtain ⟨ad, rfl, ck⟩ := HCK.out.1 hjn
            have hadl := below_size_of_cell ck
            go_wp2_with fail
            go_meet
            exact ⟨rfl, rfl⟩
          · have hz := HCK.out.2.1 hjn
            subst hz
            go_wp2_with fail
            go_meet
            exact ⟨rfl, rfl⟩
        case rest =>
          obtain ⟨rfl, rfl⟩ := hcut
          go_upto_if 40 with fail
          go_cut [7] (fun s7 wx => s7 = .int .i64 K0 ∧ wx = wr.alloc (.cells #[.string nm, .slice fA (S0 + d) fc, .int .i64 S0] 73))
          case first =>
            by_cases hpos : 0 < KK
            · have hjn : J < n := by
                by_cases hjn : J < n
                · exact hjn
                · have := HCK.out.2.1 hjn
                  omega
              obtain ⟨ad, rfl, ck⟩ := HCK.out.1 hjn
              have hk0 := HCK.out.2.2
              obtain rfl : KK = (K0 : Int) := by omega
              have hadl := below_size_of_cell ck
              clear hk0
              go_wp2_with fail
              go_meet
              exact ⟨rfl, rfl⟩
            · have hk0 := HCK.out.2.2
              obtain rfl : K0 = 0 := by omega
              clear hk0
              go_wp2_with fail
              go_meet
              exact ⟨rfl, rfl⟩
          case rest =>
            obtain ⟨rfl, rfl⟩ := hcut
            go_upto_if 52 with fail
            go_cut [7] (fun s7 wx => s7 = .int .i64 M ∧ wx = wr.alloc (.cells #[.string nm, .slice fA (S0 + d) fc, .int .i64 S0] 73))
            case first =>
              by_cases hbig : d < K0
              · have hM := HM.out
                obtain rfl : M = d := by omega
                have hb2 : (M : Int) < (K0 : Int) := by omega
                clear hM
                go_wp2_with fail
                go_meet
                exact ⟨by congr 1; omega, rfl⟩
              · have hM := HM.out
                obtain rfl : M = K0 := by omega
                have hb2 : ¬ (d : Int) < (M : Int) := by omega
                clear hM
                go_wp2_with fail
                go_meet
                exact ⟨rfl, rfl⟩
            case rest =>
              obtain ⟨rfl, rfl⟩ := hcut
              obtain ⟨y6, y61, y62, z61, z62⟩ := HY.out
              have hrun := HRun.out
              have hv0 : (0 : Int) ≤ (S0 : Int) + (M : Int) := by omega
              have hv1 : (S0 : Int) + (M : Int) ≤ (fc : Int) := by omega
              have hv2 : ((S0 : Int) + (M : Int)).toNat = S0 + M := by omega
              have hw : IntKind.i64.wrap ((S0 : Int) + (M : Int)) = (S0 : Int) + (M : Int) := by rw [IntWalk.i64_in _ (by omega)]
              clear HRun HM HY HCK
              go_upto_region 11 with fail
              go_cut [] (fun wx => wx = w6.setCell ⟨gr, k * 3 + 1, none⟩ (.slice A2 (S0 + M) c2))
              case first =>
                go_region_law (refine step_append_run hrun (by rfl) _ _ (by rfl) (by rfl) (by rfl) ?_)
                all_goals (go_wp2_with fail; go_meet; rfl)
              case rest =>
                subst hcut
                clear hrun hv0 hv1 hv2 hw
                go_wp2_with fail
                go_region
                all_goals
                  clear y6 y61 y62 z61 z62 x0 k0 k1 k2 z2
                  go_wp2
                  go_roundw
                  case rel =>
                    first
                      | exact ⟨k + 1, by omega, by go_num, by rw [HJ.out]; go_num, HZ.out.nix (Frm.refl Nix _).drew⟩
                      | exact ⟨k + 1, by omega, by go_num, by rw [HJ.out]; go_num, HZ.out⟩
                      | exact ⟨k + 1, by omega, by go_num, by rw [HJ.out]; go_num, by simpa using HZ.out.nix (Frm.refl Nix _).drew⟩
                  case measure => simp [intOf]; omega
    · obtain rfl : k = D.L.length := by omega
      obtain ⟨V, hd, h2, h3⟩ := HC.out
      rw [crashTo_all] at hd
      have cc0 := hd.blk.cell 0
      have cc2 := hd.blk.cell 2
      have cc3 := hd.blk.cell 3
      have ff2 := hd.blk.frozen 2
      have ff3 := hd.blk.frozen 3
      simp at cc0 cc2 cc3
      rw [crashL_len] at cc0
      have HAll := Lib.hid (And.intro hd (And.intro h2 h3))
      clear hd h2 h3
      go_wp2
      go_end0
      obtain ⟨hd, h2, h3⟩ := HAll.out
      have hf : Frm (fun k => k = g) wr ((wr.setCell ⟨g, 3, none⟩ (.bool false)).setCell ⟨g, 2, none⟩ (.int .i64 (-1))) := ((Frm.refl (fun k => k = g) wr).setCell (.inl rfl) _).setCell (.inl rfl) _
      have hb := (hd.blk.set_ 3 (.bool false)).set_ 2 (.int .i64 (-1))
      have hok := hd.ok
      have hd2 := hd.head (D' := D.crash ks) hf rfl (by simpa [Dsk.crash] using hb) ⟨hok.sorted, by simp [Dsk.crash], by simp [Dsk.crash], hok.q0, hok.q1, hok.used, hok.safe, hok.cnt, hok.nm⟩
      refine ⟨rfl, HH.out.go HH.out.lt H2.out H3.out hd2 (h2.next hf fun k hk => .inl (.inl hk)) (fun k hk => .inl (.inr ?_)) h3⟩
      rw [← hk]
      exact ownBlock_slice _ _ _ _ _
end Go.Proofs.YtdgpaddmheagoaaGreatDoor
