/-
  Contracts: the manifest of bytes, by the document.
-/
import Derived.Test.YtdgpaddmheagoaaGreatDoorME
namespace Go.Proofs.YtdgpaddmheagoaaGreatDoor
open Go.RowKit
set_option linter.unusedVariables false

def GetROut (w : World) (l : List UInt8) (e : Ending) (w' : World) : Prop :=
  match manGet l with
  | some m => ∃ A c, e = .returned (.tuple #[manV m A c, .bool true]) ∧ RowIn 3 w w' (.slice A m.segs.length c) m.segs.length (ivs m.segs)
  | none => e = .returned (.tuple #[.agg #[.int .i64 0, .int .i64 0, .slice none 0 0], .bool false]) ∧ Frm Nix w w'

theorem callNumR (vals : Array Value) (w : World) : (callFunc 70 vals).run Tryz.prog w = .ok (.enter 70 vals) w := by kernel_rfl
theorem rGet_ret {W : World} {g : Nat} {tmps : Array Value} {a b c ev : Value} (hb : Blk W g 25 #[a, b, c]) (h2 : tmps.getD 2 undef = .pointer (some ⟨g, 0, none⟩)) (h3 : tmps.getD 3 undef = ev) :
    (results Tryz.f40 tmps).run Tryz.prog W = .ok (.tuple #[.agg #[a, b, c], ev]) W := by
  have c0 := hb.cell 0
  have c1 := hb.cell 1
  have c2 := hb.cell 2
  simp at c0 c1 c2
  have h2' : tmps[2]?.getD undef = .pointer (some ⟨g, 0, none⟩) := by simpa using h2
  have h3' : tmps[3]?.getD undef = ev := by simpa using h3
  simp [results, Tryz.results40, h2', h3', go_sem, c0, c1, c2]

theorem rOpen_parts {A : Option Addr} {n c : Nat} {l : List UInt8} {G : Nat → Prop} {w w1 w2 : World} {e : Ending} (hl : l.length = n) (hr : Rd w G 1 A n (bvs l)) (hc : n ≤ c) (hm : c ≤ maxLen) (h : OpenROut w1 l A c e w2) :
    ∃ A' c' x ok, e = .returned (.tuple #[.slice A' x.length c', .bool ok]) ∧ Rd w G 1 A' x.length (bvs x) ∧ x.length ≤ c' ∧ c' ≤ maxLen ∧ x.length ≤ n ∧ manGet l = (if ok then manOf (rdMan x) else none) ∧ Frm Nix w1 w2 := by
  obtain ⟨rfl, hf⟩ := h
  cases hx : openB l with
  | none => exact ⟨none, 0, [], false, rfl, Rd.none_, Nat.le_refl _, Nat.zero_le _, Nat.zero_le _, by unfold manGet; rw [hx]; rfl, hf⟩
  | some x =>
    have hk : ∃ k, k ≤ n ∧ x = l.take k := by
      unfold openB at hx
      split at hx
      · injection hx with hx
        exact ⟨l.length - 4, by omega, hx.symm⟩
      · cases hx
    obtain ⟨k, hk, rfl⟩ := hk
    have hlen : (l.take k).length = k := by rw [List.length_take]; omega
    refine ⟨A, c, l.take k, true, rfl, ?_, by omega, hm, by omega, by unfold manGet; rw [hx]; rfl, hf⟩
    rw [hlen, bvs_take]
    have := hr.take hk
    rwa [Nat.mul_one] at this

set_option maxRecDepth 100000 in
set_option maxHeartbeats 4000000 in
theorem rGet_any (A : Option Addr) (n c : Nat) (l : List UInt8) (Gr : Nat → Prop) (w : World) (hl : l.length = n) (hr : Rd w Gr 1 A n (bvs l)) (hGr : ∀ k, Gr k → k < w.heap.size) (hn : n ≤ 16777216) (hc : n ≤ c) (hm : c ≤ maxLen) :
    Calls Tryz.prog 40 #[.slice A n c] w (GetROut w l) := by
  obtain ⟨w0, hw0⟩ : ∃ w0, w0 = w.alloc (.cells #[.int .i64 0, .int .i64 0, .slice none 0 0] 25) := ⟨_, rfl⟩
  have hf : Frm Nix w w0 := by rw [hw0]; exact (Frm.refl Nix w).alloc _
  have hsz : w0.heap.size = w.heap.size + 1 := by rw [hw0]; simp
  have hb0 : Blk w0 w.heap.size 25 #[.int .i64 0, .int .i64 0, .slice none 0 0] := by rw [hw0]; exact Blk.new w _ _
  have KO := Lib.hid (OpenR_any A n c l Gr w0 hl (hr.frm hf fun _ _ => id) (by omega) hc hm)
  have HF : Hid (Frm Nix w w0 ∧ w0.heap.size = w.heap.size + 1 ∧ Blk w0 w.heap.size 25 #[.int .i64 0, .int .i64 0, .slice none 0 0]) := ⟨hf, hsz, hb0⟩
  have HP : Hid (∀ {w1 w2 : World} {e : Ending}, OpenROut w1 l A c e w2 → ∃ A' c' x ok, e = .returned (.tuple #[.slice A' x.length c', .bool ok]) ∧ Rd w Gr 1 A' x.length (bvs x) ∧ x.length ≤ c' ∧ c' ≤ maxLen ∧ x.length ≤ n ∧ manGet l = (if ok then manOf (rdMan x) else none) ∧ Frm Nix w1 w2) := fun h => rOpen_parts hl hr hc hm h
  have HGR := Lib.hid hGr
  have HW := Lib.hid hw0
  clear hf hsz hb0 hl hr hc hm hGr
  go_enter Tryz.func40, Tryz.ntmps40
  go_wp2_with fail
  rw [← HW.out]
  refine KO.out.mono ?_
  intro e w1 ho
  obtain ⟨A1, c1, x, ok, rfl, hrx, hc1, hm1, hxn, hmg, hf1⟩ := HP.out ho
  have HM := Lib.hid hmg
  have HXL : Hid (∃ y, x = y ∧ y.length ≤ 16777216) := ⟨x, rfl, by omega⟩
  have HF1 : Hid (Frm Nix w w1) := HF.out.1.trans hf1
  have HB1 := Lib.hid (HF.out.2.2.frm hf1 id)
  have hblk := Blk.new w1 tRdrR #[.slice A1 x.length c1, .bool false]
  have hfa : Frm Nix w1 (w1.alloc (.cells #[.slice A1 x.length c1, .bool false] tRdrR)) := (Frm.refl Nix w1).alloc _
  obtain ⟨w2, hw2⟩ : ∃ w2, w2 = w1.alloc (.cells #[.slice A1 x.length c1, .bool false] tRdrR) := ⟨_, rfl⟩
  obtain ⟨g, hg⟩ : ∃ g, g = w1.heap.size := ⟨_, rfl⟩
  rw [← hw2, ← hg] at hblk
  rw [← hw2] at hfa
  have H2 : Hid (RdrAt w2 tRdrR g Gr x false) := ⟨⟨A1, c1, hblk, (hrx.frm (HF1.out.trans hfa) fun _ _ => id), hc1, hm1⟩, fun hk => by have h1 := HGR.out g hk; have h2 := HF1.out.size; omega⟩
  have HB2 := Lib.hid (HB1.out.frm hfa id)
  have HF2 : Hid (Frm Nix w w2) := HF1.out.trans hfa
  have HG2 : Hid (w.heap.size < g ∧ (∀ k, Gr k → k < w.heap.size) ∧ g < w2.heap.size) := ⟨by have := HB1.out.lt; omega, HGR.out, hblk.lt⟩
  have HW2 : Hid (w1.alloc (.cells #[.slice A1 x.length c1, .bool false] 99) = w2 ∧ w1.heap.size = g) := ⟨hw2.symm, hg.symm⟩
  clear ho hrx hmg hf1 hblk hfa hw2 hg
  generalize hxn' : x.length = xn at *
  clear hxn'
  go_wp2_with fail
  rw [HW2.out.1, HW2.out.2]
  refine (NumR_any H2.out).mono ?_
  rintro e w3 ⟨rfl, hrd3, hf3⟩
  have H3 := Lib.hid hrd3
  have HF3 := Lib.hid hf3
  clear hrd3 hf3
  go_wp2_with fail
  refine (NumR_any H3.out).mono ?_
  rintro e w4 ⟨rfl, hrd4, hf4⟩
  have H4 := Lib.hid hrd4
  have HF4 : Hid (Frm (· = g) w2 w4) := HF3.out.trans hf4
  clear hrd4 hf4 H3 HF3
  go_wp2_with fail
  obtain ⟨gen, hgen⟩ : ∃ v, v = (rdNum x false).1 := ⟨_, rfl⟩
  obtain ⟨snap, hsnap⟩ : ∃ v, v = (rdNum (rdNum x false).2.1 (rdNum x false).2.2).1 := ⟨_, rfl⟩
  rw [← hgen, ← hsnap]
  obtain ⟨l2, b2, hlb⟩ : ∃ l2 b2, (rdNum (rdNum x false).2.1 (rdNum x false).2.2).2 = (l2, b2) := ⟨_, _, rfl⟩
  rw [hlb] at H4
  simp only at H4
  have hwm : Frm Nix w4 (w4.alloc (.cells #[.int .i64 gen, .int .i64 snap, .slice none 0 0] 25)) := (Frm.refl Nix w4).alloc _
  refine (NumR_any (H4.out.nix hwm)).mono ?_
  rintro e w5 ⟨rfl, hrd5, hf5⟩
  obtain ⟨j0, l3, b3, hj⟩ : ∃ j l3 b3, rdNum l2 b2 = (j, l3, b3) := ⟨_, _, _, rfl⟩
  rw [hj] at hrd5 ⊢
  simp only at hrd5 ⊢
  have HRD : Hid (rdMan x = ⟨⟨gen, snap, (rdList j0.toNat l3 b3).1⟩, (rdList j0.toNat l3 b3).2.1, (rdList j0.toNat l3 b3).2.2⟩ ∧ mayN gen = true ∧ mayN snap = true ∧ l3.length ≤ 16777216 ∧ mayN j0 = true) := by
    refine ⟨?_, by rw [hgen]; exact rdNum_may _ _, by rw [hsnap]; exact rdNum_may _ _, ?_, ?_⟩
    · unfold rdMan
      simp only [hlb, hj, ← hgen, ← hsnap]
    · have a := (rdNum_len x false).1
      have b := (rdNum_len (rdNum x false).2.1 (rdNum x false).2.2).1
      have c := (rdNum_len l2 b2).1
      rw [hlb] at b
      rw [hj] at c
      simp only at b c
      obtain ⟨y, rfl, hy⟩ := HXL.out
      omega
    · have := rdNum_may l2 b2
      rwa [hj] at this
  obtain ⟨gm, hgm⟩ : ∃ gm, gm = w4.heap.size := ⟨_, rfl⟩
  have HG : Hid (GetAt w w5 tRdrR Gr w5.heap.size g gm w.heap.size gen snap none 0 [] l3 b3) := by
    have hs24 : w2.heap.size ≤ w4.heap.size := HF4.out.size
    have hs5 := hf5.size
    simp at hs5
    have hgw := HG2.out
    have hff : Frm Nix w w5 := ((HF2.out.next HF4.out fun k hk => .inr (by subst hk; omega)).trans hwm).next hf5 fun k hk => .inr (by subst hk; omega)
    exact
    { rd := hrd5
      blk := by
        rw [hgm]
        exact (Blk.new w4 _ _).frm hf5 (by omega)
      res := ((HB2.out.frm HF4.out (by omega)).frm hwm id).frm hf5 (by omega)
      own := World.ownsRow_nil _ _ _ _
      frm := hff
      gB := ⟨by omega, by omega⟩
      gmB := ⟨by omega, by omega⟩
      grB := ⟨Nat.le_refl _, by omega⟩
      GB := fun k hk => by have := hgw.2.1 k hk; omega
      BW := ⟨hff.size, Nat.le_refl _⟩
      ne1 := by omega
      ne2 := by omega
      ne3 := by omega }
  have hgme : w4.heap.size = gm := hgm.symm
  clear hrd5 hf5 hwm hlb hj hgen hsnap H4 HF4 H2 HB2 HF2 HB1 HF1 hgm
  simp only [hgme]
  go_wp2
  have HT0 := Lib.hid (SegsAt.start 16777216 j0.toNat l3 b3 HRD.out.2.2.2.1)
  obtain ⟨tot, htot⟩ : ∃ tot, tot = rdList j0.toNat l3 b3 := ⟨_, rfl⟩
  rw [← htot] at HRD HT0
  obtain ⟨hj1, hj2⟩ := may_bounds HRD.out.2.2.2.2
  generalize hB : w5.heap.size = B at HG
  clear htot hB
  go_loopw [9] (fun jv wr => ∃ (j : Nat) (Av : Option Addr) (cv : Nat) (acc : List Int) (lr : List UInt8) (bad : Bool), jv = .int .i64 j ∧ (j : Int) ≤ 9007199254740991 ∧ GetAt w wr tRdrR Gr B g gm w.heap.size gen snap Av cv acc lr bad ∧ SegsAt tot 16777216 (j0 - (j : Int)).toNat acc lr bad) (fun jv _ => (j0 - intOf jv).toNat)
  case atStart => exact ⟨0, none, 0, [], l3, b3, rfl, by omega, HG.out, by simpa using HT0.out⟩
  case round =>
    obtain ⟨j, Av, cv, acc, lr, bad, rfl, hj9, hga, hsa⟩ := hrel
    have HGA := Lib.hid hga
    have HSA := Lib.hid hsa
    have hcb : wr.cell? ⟨g, 1, none⟩ = some (.bool bad) := by
      obtain ⟨⟨_, _, hb, -⟩, -⟩ := hga.rd
      simpa using hb.cell 1
    clear hga hsa HG HT0
    by_cases hj0 : (j : Int) < j0
    · cases bad
      · have hal : acc.length ≤ 16777216 := by have := HSA.out.2.1 rfl; omega
        have KN : Hid (∀ W, GetAt w W tRdrR Gr B g gm w.heap.size gen snap Av cv acc lr false → Calls Tryz.prog 70 #[.pointer (some ⟨g, 0, none⟩)] W fun e w1 => e = .returned (.int .i64 (rdNum lr false).1) ∧
            ∃ A' c' w2, (∀ ty, (Builtin.append_ #[23, 23] ty #[.slice Av acc.length cv, .slice (some ⟨w1.heap.size, 0, none⟩) 1 1]).run Tryz.prog (w1.alloc (.cells #[.int .i64 (rdNum lr false).1] 3)) = .ok (.slice A' (acc.length + 1) c') w2) ∧
            w1.cell? ⟨gm, 2, none⟩ = some (.slice Av acc.length cv) ∧ gm < w1.heap.size ∧ w2.cell? ⟨gm, 2, none⟩ = some (.slice Av acc.length cv) ∧ w2.frozen? ⟨gm, 2, none⟩ = false ∧ Hid (GetAt w (w2.setCell ⟨gm, 2, none⟩ (.slice A' (acc.length + 1) c')) tRdrR Gr B g gm w.heap.size gen snap A' c' (acc ++ [(rdNum lr false).1]) (rdNum lr false).2.1 (rdNum lr false).2.2)) :=
          fun W hW => (NumR_any hW.rd).mono fun e w1 h => by
            obtain ⟨he, h1, hf⟩ := h
            have hg1 := hW.num h1 hf
            obtain ⟨A', c', w2, hrun, k1, k2, k3⟩ := hg1.push (rdNum lr false).1 hal
            exact ⟨he, A', c', w2, hrun, by simpa using hg1.blk.cell 2, hg1.blk.lt, k1, k2, k3⟩
        have HST : Hid (SegsAt tot 16777216 (j0 - ((j + 1 : Nat) : Int)).toNat (acc ++ [(rdNum lr false).1]) (rdNum lr false).2.1 (rdNum lr false).2.2) := by
          have := HSA.out
          rw [show (j0 - (j : Int)).toNat = (j0 - ((j + 1 : Nat) : Int)).toNat + 1 by omega] at this
          exact this.step
        have hcell : wr.cell? ⟨gm, 2, none⟩ = some (.slice Av acc.length cv) := by simpa using HGA.out.blk.cell 2
        have hcell2 : wr.drew.cell? ⟨gm, 2, none⟩ = some (.slice Av acc.length cv) := hcell
        generalize (rdNum lr false).1 = xv at *
        generalize (rdNum lr false).2.1 = lv at *
        generalize (rdNum lr false).2.2 = bv' at *
        have HAL : Hid ((acc ++ [xv]).length = acc.length + 1) := by simp [Hid]
        generalize acc ++ [xv] = acc' at *
        generalize acc.length = an at *
        go_wp2
        go_region_law (first
            | (refine step_append_run hrun (by rfl) _ _ (by rfl) (by rfl) (by rfl) ?_)
            | (refine step_go (by rfl) _ _ (by rfl) (by rfl) (callNumR _) (KN.out _ (HGA.out.drewN 1)) ?_; rintro e w1 ⟨rfl, A', c', w2, hrun, q1, q2, q3, q4, HG2⟩; have q5 : (w1.alloc (.cells #[.int .i64 xv] 3)).cell? ⟨gm, 2, none⟩ = some (.slice Av an cv) := ((((Frm.refl Nix w1).alloc (.cells #[.int .i64 xv] 3)).cell (p := ⟨gm, 2, none⟩) q2 id).trans q1); refine ⟨_, rfl, ?_⟩)
            | fail)
        all_goals
          go_wp2
          go_roundw
          case rel => exact ⟨j + 1, A', c', acc', lv, bv', by go_num, by omega, HG2.out, HST.out⟩
          case measure => simp [intOf]; omega
      · -- it is bad
        have HE : Hid (manGet l = none) := by
          unfold Hid
          rw [HM.out]
          cases ok
          · rfl
          · rw [if_pos rfl, HRD.out.1, HSA.out.over (.inr rfl)]
            simp [manOf]
        have hr0 := HGA.out.res.cell 0
        have hr1 := HGA.out.res.cell 1
        have hr2 := HGA.out.res.cell 2
        simp at hr0 hr1 hr2
        have hz0 := HGA.out.res.frozen 0
        have hz1 := HGA.out.res.frozen 1
        have hz2 := HGA.out.res.frozen 2
        have hrl := HGA.out.res.lt
        clear HM
        cases ok
        all_goals
          go_wp2
          have hb2 := ((HGA.out.res.set_ 0 (.int .i64 0)).set_ 1 (.int .i64 0)).set_ 2 (.slice none 0 0)
          refine bodyPost_ret (rGet_ret (a := .int .i64 0) (b := .int .i64 0) (c := .slice none 0 0) (ev := .bool false) hb2 rfl rfl) rfl ?_
          unfold GetROut
          rw [HE.out]
          exact ⟨rfl, ((HGA.out.frm.setCell (.inr (Nat.le_refl _)) _).setCell (.inr (Nat.le_refl _)) _).setCell (.inr (Nat.le_refl _)) _⟩
    · by_cases hok1 : ok = false
      · subst hok1
        have HE : Hid (manGet l = none) := HM.out
        have hr0 := HGA.out.res.cell 0
        have hr1 := HGA.out.res.cell 1
        have hr2 := HGA.out.res.cell 2
        simp at hr0 hr1 hr2
        have hz0 := HGA.out.res.frozen 0
        have hz1 := HGA.out.res.frozen 1
        have hz2 := HGA.out.res.frozen 2
        have hrl := HGA.out.res.lt
        clear HM
        go_wp2
        have hb2 := ((HGA.out.res.set_ 0 (.int .i64 0)).set_ 1 (.int .i64 0)).set_ 2 (.slice none 0 0)
        refine bodyPost_ret (rGet_ret (a := .int .i64 0) (b := .int .i64 0) (c := .slice none 0 0) (ev := .bool false) hb2 rfl rfl) rfl ?_
        unfold GetROut
        rw [HE.out]
        exact ⟨rfl, ((HGA.out.frm.setCell (.inr (Nat.le_refl _)) _).setCell (.inr (Nat.le_refl _)) _).setCell (.inr (Nat.le_refl _)) _⟩
      · obtain rfl : ok = true := by cases ok; exact absurd rfl hok1; rfl
        clear hok1
        cases bad
        · have KL := Lib.hid (LeftR_any HGA.out.rd)
          by_cases hl0 : lr = []
          · have HRM : Hid (rdMan x = ⟨⟨gen, snap, acc⟩, [], false⟩) := by
              unfold Hid
              rw [HRD.out.1, HSA.out.over (.inl (by omega)), hl0]
            have hmi := HGA.out.manIn HRD.out.2.1 HRD.out.2.2.1 HSA.out.2.2
            have KC := Lib.hid (rCheck_any _ _ _ _ _ hmi)
            unfold manV at KC
            have hm0 := HGA.out.blk.cell 0
            have hm1 := HGA.out.blk.cell 1
            have hm2 := HGA.out.blk.cell 2
            simp at hm0 hm1 hm2
            have hll : lr.length = 0 := by rw [hl0]; rfl
            simp only [hll, Bool.false_eq_true, if_false] at KL
            clear hmi hl0 hll
            cases hok : manOk ⟨gen, snap, acc⟩
            · have HE : Hid (manGet l = none) := by
                unfold Hid
                rw [HM.out, if_pos rfl, HRM.out]
                simp [manOf, hok]
              simp only [hok] at KC
              clear hok
              go_wp2_with (first
                | (go_at_call 71; refine KL.out.mono ?_; rintro e w' ⟨rfl, rfl⟩)
                | (go_at_call 10; refine KC.out.mono ?_; rintro e w9 ⟨rfl, hf9⟩; have HF9 := Lib.hid hf9; have hrr := HGA.out.res.frm hf9 id; have hr0 := hrr.cell 0; have hr1 := hrr.cell 1; have hr2 := hrr.cell 2; simp at hr0 hr1 hr2; have hz0 := hrr.frozen 0; have hz1 := hrr.frozen 1; have hz2 := hrr.frozen 2; have hrl := hrr.lt; have HRR := Lib.hid hrr; clear hf9 hrr))
              have hb2 := ((HRR.out.set_ 0 (.int .i64 0)).set_ 1 (.int .i64 0)).set_ 2 (.slice none 0 0)
              refine bodyPost_ret (rGet_ret (a := .int .i64 0) (b := .int .i64 0) (c := .slice none 0 0) (ev := .bool false) hb2 rfl rfl) rfl ?_
              unfold GetROut
              rw [HE.out]
              exact ⟨rfl, (((HGA.out.frm.trans HF9.out).setCell (.inr (Nat.le_refl _)) _).setCell (.inr (Nat.le_refl _)) _).setCell (.inr (Nat.le_refl _)) _⟩
            · have HE : Hid (manGet l = some ⟨gen, snap, acc⟩) := by
                unfold Hid
                rw [HM.out, if_pos rfl, HRM.out]
                simp [manOf, hok]
              simp only [hok] at KC
              have HROW := Lib.hid HGA.out.row
              clear hok
              generalize hacc : acc.length = an at *
              have HACC := Lib.hid hacc
              clear hacc
              go_wp2_with (first
                | (go_at_call 71; refine KL.out.mono ?_; rintro e w' ⟨rfl, rfl⟩)
                | (go_at_call 10; refine KC.out.mono ?_; rintro e w9 ⟨rfl, hf9⟩; have HF9 := Lib.hid hf9; have hrr := HGA.out.res.frm hf9 id; have hr0 := hrr.cell 0; have hr1 := hrr.cell 1; have hr2 := hrr.cell 2; simp at hr0 hr1 hr2; have hz0 := hrr.frozen 0; have hz1 := hrr.frozen 1; have hz2 := hrr.frozen 2; have hrl := hrr.lt; have HRR := Lib.hid hrr; have hmm := HGA.out.blk.frm hf9 id; have hm0 := hmm.cell 0; have hm1 := hmm.cell 1; have hm2 := hmm.cell 2; rw [HACC.out] at hm2; simp at hm0 hm1 hm2; clear hf9 hrr hmm))
              have hb2 := ((HRR.out.set_ 0 (.int .i64 gen)).set_ 1 (.int .i64 snap)).set_ 2 (.slice Av an cv)
              refine bodyPost_ret (rGet_ret (a := .int .i64 gen) (b := .int .i64 snap) (c := .slice Av an cv) (ev := .bool true) hb2 rfl rfl) rfl ?_
              unfold GetROut
              rw [HE.out]
              simp only
              refine ⟨Av, cv, by unfold manV; rw [HACC.out], ?_⟩
              rw [HACC.out]
              have hfs : Frm (· = w.heap.size) w9 (((w9.setCell ⟨w.heap.size, 0, none⟩ (.int .i64 gen)).setCell ⟨w.heap.size, 1, none⟩ (.int .i64 snap)).setCell ⟨w.heap.size, 2, none⟩ (.slice Av an cv)) :=
                (((Frm.refl (fun k => k = w.heap.size) w9).setCell (.inl rfl) _).setCell (.inl rfl) _).setCell (.inl rfl) _
              refine (HROW.out.more HF9.out).far hfs (fun k hk => by omega) fun k hk e => ?_
              have h1 := HGA.out.own.lt k (by rw [HACC.out]; exact hk)
              have := HGA.out.grB.2
              omega
          · have hlp : 0 < lr.length := List.length_pos_iff.2 hl0
            have HE : Hid (manGet l = none) := by
              unfold Hid
              rw [HM.out, if_pos rfl, HRD.out.1, HSA.out.over (.inl (by omega))]
              simp [manOf]
              exact fun h => absurd h hl0
            have hr0 := HGA.out.res.cell 0
            have hr1 := HGA.out.res.cell 1
            have hr2 := HGA.out.res.cell 2
            simp at hr0 hr1 hr2
            have hz0 := HGA.out.res.frozen 0
            have hz1 := HGA.out.res.frozen 1
            have hz2 := HGA.out.res.frozen 2
            have hrl := HGA.out.res.lt
            clear hl0
            simp only [Bool.false_eq_true, if_false] at KL
            generalize lr.length = ln at *
            go_wp2_with (go_at_call 71; refine KL.out.mono ?_; rintro e w' ⟨rfl, rfl⟩)
            have hb2 := ((HGA.out.res.set_ 0 (.int .i64 0)).set_ 1 (.int .i64 0)).set_ 2 (.slice none 0 0)
            refine bodyPost_ret (rGet_ret (a := .int .i64 0) (b := .int .i64 0) (c := .slice none 0 0) (ev := .bool false) hb2 rfl rfl) rfl ?_
            unfold GetROut
            rw [HE.out]
            exact ⟨rfl, ((HGA.out.frm.setCell (.inr (Nat.le_refl _)) _).setCell (.inr (Nat.le_refl _)) _).setCell (.inr (Nat.le_refl _)) _⟩
        · have HE : Hid (manGet l = none) := by
            unfold Hid
            rw [HM.out, if_pos rfl, HRD.out.1, HSA.out.over (.inr rfl)]
            simp [manOf]
          have hr0 := HGA.out.res.cell 0
          have hr1 := HGA.out.res.cell 1
          have hr2 := HGA.out.res.cell 2
          simp at hr0 hr1 hr2
          have hz0 := HGA.out.res.frozen 0
          have hz1 := HGA.out.res.frozen 1
          have hz2 := HGA.out.res.frozen 2
          have hrl := HGA.out.res.lt
          go_wp2
          have hb2 := ((HGA.out.res.set_ 0 (.int .i64 0)).set_ 1 (.int .i64 0)).set_ 2 (.slice none 0 0)
          refine bodyPost_ret (rGet_ret (a := .int .i64 0) (b := .int .i64 0) (c := .slice none 0 0) (ev := .bool false) hb2 rfl rfl) rfl ?_
          unfold GetROut
          rw [HE.out]
          exact ⟨rfl, ((HGA.out.frm.setCell (.inr (Nat.le_refl _)) _).setCell (.inr (Nat.le_refl _)) _).setCell (.inr (Nat.le_refl _)) _⟩
end Go.Proofs.YtdgpaddmheagoaaGreatDoor
