/-
  Contracts of the disk package: Crash.
-/
import Derived.Test.YtdgpaddmheagoaaGreatDoorDiskJ
namespace Go.Proofs.YtdgpaddmheagoaaGreatDoor
open Go.RowKit

def ivs (l : List Int) : List Value := l.map (Value.int .i64)

set_option maxRecDepth 100000 in
theorem Crash_nil (A : Option Addr) (n c : Nat) (w : World) : Calls Tryz.prog 33 #[.pointer none, .slice A n c] w fun e w' => e = .returned (.tuple #[]) ∧ w = w' := by
  go_enter Tryz.func33, Tryz.ntmps33
  go_wp2_with (go_at_call 41; refine (Names_nil _).mono ?_; rintro e w' ⟨rfl, rfl⟩)
  refine wp_loop_rounds 1 ?_
  rw [rounds_succ]
  go_wp2
  go_end0
  exact ⟨rfl, rfl⟩

section
variable {w w' : World} {B g m clock : Nat} {D : Dsk} {R : List Rep}
/-- The state of a crash behind i files. -/
def CrashAt (w0 : World) (B g m : Nat) (D : Dsk) (R0 : List Rep) (ks : List Int) (clock : Nat) (v : Value) (i : Nat) (w : World) : Prop :=
  ∃ R, DiskAt w B g m { D with L := crashTo D.L ks i } R clock ∧ (∀ k, Foot g m R k → Foot g m R0 k ∨ w0.heap.size ≤ k) ∧ Frm (Foot g m R0) w0 w ∧ w.ownsRow w0.heap.size 9 1 v D.L.length (D.L.map fun f => .string f.name) ∧ (∀ k, v.ownBlock = some k → ¬ Foot g m R k)

theorem sorted_of_names : ∀ {L L' : List Fil}, L.map (·.name) = L'.map (·.name) → SortedF L → SortedF L' := by
  intro L L' h hs
  have h1 : (L.map (·.name)).Pairwise ltN := List.pairwise_map.2 hs
  rw [h] at h1
  exact List.pairwise_map.1 h1
theorem crashTo_names (L : List Fil) (ks : List Int) (i : Nat) : (crashTo L ks i).map (·.name) = L.map (·.name) := by
  unfold crashTo
  rw [List.map_append, crashL_names, ← List.map_append, List.take_append_drop]

theorem CrashAt.start {R0 : List Rep} {ks : List Int} {v : Value} (h : DiskAt w B g m D R0 clock) (hf : Frm Nix w w') (hown : w'.ownsRow w.heap.size 9 1 v D.L.length (D.L.map fun f => .string f.name)) : CrashAt w B g m D R0 ks clock v 0 w' := by
  have h' := h.frm hf fun _ _ => id
  refine ⟨R0, by rw [crashTo_zero]; exact h', fun _ hk => .inl hk, hf.nix, hown, fun k hk hfo => ?_⟩
  have := hown.lt k hk
  have h2 := (Dk.lo ⟨m, R0, clock, h, rfl⟩ k hfo).2
  omega

/-- a file that is whole. -/
theorem CrashAt.skip {w0 : World} {R0 : List Rep} {ks : List Int} {v : Value} {i : Nat} (h : CrashAt w0 B g m D R0 ks clock v i w) (hi : i < D.L.length) (hw : D.L[i].safe = D.L[i].b.length) {n : Nat} : CrashAt w0 B g m D R0 ks clock v (i + 1) (w.drewN n) := by
  obtain ⟨R, h1, h2, h3, h4, h5⟩ := h
  refine ⟨R, ?_, h2, h3.drewN n, h4, h5⟩
  rw [crashTo_same D.L ks i hi hw]
  exact h1.frm ((Frm.refl Nix w).drewN n) fun _ _ => id

/-- a file that is cut. -/
theorem CrashAt.cut {w0 : World} {R0 R : List Rep} {ks : List Int} {v : Value} {i : Nat} {r : Rep} (hd : DiskAt w B g m { D with L := crashTo D.L ks i } R clock) (h2 : ∀ k, Foot g m R k → Foot g m R0 k ∨ w0.heap.size ≤ k) (h3 : Frm (Foot g m R0) w0 w)
    (h4 : w.ownsRow w0.heap.size 9 1 v D.L.length (D.L.map fun f => .string f.name)) (h5 : ∀ k, v.ownBlock = some k → ¬ Foot g m R k) (hr : repOf r.fil.name R = some r) (hi : i < D.L.length) (hw : ¬ D.L[i].safe = D.L[i].b.length) (hri : r.fil = D.L[i])
    (hf : Frm (fun k => k = r.fb) w w')
    (hb : Blk w' r.fb 86 #[.slice r.A (r.fil.safe + cutN (ks.getD (cntU (D.L.take i)) 0) r.fil.b.length r.fil.safe) r.cap, .int .i64 ↑(r.fil.safe + cutN (ks.getD (cntU (D.L.take i)) 0) r.fil.b.length r.fil.safe)]) :
    CrashAt w0 B g m D R0 ks clock v (i + 1) w' := by
  obtain ⟨hr1, -⟩ := repOf_some hr
  have hfl := hd.files r hr1
  have hcl := cutN_le (ks.getD (cntU (D.L.take i)) 0) r.fil.b.length r.fil.safe
  have hsafe := hd.ok.safe _ (hd.filMem hr1)
  generalize hN : r.fil.safe + cutN (ks.getD (cntU (D.L.take i)) 0) r.fil.b.length r.fil.safe = N at hb
  have hNle : N ≤ r.fil.b.length := by omega
  have hcut : crash1 D.L[i] ks (cntU (D.L.take i)) = { r.fil with b := r.fil.b.take N, safe := N } := by
    rw [crash1, if_neg hw, ← hri]
    have e : r.fil.safe + min (max (ks.getD (cntU (D.L.take i)) 0) 0).toNat (r.fil.b.length - r.fil.safe) = N := hN
    simp only [Fil.cut, e, List.length_take, Nat.min_eq_left hNle]
  have hlen : (r.fil.b.take N).length = N := by rw [List.length_take, Nat.min_eq_left hNle]
  have hfile : FileAt w' B { r with fil := { r.fil with b := r.fil.b.take N, safe := N } } := by
    refine ⟨by simpa [Rep.v, hlen, Nat.min_eq_left hNle] using hb, hfl.fB, ?_⟩
    have h1 := own_frm hfl.own hf (fun k hk e => hd.row_ne_fb hr1 hr1 hk e)
    simp only [Rep.v] at h1 ⊢
    have h2 := own_cut h1 hNle
    rw [hlen]
    have e2 : bvs (r.fil.b.take N) = (bvs r.fil.b).take (N * 1) := by rw [Nat.mul_one]; simp [bvs, List.map_take]
    rw [e2]
    exact h2
  have hob : ∀ k, (Rep.v { r with fil := { r.fil with b := r.fil.b.take N, safe := N } }).ownBlock = some k → r.v.ownBlock = some k := fun k hk => by
    have : (Rep.v { r with fil := { r.fil with b := r.fil.b.take N, safe := N } }).ownBlock = r.v.ownBlock := by
      unfold Rep.v
      cases r.A <;> rfl
    rw [← this]
    exact hk
  have hused : usedL (crashTo D.L ks i) + N ≤ usedL (crashTo D.L ks i) + r.fil.b.length := by omega
  have hu := hd.ok.used
  have hfind := hd.find r.fil.name
  rw [hr] at hfind
  simp only [Option.map_some] at hfind
  obtain ⟨hd', hk'⟩ := hd.replace (D' := { D with L := crashTo D.L ks (i + 1) }) (r' := { r with fil := { r.fil with b := r.fil.b.take N, safe := N } }) hr rfl rfl rfl hf (fun k hk => .inr (.inl hk)) hfile (fun k hk => .inl (hob k hk))
    (by rw [← hcut]; exact crashTo_put D.L ks i hi hd.ok.sorted) (hd.blk.frm hf (Ne.symm (hd.fb_ne_g hr1)))
    (by
      have := Dsk.Ok.turn (f := { r.fil with b := r.fil.b.take N, safe := N }) (f0 := r.fil) hd.ok hfind (by simp [hlen]) (by simp only [hlen]; simp only at hu; omega)
      rw [crashTo_put D.L ks i hi hd.ok.sorted, hcut]
      exact this)
  have hfm : ∀ k, k = r.fb → Foot g m R k := fun k hk => .inr (.inr (.inl ⟨r, hr1, hk⟩))
  refine ⟨_, hd', fun k hk => ?_, h3.next hf fun k hk => h2 k (hfm k hk), own_frm h4 hf (fun k hk e => h5 k hk (hfm k e)), fun k hk hfo => ?_⟩
  · rcases hk' k hk with h | h
    · exact h2 k h
    · exact .inr (Nat.le_trans h3.size h)
  · rcases hk' k hfo with h | h
    · exact h5 k hk h
    · have := (h4.lt k hk).2
      omega
end

set_option maxRecDepth 100000 in
set_option maxHeartbeats 2000000 in
theorem Crash_any {B g : Nat} {F : Nat → Prop} {D : Dsk} {w : World} (h : Dk w B g F D) (A : Option Addr) (n c : Nat) (ks : List Int) (hks : ks.length = n) (hn : n ≤ 9223372036854775807) (G : Nat → Prop) (hrd : Rd w G 1 A n (ivs ks)) (hG : ∀ k, G k → ¬ F k) :
    Calls Tryz.prog 33 #[.pointer (some ⟨g, 0, none⟩), .slice A n c] w fun e w' => e = .returned (.tuple #[]) ∧ ∃ F', Dk w' B g F' (D.crash ks) ∧ Frm F w w' ∧ ∀ k, F' k → F k ∨ w.heap.size ≤ k := by
  have HN := Lib.hid (Names_any h)
  obtain ⟨m, R0, clock, h, rfl⟩ := h
  have HD := Lib.hid h
  have HR := Lib.hid hrd
  have HG := Lib.hid hG
  have HL := Lib.hid hks
  have hcnt := h.ok.cnt
  clear h hrd hG hks
  go_enter Tryz.func33, Tryz.ntmps33
  go_wp2_with (go_at_call 41; refine HN.out.mono ?_; rintro e w1 ⟨v, rfl, hown1, hf1⟩; obtain ⟨Av, cv, rfl, -⟩ := own_shape hown1)
  have HS := Lib.hid (CrashAt.start (ks := ks) HD.out hf1 hown1)
  clear hown1 hf1
  go_loopw [4, 12] (fun j i wr => ∃ k : Nat, k ≤ D.L.length ∧ i = .int .i64 k ∧ j = .int .i64 (cntU (D.L.take k)) ∧ CrashAt w B g m D R0 ks clock (.slice Av D.L.length cv) k wr) (fun _ i _ => D.L.length - (intOf i).toNat)
  case atStart => exact ⟨0, Nat.zero_le _, rfl, rfl, HS.out⟩
  case round =>
    obtain ⟨k, hk, rfl, rfl, hcr⟩ := hrel
    have HC := Lib.hid hcr
    clear hcr
    have hjk := cntU_le D.L k
    by_cases hlt : k < D.L.length
    · obtain ⟨R, hd, h2, h3, h4, h5⟩ := HC.out
      obtain ⟨gn, rfl⟩ : ∃ gn, Av = some ⟨gn, 0, none⟩ := by
        rcases h4.2 with ⟨hv, h0⟩ | ⟨gn, cap, cur, hv, -⟩
        · omega
        · injection hv with hv1
          exact ⟨gn, hv1⟩
      have cn := h4.cellAt k (by omega)
      simp only [List.getElem?_map, List.getElem?_eq_getElem hlt, Option.map_some] at cn
      have c0 := hd.blk.cell 0
      simp at c0
      have hmem : D.L[k] ∈ crashTo D.L ks k := by rw [crashTo_split D.L ks k hlt]; exact List.mem_append.2 (.inr List.mem_cons_self)
      have hfm := findF_mem hd.ok.sorted hmem
      have hfr := hd.find D.L[k].name
      simp only at hfr
      rw [hfm] at hfr
      obtain ⟨r, hr, hri⟩ : ∃ r, repOf D.L[k].name R = some r ∧ D.L[k] = r.fil := by
        cases hx : repOf D.L[k].name R with
        | none => rw [hx] at hfr; cases hfr
        | some r => rw [hx] at hfr; exact ⟨r, rfl, by simpa using hfr⟩
      obtain ⟨hr1, hr2⟩ := repOf_some hr
      have hl := hd.lookup D.L[k].name
      rw [hr] at hl
      simp only at hl
      have hfl := hd.files r hr1
      have cf0 := hfl.blk.cell 0
      have cf1 := hfl.blk.cell 1
      simp only [Rep.v] at cf0
      simp at cf0 cf1
      have hlen := hd.lenLe hr1
      have hsafe := hd.ok.safe _ (hd.filMem hr1)
      have HRep : Hid (repOf D.L[k].name R = some r ∧ D.L[k] = r.fil) := ⟨hr, hri⟩
      generalize hnm : D.L[k].name = nm at cn hl
      have HNM := Lib.hid hnm
      have HAll := Lib.hid (And.intro hd (And.intro h2 (And.intro h3 (And.intro h4 h5))))
      clear hnm hr hri hfr hfm hmem hd h2 h3 h4 h5 hfl hr2
      by_cases hwh : r.fil.safe = r.fil.b.length
      · have hb : ((r.fil.safe : Int) == (r.fil.b.length : Int)) = true := by rw [hwh]; simp
        have HW := Lib.hid hwh
        clear hwh
        have HJ : Hid (cntU (D.L.take (k + 1)) = cntU (D.L.take k)) := by
          unfold Hid
          rw [cntU_succ D.L k hlt, if_pos (by rw [HRep.out.2]; exact HW.out), Nat.add_zero]
        go_wp2
        go_quiet (fail)
        go_wp2
        go_roundw
        case rel => exact ⟨k + 1, by omega, by go_num, by rw [HJ.out], HC.out.skip hlt (by rw [HRep.out.2]; exact HW.out)⟩
        case measure => simp [intOf]; omega
      · have hb : ((r.fil.safe : Int) == (r.fil.b.length : Int)) = false := by
          rw [beq_eq_false_iff_ne]
          omega
        have HW := Lib.hid hwh
        clear hwh
        have HJ : Hid (cntU (D.L.take (k + 1)) = cntU (D.L.take k) + 1) := by
          unfold Hid
          rw [cntU_succ D.L k hlt, if_neg (by rw [HRep.out.2]; exact HW.out)]
        obtain ⟨hcle, HCut⟩ : r.fil.b.length ≤ r.cap ∧ Hid (∀ (keep : Int) (W : World), Frm Nix wr W → Calls Tryz.prog 67 #[.pointer (some ⟨r.fb, 0, none⟩), .int .i64 keep] W fun e w' => e = .returned (.tuple #[]) ∧ Blk w' r.fb 86 #[.slice r.A (r.fil.safe + cutN keep r.fil.b.length r.fil.safe) r.cap, .int .i64 ↑(r.fil.safe + cutN keep r.fil.b.length r.fil.safe)] ∧ Frm (fun k => k = r.fb) W w') := by
          have hfl := HAll.out.1.files r hr1
          obtain ⟨A1, c1, e1, -, hc, -⟩ := own_shape hfl.own
          unfold Rep.v at e1
          injection e1 with _ _ e3
          have hc' : r.fil.b.length ≤ r.cap := by omega
          refine ⟨hc', fun keep W hf => cut_any r.fb r.A r.fil.b.length r.cap r.fil.safe keep W ?_ hsafe hlen hc'⟩
          exact hfl.blk.frm hf id
        generalize hJJ : cntU (D.L.take k) = J at *
        have HJJ := Lib.hid hJJ
        clear hJJ
        have fin : ∀ (w2 w3 : World), Frm Nix wr w2 → Blk w3 r.fb 86 #[.slice r.A (r.fil.safe + cutN (ks.getD J 0) r.fil.b.length r.fil.safe) r.cap, .int .i64 ↑(r.fil.safe + cutN (ks.getD J 0) r.fil.b.length r.fil.safe)] → Frm (fun k => k = r.fb) w2 w3 → CrashAt w B g m D R0 ks clock (.slice (some ⟨gn, 0, none⟩) D.L.length cv) (k + 1) w3 := by
          intro w2 w3 hf2 hb3 hf3
          obtain ⟨hd, h2, h3, h4, h5⟩ := HAll.out
          have hrn : repOf r.fil.name R = some r := by rw [← HRep.out.2]; exact HRep.out.1
          refine CrashAt.cut (w := wr) hd h2 h3 h4 h5 hrn hlt (by rw [HRep.out.2]; exact HW.out) HRep.out.2.symm ((Frm.nix hf2).trans hf3) ?_
          rw [HJJ.out]
          exact hb3
        have FIN := Lib.hid fin
        clear fin
        by_cases hjn : J < n
        · obtain ⟨ad, u, hA, hGa, hla, hu, hcu⟩ := (HR.out).at_ hjn
          subst hA
          have hjl : J < ks.length := by rw [HL.out]; exact hjn
          have hug : u = .int .i64 (ks.getD J 0) := by
            simp only [ivs, List.getElem?_map, List.getElem?_eq_getElem hjl, Option.map_some, Option.some.injEq] at hu
            rw [← hu, List.getD_eq_getElem?_getD, List.getElem?_eq_getElem hjl]
            rfl
          have ck : wr.cell? (ad.add J) = some (.int .i64 (ks.getD J 0)) := by
            rw [← hug, ← hcu]
            exact HAll.out.2.2.1.cell (by rw [block_of_add]; exact hla) (by rw [block_of_add]; exact HG.out _ hGa)
          generalize hKK : ks.getD J 0 = KK at *
          clear hug hu hcu hKK
          go_wp2
          go_quiet (fail)
          go_wp2_with (go_at_call 67; refine (HCut.out _ _ ((Frm.refl Nix _).drewN _)).mono ?_; rintro e w3 ⟨rfl, hb3, hf3⟩)
          have HF := Lib.hid (FIN.out _ _ ((Frm.refl Nix _).drewN _) hb3 hf3)
          clear hb3 hf3
          go_wp2
          go_roundw
          case rel => exact ⟨k + 1, by omega, by go_num, by rw [HJ.out]; go_num, HF.out⟩
          case measure => simp [intOf]; omega
        · have hz : ks.getD J 0 = 0 := by
            rw [List.getD_eq_getElem?_getD, List.getElem?_eq_none (by rw [HL.out]; omega)]
            rfl
          rw [hz] at FIN
          clear hz
          go_wp2
          go_quiet (fail)
          go_wp2_with (go_at_call 67; refine (HCut.out _ _ ((Frm.refl Nix _).drewN _)).mono ?_; rintro e w3 ⟨rfl, hb3, hf3⟩)
          have HF := Lib.hid (FIN.out _ _ ((Frm.refl Nix _).drewN _) hb3 hf3)
          clear hb3 hf3
          go_wp2
          go_roundw
          case rel => exact ⟨k + 1, by omega, by go_num, by rw [HJ.out]; go_num, HF.out⟩
          case measure => simp [intOf]; omega
    · obtain rfl : k = D.L.length := by omega
      obtain ⟨R, hd, h2, h3, h4, h5⟩ := HC.out
      rw [crashTo_all] at hd
      have cc2 := hd.blk.cell 2
      have cc3 := hd.blk.cell 3
      have ff2 := hd.blk.frozen 2
      have ff3 := hd.blk.frozen 3
      simp at cc2 cc3
      have HAll := Lib.hid (And.intro hd (And.intro h2 h3))
      clear hd h2 h3 h4 h5
      go_wp2
      go_end0
      obtain ⟨hd, h2, h3⟩ := HAll.out
      have hf : Frm (fun k => k = g) wr ((wr.setCell ⟨g, 3, none⟩ (.bool false)).setCell ⟨g, 2, none⟩ (.int .i64 (-1))) := ((Frm.refl (fun k => k = g) wr).setCell (.inl rfl) _).setCell (.inl rfl) _
      have hb := (hd.blk.set_ 3 (.bool false)).set_ 2 (.int .i64 (-1))
      have hok := hd.ok
      have hd2 := hd.head (D' := D.crash ks) hf rfl (by simpa [Dsk.crash] using hb) ⟨hok.sorted, by simp [Dsk.crash], by simp [Dsk.crash], hok.q0, hok.q1, hok.used, hok.safe, hok.cnt, hok.nm⟩
      exact ⟨rfl, _, ⟨m, R, clock, hd2, rfl⟩, h3.next hf fun k hk => .inl (.inl hk), h2⟩
end Go.Proofs.YtdgpaddmheagoaaGreatDoor
