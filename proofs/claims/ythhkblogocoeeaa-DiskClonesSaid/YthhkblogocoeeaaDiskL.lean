/-
  Contracts of the disk package: Clone.
-/
import Derived.Test.YthhkblogocoeeaaDiskK
import Derived.Deep.RegionHeld3
namespace Go.Proofs.Ythhkblogocoeeaa
open Go.RowKit

set_option maxRecDepth 100000 in
theorem Clone_nil (w : World) : Calls Try.prog 18 #[.pointer none] w fun e w' => e = .returned (.pointer none) ∧ w = w' := by
  go_enter Try.func18, Try.ntmps18
  go_wp2
  go_ret
  exact ⟨rfl, rfl⟩

theorem inj_of_nodup {α β : Type} {f : α → β} : ∀ {l : List α}, (l.map f).Nodup → ∀ x ∈ l, ∀ y ∈ l, f x = f y → x = y
  | [], _, _, hx, _, _, _ => by cases hx
  | a :: l, h, x, hx, y, hy, e => by
    simp only [List.map_cons, List.nodup_cons] at h
    rcases List.mem_cons.1 hx with rfl | hx
    · rcases List.mem_cons.1 hy with rfl | hy
      · rfl
      · exact absurd (List.mem_map.2 ⟨y, hy, e.symm⟩) h.1
    · rcases List.mem_cons.1 hy with rfl | hy
      · exact absurd (List.mem_map.2 ⟨x, ‹x ∈ l›, e⟩) h.1
      · exact inj_of_nodup h.2 x ‹x ∈ l› y ‹y ∈ l› e
theorem filter_add {f : Fil} {p p' : Fil → Bool} (h0 : p f = false) (h1 : p' f = true) : ∀ {L : List Fil}, SortedF L → f ∈ L → (∀ x ∈ L, x.name ≠ f.name → p' x = p x) → (L.filter p').Perm (f :: L.filter p)
  | [], _, hf, _ => by cases hf
  | a :: L, hs, hf, h2 => by
    obtain ⟨s1, s2⟩ := List.pairwise_cons.1 hs
    rcases List.mem_cons.1 hf with rfl | hf
    · have : L.filter p' = L.filter p := List.filter_congr fun x hx => h2 x (by simp [hx]) (fun e => ltN_irrefl _ (e ▸ s1 x hx))
      rw [List.filter_cons_of_pos h1, List.filter_cons_of_neg (by simp [h0]), this]
    · have hne : a.name ≠ f.name := fun e => ltN_irrefl _ (e ▸ s1 f hf)
      have ih := filter_add h0 h1 s2 hf fun x hx => h2 x (by simp [hx])
      have ha := h2 a (by simp) hne
      by_cases hp : p a = true
      · rw [List.filter_cons_of_pos (by rw [ha]; exact hp), List.filter_cons_of_pos hp]
        exact (ih.cons a).trans (List.Perm.swap _ _ _)
      · rw [List.filter_cons_of_neg (by rw [ha]; exact hp), List.filter_cons_of_neg hp]
        exact ih

/-- the files that were gone over. -/
def goneB (seen : List Nat) (R : List Rep) (f : Fil) : Bool := match repOf f.name R with | some r => seen.contains r.born | none => false
def goneL (seen : List Nat) (R : List Rep) (L : List Fil) : List Fil := L.filter (goneB seen R)

section
variable {w w' : World} {B g m clock : Nat} {D : Dsk} {R : List Rep} {seen : List Nat}
theorem goneL_nil (L : List Fil) : goneL [] R L = [] := by
  refine List.filter_eq_nil_iff.2 fun f _ => ?_
  unfold goneB
  split <;> simp
theorem DiskAt.gone_mem (h : DiskAt w B g m D R clock) {r : Rep} (hr : r ∈ R) : goneB seen R r.fil = seen.contains r.born := by
  unfold goneB
  rw [repOf_mem h.names r hr]
theorem DiskAt.gone_all (h : DiskAt w B g m D R clock) (hl : leftE seen (R.map Rep.ent) = []) : goneL seen R D.L = D.L := by
  refine List.filter_eq_self.2 fun f hf => ?_
  obtain ⟨r, hr, rfl⟩ := List.mem_map.1 (h.perm.mem_iff.1 hf)
  rw [h.gone_mem hr]
  have := List.filter_eq_nil_iff.1 hl r.ent (List.mem_map.2 ⟨r, hr, rfl⟩)
  simpa [Rep.ent] using this
theorem DiskAt.gone_step (h : DiskAt w B g m D R clock) {r : Rep} (hr : r ∈ R) (hs : r.born ∉ seen) : goneL (seen ++ [r.born]) R D.L = putF r.fil (goneL seen R D.L) := by
  have hsl : SortedF (goneL seen R D.L) := h.ok.sorted.filter _
  refine sorted_perm_eq (h.ok.sorted.filter _) hsl.put ?_
  refine List.Perm.trans ?_ (putF_perm hsl).symm
  have hdel : delF r.fil.name (goneL seen R D.L) = goneL seen R D.L := by
    refine List.filter_eq_self.2 fun f hf => ?_
    obtain ⟨h1, h2⟩ := List.mem_filter.1 hf
    simp only [ne_eq, decide_eq_true_eq]
    intro e
    unfold goneB at h2
    rw [e, repOf_mem h.names r hr] at h2
    exact hs (by simpa using h2)
  rw [hdel]
  refine filter_add ?_ ?_ h.ok.sorted (h.filMem hr) fun x hx hne => ?_
  · rw [h.gone_mem hr]
    simpa using hs
  · rw [h.gone_mem hr]
    simp
  · obtain ⟨a, ha, rfl⟩ := List.mem_map.1 (h.perm.mem_iff.1 hx)
    rw [h.gone_mem ha, h.gone_mem ha]
    have : a.born ≠ r.born := fun e => hne (by rw [inj_of_nodup h.borns a ha r hr e])
    simp [this]

theorem used_filter (p : Fil → Bool) (L : List Fil) : usedL (L.filter p) ≤ usedL L := by
  induction L with
  | nil => exact Nat.le_refl _
  | cons a L ih =>
    simp only [usedL] at ih
    by_cases h : p a = true
    · rw [List.filter_cons_of_pos h]
      simp only [usedL, List.map_cons, List.sum_cons]
      omega
    · rw [List.filter_cons_of_neg h]
      simp only [usedL, List.map_cons, List.sum_cons]
      omega
theorem Dsk.Ok.gone (h : D.Ok) (seen : List Nat) (R : List Rep) : ({ D with L := goneL seen R D.L } : Dsk).Ok := by
  have h1 := used_filter (goneB seen R) D.L
  have h2 := List.length_filter_le (goneB seen R) D.L
  have h3 := h.used
  have h4 := h.cnt
  exact ⟨h.sorted.filter _, h.lo, h.hi, h.q0, h.q1, by simp only [goneL]; omega, fun f hf => h.safe f (List.mem_filter.1 hf).1, by simp only [goneL]; omega, fun f hf => h.nm f (List.mem_filter.1 hf).1⟩
end

def CloneOut (w : World) (B : Nat) (D : Dsk) (e : Ending) (w' : World) : Prop :=
  ∃ g' F', e = .returned (.pointer (some ⟨g', 0, none⟩)) ∧ Dk w' B g' F' D ∧ Frm Nix w w' ∧ ∀ k, F' k → w.heap.size ≤ k

set_option maxRecDepth 100000 in
set_option maxHeartbeats 2000000 in
theorem Clone_any {B g : Nat} {F : Nat → Prop} {D : Dsk} {w : World} (h : Dk w B g F D) (hB : B ≤ w.heap.size) :
    Calls Try.prog 18 #[.pointer (some ⟨g, 0, none⟩)] w (CloneOut w B D) := by
  obtain ⟨m, R, clock, h, -⟩ := h
  have c0 := h.blk.cell 0
  have c1 := h.blk.cell 1
  have c2 := h.blk.cell 2
  have c3 := h.blk.cell 3
  have c4 := h.blk.cell 4
  simp at c0 c1 c2 c3 c4
  have hmm := @run_makeMap Try.prog
  obtain ⟨w2, hw2⟩ : ∃ w2, w2 = (w.alloc (.cells #[.map (some (w.heap.size + 1)), .int .i64 D.quota, .int .i64 D.left, .bool D.off, .int .i64 D.deeds] 57)).alloc (.map #[] 0) := ⟨_, rfl⟩
  have hf2 : Frm Nix w w2 := by rw [hw2]; exact ((Frm.refl Nix w).alloc _).alloc _
  have hsz2 : w2.heap.size = w.heap.size + 2 := by rw [hw2]; simp
  have hb2 : Blk w2 w.heap.size 57 #[.map (some (w.heap.size + 1)), .int .i64 D.quota, .int .i64 D.left, .bool D.off, .int .i64 D.deeds] := by rw [hw2]; exact (Blk.new w _ _).alloc _
  have hm2 : SMap w2 (w.heap.size + 1) [] 0 := by
    rw [hw2]
    have := heap_alloc_new (w.alloc (.cells #[.map (some (w.heap.size + 1)), .int .i64 D.quota, .int .i64 D.left, .bool D.off, .int .i64 D.deeds] 57)) (.map #[] 0)
    simpa [SMap] using this
  have h2 := h.frm hf2 fun _ _ => id
  have c02 := h2.blk.cell 0
  simp at c02
  have hrg := h2.map.range (P := Try.prog) Try.underlying55
  rw [hsz2] at hrg
  have hnew : DiskAt w2 B w.heap.size (w.heap.size + 1) { D with L := goneL [] R D.L } [] 0 := by
    rw [goneL_nil]
    exact ⟨hB, by omega, hb2, hm2, by simp, by simp, by simp, by simp, by simp, by have := h.ok.gone [] R; rwa [goneL_nil] at this⟩
  have HD := Lib.hid h
  have H2 : Hid (Frm Nix w w2 ∧ w2.heap.size = w.heap.size + 2 ∧ DiskAt w2 B w.heap.size (w.heap.size + 1) { D with L := goneL [] R D.L } [] 0) := ⟨hf2, hsz2, hnew⟩
  rw [hw2] at c02 hrg
  have HW := Lib.hid hw2
  clear h hf2 hsz2 hb2 hm2 h2 hnew hw2
  go_enter Try.func18, Try.ntmps18
  go_wp2
  rw [← HW.out]
  clear hrg c02 hmm c0 c1 c2 c3 c4
  go_loopw [4, 5] (fun _ _ wr => ∃ (seen : List Nat) (R' : List Rep) (clock' : Nat), IterAt wr (w.heap.size + 2) m clock seen ∧ DiskAt wr B w.heap.size (w.heap.size + 1) { D with L := goneL seen R D.L } R' clock' ∧ Frm Nix w wr ∧ (∀ k, Foot w.heap.size (w.heap.size + 1) R' k → w.heap.size ≤ k ∧ k ≠ w.heap.size + 2)) (fun _ _ wr => leftN wr (w.heap.size + 2) (R.map Rep.ent))
  case atStart =>
    obtain ⟨hf2, hsz2, hnew⟩ := H2.out
    have hfa : Frm Nix w2 (w2.alloc (.mapIter (some m) clock #[] clock)) := (Frm.refl Nix w2).alloc _
    refine ⟨[], [], 0, ?_, hnew.frm hfa fun _ _ => id, hf2.trans hfa, ?_⟩
    · have := heap_alloc_new w2 (.mapIter (some m) clock #[] clock)
      rw [hsz2] at this
      exact this
    · rintro k (rfl | rfl | ⟨r, hr, _⟩ | ⟨r, hr, _⟩)
      · omega
      · omega
      · cases hr
      · cases hr
  case round =>
    obtain ⟨seen, R', clock', hi, hnew, hf, hfo⟩ := hrel
    have hd : DiskAt wr B g m D R clock := HD.out.frm hf fun _ _ => id
    by_cases hl : leftE seen (R.map Rep.ent) = []
    · have hn := hd.map.next_over (P := Try.prog) hi hd.bornE hl
      have HE : Hid (CloneOut w B D (.returned (.pointer (some ⟨w.heap.size, 0, none⟩))) wr) := by
        rw [HD.out.gone_all hl] at hnew
        exact ⟨_, _, rfl, ⟨_, _, _, hnew, rfl⟩, hf, fun k hk => (hfo k hk).1⟩
      clear hi hnew hf hfo hd hl
      go_wp2
      go_ret
      exact HE.out
    · obtain ⟨e, w1, he, hn, hi1, hf1⟩ := hd.map.next_some (P := Try.prog) hi hd.bornE hl
      obtain ⟨r, hr, rfl⟩ := List.mem_map.1 (List.mem_filter.1 he).1
      have hstep := leftE_step hd.bornsE he
      have hns : r.born ∉ seen := by
        have := (List.mem_filter.1 he).2
        simpa [Rep.ent] using this
      have hfw1 : Frm Nix w w1 := hf.next hf1 (fun i hi => .inr (by omega))
      have hd1 : DiskAt w1 B g m D R clock := HD.out.frm hfw1 fun _ _ => id
      have hnew1 : DiskAt w1 B w.heap.size (w.heap.size + 1) { D with L := goneL seen R D.L } R' clock' := hnew.frm hf1 fun k hk e => (hfo k hk).2 e
      have hen := hd1.map.entry (P := Try.prog) hi1 (List.mem_filter.1 he).1 hd.bornsE
      have hfl := hd1.files r hr
      have cf := hfl.blk.cell 0
      have cs := hfl.blk.cell 1
      simp [Rep.v] at cf cs
      have cm := hnew1.blk.cell 0
      simp at cm
      have hlen := hd1.lenLe hr
      have hnil : NilOk r.A r.fil.b.length r.cap := by
        intro hn
        rcases hfl.own.2 with ⟨e, h0⟩ | ⟨g0, cap, cur, e, _⟩
        · unfold Rep.v at e
          injection e with _ _ e3
          exact ⟨h0, e3⟩
        · unfold Rep.v at e
          rw [hn] at e
          injection e with e1
          cases e1
      have HCl : Hid (∀ W, Frm Nix w1 W → Calls Try.prog 41 #[.slice r.A r.fil.b.length r.cap] W fun e w' => ∃ v, e = .returned v ∧ w'.ownsRow W.heap.size 5 1 v r.fil.b.length (bvs r.fil.b) ∧ Frm Nix W w') :=
        fun W hW => CloneB_any r.A r.fil.b.length r.cap (bvs r.fil.b) _ W ((Rd.of_own hfl.own).frm hW fun _ _ => id) (bvs_one _) (by omega) hnil
      simp only [Rep.ent] at hn hen
      have HM : Hid (∀ W, IterAt W (w.heap.size + 2) m clock (seen ++ [r.born]) → leftN W (w.heap.size + 2) (R.map Rep.ent) < leftN wr (w.heap.size + 2) (R.map Rep.ent)) := by
        intro W hW
        rw [hW.leftN, hi.leftN, hstep.length_eq]
        simp [Rep.ent]
      have HAll : Hid (IterAt w1 (w.heap.size + 2) m clock (seen ++ [r.born]) ∧ (∀ k, Foot w.heap.size (w.heap.size + 1) R' k → w.heap.size ≤ k ∧ k ≠ w.heap.size + 2) ∧ Frm Nix w w1) := ⟨hi1, hfo, hfw1⟩
      have HNew := Lib.hid hnew1
      clear hi hnew hf hfo hd hl he hstep hfw1 hd1 hnew1 hi1 hf1 hfl hnil
      have lf := below_size_of_cell cf
      have lm := below_size_of_cell cm
      have lfb : r.fb < w.heap.size := (HD.out.files r hr).blk.lt
      go_wp2
      go_region_held3 (fun w' => w'.cell? ⟨r.fb, 0, none⟩ = some (.slice r.A r.fil.b.length r.cap) ∧ w'.cell? ⟨r.fb, 1, none⟩ = some (.int .i64 r.fil.safe) ∧ w'.cell? ⟨w.heap.size, 0, none⟩ = some (.map (some (w.heap.size + 1))))
        (first | go_keep | (go_split_ands; refine ⟨(hf3.cell lf id).trans cf, (hf3.cell lf id).trans cs, (hf3.cell lm id).trans cm⟩) | (go_split_ands; refine ⟨(hf15.cell lf ?_).trans cf, (hf15.cell lf ?_).trans cs, (hf15.cell lm ?_).trans cm⟩ <;> (simp only; omega)))
        ((go_at_call 41; refine (HCl.out _ ?_).mono ?_; exact (Frm.refl Nix w1).drew; rintro e w3 ⟨v, rfl, hown3, hf3⟩; obtain ⟨Av, cv, rfl, -⟩ := own_shape hown3; obtain ⟨w5, hrun5, hm5, hf5⟩ := ((HNew.out.frm (((Frm.refl Nix w1).drew).trans hf3) (fun _ _ => id)).frm ((Frm.refl Nix w3).alloc (.cells #[.slice Av r.fil.b.length cv, .int .i64 r.fil.safe] 66)) (fun _ _ => id)).map.update (P := Try.prog) Try.underlying55 Try.underlying9 r.fil.name (.pointer (some ⟨w3.heap.size, 0, none⟩)); have hf15 : Frm (fun i => i = w.heap.size + 1) w1 w5 := (Frm.nix ((((Frm.refl Nix w1).drew).trans hf3).alloc _)).trans hf5))
      have key : ∃ (R2 : List Rep) (clock2 : Nat), IterAt w5 (w.heap.size + 2) m clock (seen ++ [r.born]) ∧ DiskAt w5 B w.heap.size (w.heap.size + 1) { D with L := goneL (seen ++ [r.born]) R D.L } R2 clock2 ∧ Frm Nix w w5 ∧ (∀ k, Foot w.heap.size (w.heap.size + 1) R2 k → w.heap.size ≤ k ∧ k ≠ w.heap.size + 2) := by
        obtain ⟨hi1, hfo, hfw1⟩ := HAll.out
        have hf13 : Frm Nix w1 w3 := ((Frm.refl Nix w1).drew).trans hf3
        have hfa : Frm Nix w3 (w3.alloc (.cells #[.slice Av r.fil.b.length cv, .int .i64 r.fil.safe] 66)) := (Frm.refl Nix w3).alloc _
        have hn1 := HNew.out
        have hn4 := (hn1.frm hf13 fun _ _ => id).frm hfa fun _ _ => id
        have hs13 : w1.heap.size ≤ w3.heap.size := hf13.size
        have hit := hi1.lt
        have hB1 : B ≤ w1.heap.size := Nat.le_trans hn1.gB (Nat.le_of_lt hn1.blk.lt)
        have hown4 : (w3.alloc (.cells #[.slice Av r.fil.b.length cv, .int .i64 r.fil.safe] 66)).ownsRow B 5 1 (.slice Av r.fil.b.length cv) r.fil.b.length (bvs r.fil.b) :=
          own_base (own_frm hown3 hfa fun _ _ => id) fun k hk => by
            have h1 : w1.heap.size ≤ k := (hown3.lt k hk).1
            omega
        have hfile : FileAt (w3.alloc (.cells #[.slice Av r.fil.b.length cv, .int .i64 r.fil.safe] 66)) B ⟨r.fil, w3.heap.size, Av, cv, 0⟩ :=
          ⟨Blk.new w3 _ _, by simp only; omega, hown4⟩
        obtain ⟨R2, clock2, hd2, hR2, -⟩ := hn4.attach (D' := { D with L := goneL (seen ++ [r.born]) R D.L }) (rn := ⟨r.fil, w3.heap.size, Av, cv, 0⟩) hfile
          (fun x hx _ => ⟨by have := (hn1.files x hx).blk.lt; simp only; omega, fun k hk e => by
            have h1 := hn1.row_lt hx hk
            have h2 : w1.heap.size ≤ k := (hown3.lt k e).1
            omega⟩) hf5 hm5 (HD.out.gone_step hr hns) rfl rfl rfl rfl (HD.out.ok.gone _ _)
        refine ⟨R2, clock2, ((hi1.frm hf13 id).frm hfa id).frm hf5 (by omega), hd2, ((hfw1.trans hf13).trans hfa).next hf5 (fun k hk => .inr (by omega)), fun k hk => ?_⟩
        rcases hk with rfl | rfl | ⟨x, hx, rfl⟩ | ⟨x, hx, hk⟩
        · omega
        · omega
        · rcases hR2 x hx with ⟨hx, -⟩ | ⟨b, rfl⟩
          · exact hfo _ (.inr (.inr (.inl ⟨x, hx, rfl⟩)))
          · have := hfw1.size
            simp only
            omega
        · rcases hR2 x hx with ⟨hx, -⟩ | ⟨b, rfl⟩
          · exact hfo _ (.inr (.inr (.inr ⟨x, hx, hk⟩)))
          · have h1 : w1.heap.size ≤ k := (hown3.lt k hk).1
            have := hfw1.size
            omega
      have HK := Lib.hid key
      clear key hown3 hf3 hm5 hf5 hrun5 hf15
      go_wp2
      go_roundw
      case rel =>
        obtain ⟨R2, clock2, k1, k2, k3, k4⟩ := HK.out
        exact ⟨_, R2, clock2, k1, k2, k3, k4⟩
      case measure =>
        obtain ⟨R2, clock2, k1, k2, k3, k4⟩ := HK.out
        exact HM.out _ k1
end Go.Proofs.Ythhkblogocoeeaa
