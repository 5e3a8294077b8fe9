/-
  Contracts of the disk package: how many bytes are used; reading a file.
-/
import Derived.Test.YtdgpaddmheagoaaGreatDoorDiskB
namespace Go.Proofs.YtdgpaddmheagoaaGreatDoor
open Go.RowKit

def sumE (R : List Rep) : List Ent → Nat
  | [] => 0
  | e :: l => ((repOf e.key R).map (·.fil.b.length)).getD 0 + sumE R l
theorem sumE_eq (R : List Rep) (l : List Ent) : sumE R l = (l.map fun e => ((repOf e.key R).map (·.fil.b.length)).getD 0).sum := by
  induction l with
  | nil => rfl
  | cons e l ih => simp [sumE, ih]
theorem sumE_perm {R : List Rep} {l l' : List Ent} (h : l.Perm l') : sumE R l = sumE R l' := by
  rw [sumE_eq, sumE_eq]
  exact (h.map _).sum_nat

section
variable {w : World} {B g m clock : Nat} {D : Dsk} {R : List Rep}
theorem DiskAt.names (h : DiskAt w B g m D R clock) : R.Pairwise fun a b => a.fil.name ≠ b.fil.name := by
  have h1 := h.ok.sorted.names_ne
  have h2 : (R.map (·.fil)).Pairwise fun a b => a.name ≠ b.name := (h.perm.pairwise_iff (fun {a b} (hab : a.name ≠ b.name) => hab.symm)).1 h1
  rw [List.pairwise_map] at h2
  exact h2
theorem repOf_mem : ∀ {R : List Rep}, (R.Pairwise fun a b => a.fil.name ≠ b.fil.name) → ∀ r ∈ R, repOf r.fil.name R = some r
  | [], _, r, hr => by cases hr
  | a :: R, h, r, hr => by
    obtain ⟨h1, h2⟩ := List.pairwise_cons.1 h
    unfold repOf
    rcases List.mem_cons.1 hr with rfl | hr
    · simp
    · rw [if_neg (h1 r hr)]
      exact repOf_mem h2 r hr
theorem sumE_all (h : R.Pairwise fun a b => a.fil.name ≠ b.fil.name) : sumE R (R.map Rep.ent) = usedL (R.map (·.fil)) := by
  rw [sumE_eq, usedL, List.map_map, List.map_map]
  refine congrArg List.sum (List.map_congr_left fun r hr => ?_)
  simp only [Function.comp_def, Rep.ent]
  rw [repOf_mem h r hr]
  rfl
theorem DiskAt.bornsE (h : DiskAt w B g m D R clock) : ((R.map Rep.ent).map (·.born)).Nodup := by
  rw [List.map_map]
  exact h.borns
theorem DiskAt.bornE (h : DiskAt w B g m D R clock) : ∀ e ∈ R.map Rep.ent, e.born < clock := by
  intro e he
  obtain ⟨r, hr, rfl⟩ := List.mem_map.1 he
  exact h.born r hr
theorem DiskAt.usedR (h : DiskAt w B g m D R clock) : usedL D.L = sumE R (R.map Rep.ent) := by
  rw [sumE_all h.names]
  exact usedL_perm h.perm
end

set_option maxRecDepth 100000 in
theorem Used_nil (w : World) : Calls Tryz.prog 42 #[.pointer none] w fun e w' => e = .returned (.int .i64 0) ∧ w = w' := by
  go_enter Tryz.func42, Tryz.ntmps42
  go_wp2
  go_ret
  exact ⟨rfl, rfl⟩

set_option maxRecDepth 100000 in
set_option maxHeartbeats 1000000 in
theorem Used_any {B g : Nat} {F : Nat → Prop} {D : Dsk} {w : World} (h : Dk w B g F D) :
    Calls Tryz.prog 42 #[.pointer (some ⟨g, 0, none⟩)] w fun e w' => e = .returned (.int .i64 (usedL D.L)) ∧ Frm Nix w w' := by
  obtain ⟨m, R, clock, h, -⟩ := h
  have c0 := h.blk.cell 0
  simp at c0
  have hrg := h.map.range (P := Tryz.prog) Tryz.underlying52
  have hq := h.ok.q1
  have hu := h.ok.used
  have H := Lib.hid h
  clear h
  go_enter Tryz.func42, Tryz.ntmps42
  go_wp2
  clear hrg
  go_loopw [3, 5] (fun n _ wr => ∃ (seen : List Nat) (k : Nat), n = .int .i64 k ∧ k + sumE R (leftE seen (R.map Rep.ent)) = usedL D.L ∧ IterAt wr w.heap.size m clock seen ∧ Frm Nix w wr) (fun _ _ wr => leftN wr w.heap.size (R.map Rep.ent))
  case atStart =>
    refine ⟨[], 0, rfl, ?_, heap_alloc_new w _, (Frm.refl _ w).alloc _⟩
    have : leftE [] (R.map Rep.ent) = R.map Rep.ent := List.filter_eq_self.2 (by simp)
    rw [this, Nat.zero_add, H.out.usedR]
  case round =>
    obtain ⟨seen, k, rfl, hk, hi, hf⟩ := hrel
    have hd : DiskAt wr B g m D R clock := H.out.frm hf fun _ _ => id
    by_cases hl : leftE seen (R.map Rep.ent) = []
    · have hn := hd.map.next_over (P := Tryz.prog) hi hd.bornE hl
      have Hk : Hid (k = usedL D.L) := by rw [hl] at hk; exact hk
      have HF := Lib.hid hf
      clear hk hf hd hi hl
      go_wp2
      go_ret
      exact ⟨ret_int (by rw [Hk.out]), HF.out⟩
    · obtain ⟨e, w1, he, hn, hi1, hf1⟩ := hd.map.next_some (P := Tryz.prog) hi hd.bornE hl
      obtain ⟨r, hr, rfl⟩ := List.mem_map.1 (List.mem_filter.1 he).1
      have hstep := leftE_step hd.bornsE he
      have hfw1 : Frm Nix w w1 := hf.next hf1 (fun i hi => .inr (by omega))
      have hd1 : DiskAt w1 B g m D R clock := H.out.frm hfw1 fun _ _ => id
      have hen := hd1.map.entry (P := Tryz.prog) hi1 (List.mem_filter.1 he).1 hd.bornsE
      have cf := (hd1.files r hr).blk.cell 0
      simp [Rep.v] at cf
      have hsum : sumE R (leftE seen (R.map Rep.ent)) = r.fil.b.length + sumE R (leftE (seen ++ [r.ent.born]) (R.map Rep.ent)) := by
        rw [sumE_perm hstep]
        simp only [sumE, Rep.ent]
        rw [repOf_mem hd.names r hr]
        rfl
      have hlen := hstep.length_eq
      have hb : k + r.fil.b.length ≤ 16777216 := by omega
      have HR : Hid (k + r.fil.b.length + sumE R (leftE (seen ++ [r.ent.born]) (R.map Rep.ent)) = usedL D.L ∧ IterAt w1 w.heap.size m clock (seen ++ [r.ent.born]) ∧ Frm Nix w w1) := ⟨by omega, hi1, hfw1⟩
      have HM : Hid (leftN w1 w.heap.size (R.map Rep.ent) < leftN wr w.heap.size (R.map Rep.ent)) := by
        unfold Hid
        rw [hi1.leftN, hi.leftN, hlen]
        simp
      clear hk hi hf hd hl he hstep hfw1 hd1 hsum hlen hi1 hf1
      simp only [Rep.ent] at hn hen
      go_wp2
      go_roundw
      case rel => exact ⟨_, k + r.fil.b.length, by go_num, HR.out.1, HR.out.2.1, HR.out.2.2⟩
      case measure => exact HM.out

/-! ### slices.Clone of bytes -/

theorem info_u8 : (Tryz.prog.info? 5).map (fun i => (i.zero, i.size, i.bytes)) = some (some (.int .u8 0), 1, 1) := by kernel_rfl
theorem bvs_one (l : List UInt8) : ∀ u ∈ bvs l, u.oneCell' = true := by
  intro u hu
  obtain ⟨c, -, rfl⟩ := List.mem_map.1 hu
  rfl
@[simp] theorem bvs_length (l : List UInt8) : (bvs l).length = l.length := by simp [bvs]
theorem bvs_append (a b : List UInt8) : bvs (a ++ b) = bvs a ++ bvs b := by simp [bvs]

/-- 'string(b)'. -/
theorem run_str_of {w : World} {G : Nat → Prop} {A : Option Addr} {n c : Nat} {l : List UInt8} (hr : Rd w G 1 A n (bvs l)) : (convert 35 9 (.slice A n c)).run Tryz.prog w = .ok (.string ⟨l.toArray⟩) w := by
  have hl : l.length = n := by simpa using hr.1
  subst hl
  rcases A with _ | ad
  · have h0 : l = [] := by
      rcases l with _ | ⟨a, l⟩
      · rfl
      · obtain ⟨ad, h, -⟩ := hr.2 (by simp)
        cases h
    subst h0
    exact run_convert_bytes_nil w 35 5 Tryz.underlying35 Tryz.underlying5 0 c 9 Tryz.underlying9
  · refine run_convert_bytes_back w 35 9 5 ad c l Tryz.underlying35 Tryz.underlying5 Tryz.underlying9 fun j hj => ?_
    obtain ⟨ad', e, -, -, hc⟩ := hr.2 (by omega)
    injection e with e
    subst e
    exact hc j _ (by simp [bvs, List.getElem?_eq_getElem hj])

/-- a slice that was read: nil, or an address. -/
def NilOk (A : Option Addr) (n c : Nat) : Prop := A = none → n = 0 ∧ c = 0

set_option maxRecDepth 100000 in
theorem CloneB_any (A : Option Addr) (n c : Nat) (xs : List Value) (G : Nat → Prop) (w : World) (hr : Rd w G 1 A n xs) (h1 : ∀ u ∈ xs, u.oneCell' = true) (hn : n ≤ 140737488355328) (hnil : NilOk A n c) :
    Calls Tryz.prog 66 #[.slice A n c] w fun e w' => ∃ v, e = .returned v ∧ w'.ownsRow w.heap.size 5 1 v n xs ∧ Frm Nix w w' := by
  obtain ⟨i0, hi, hz0, hz1, hz2⟩ := info_parts info_u8
  have hq := fun (W : World) (a : Option Addr) (n c : Nat) => Lib.run_eql_slice_nil (P := Tryz.prog) W 35 5 a n c 0 0 Tryz.underlying35
  rcases A with _ | ad
  · obtain ⟨rfl, rfl⟩ := hnil rfl
    have hx : xs = [] := List.eq_nil_of_length_eq_zero (by simpa using hr.1)
    subst hx
    clear hr h1 hnil hz0 hz1 hz2 hi
    go_enter Tryz.func66, Tryz.ntmps66
    go_wp2
    go_ret
    exact ⟨_, rfl, World.ownsRow_nil _ _ _ _, Frm.refl _ _⟩
  · have hf : Frm Nix w (w.alloc (.cells #[] 5)) := (Frm.refl _ w).alloc _
    have hown0 : (w.alloc (.cells #[] 5)).ownsRow w.heap.size 5 1 (.slice (some ⟨w.heap.size, 0, none⟩) 0 0) 0 [] :=
      ⟨rfl, .inr ⟨_, 0, #[], rfl, Nat.le_refl _, heap_alloc_new w _, Nat.le_refl _, Nat.zero_le _, rfl, rfl⟩⟩
    obtain ⟨v', w', hrun, hown, hg, hat⟩ := run_append_any (P := Tryz.prog) (w.alloc (.cells #[] 5)) w.heap.size 35 5 i0 (.int .u8 0) 1 1 Tryz.underlying35 hi hz0 hz1 hz2 rfl (by decide) _ 0 [] hown0
      G (some ad) n c xs (hr.frm hf fun _ _ => id) h1 (by unfold maxLen; omega) (by omega) (by simp)
    rw [Nat.zero_add, List.nil_append] at hown
    have HW : Hid (w'.ownsRow w.heap.size 5 1 v' n xs ∧ Frm Nix w w') := ⟨hown, hf.grown hg (fun k hk => .inr (by simp [Value.ownBlock] at hk; omega))⟩
    clear hown hg hat hf hown0 hr h1 hnil hz0 hz1 hz2 hi
    go_enter Tryz.func66, Tryz.ntmps66
    go_wp2_with (at_builtin; refine wpList_append_run hrun rfl _ _ rfl rfl rfl ?_)
    go_ret
    exact ⟨v', rfl, HW.out⟩
end Go.Proofs.YtdgpaddmheagoaaGreatDoor
