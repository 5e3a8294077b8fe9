/-
  Contracts: a strings.Builder of the call's own, written rune by rune; utf.Fold.
-/
import Derived.Test.YtnnfgbnnodcepaaWA
import Derived.Test.YtnnfgbnnodcepaaShelf
import Derived.Test.YtnnfgbnnodcepaaRow
import Derived.BigCall
namespace Go.Proofs.Ytnnfgbnnodcepaa
open Go.RowKit Go.Lib

theorem sizeB : (Try.prog.info? 47).map (·.size) = some 2 := by kernel_rfl
theorem liesB : liesAt Try.prog Try.prog.depth 47 (2 / Try.prog.cellsOf 47) 0 47 1 = true := by kernel_rfl
theorem infoU8 : (Try.prog.info? 5).map (fun i => (i.zero, i.size, i.bytes)) = some (some (.int .u8 0), 1, 1) := by kernel_rfl

set_option maxRecDepth 100000 in
set_option maxHeartbeats 1000000 in
theorem copyCheck_fresh (b : Nat) (w : World) (h0 : w.cell? ⟨b, 0, none⟩ = some (.pointer none)) (hsh : w.shape? b = some (47, 2)) (hf : w.frozen? ⟨b, 0, none⟩ = false) :
    Calls Try.prog 47 #[.pointer (some ⟨b, 0, none⟩)] w fun e w' => e = .returned (.tuple #[]) ∧ w' = w.setCell ⟨b, 0, none⟩ (.pointer (some ⟨b, 0, none⟩)) := by
  obtain ⟨j, hj, hjs⟩ := Option.map_eq_some_iff.1 sizeB
  go_enter Try.func47, Try.ntmps47
  go_wp2
  rw [Lib.run_to_unsafe w ⟨b, 0, none⟩ Try.underlying45 Try.underlying76 hj (by rw [hjs]; decide) hsh (Nat.zero_lt_succ 1)]
  simp only [Result.andThen]
  rw [Oper.upon_value]
  go_wp2
  rw [run_callFunc_extern Try.func62 (by kernel_rfl) (by kernel_rfl) (by kernel_rfl) (e := Extern.AbiNoEscape.same) (by kernel_rfl)]
  rw [Lib.run_noEscape]
  simp only [Result.andThen]
  rw [Oper.upon_value]
  go_wp2
  rw [Lib.run_from_unsafe w ⟨b, 0, none⟩ Try.underlying76 Try.underlying45 hj hsh liesB]
  simp only [Result.andThen]
  rw [Oper.upon_value]
  go_wp2
  go_end0
  exact ⟨rfl, rfl⟩

set_option maxRecDepth 100000 in
theorem copyCheck_used (b : Nat) (w : World) (h0 : w.cell? ⟨b, 0, none⟩ = some (.pointer (some ⟨b, 0, none⟩))) :
    Calls Try.prog 47 #[.pointer (some ⟨b, 0, none⟩)] w fun e w' => e = .returned (.tuple #[]) ∧ w' = w := by
  go_enter Try.func47, Try.ntmps47
  obtain ⟨j, hj, _⟩ := Option.map_eq_some_iff.1 sizeB
  go_wp2
  rw [Lib.run_neq_ptr_same w _ Try.underlying45 hj]
  go_wp2
  go_end0
  exact ⟨rfl, rfl⟩

theorem ne_ub : 5 ≠ 47 := by decide
def selfP (b : Nat) : Value := .pointer (some ⟨b, 0, none⟩)

theorem copyCheck_any (b : Nat) (w : World) (p v : Value) (hp : p = .pointer none ∨ p = selfP b) (hb : Blk w b 47 #[p, v]) :
    Calls Try.prog 47 #[.pointer (some ⟨b, 0, none⟩)] w fun e w' => e = .returned (.tuple #[]) ∧ Blk w' b 47 #[selfP b, v] ∧ Frm (fun k => k = b) w w' := by
  rcases hp with rfl | rfl
  · have hs : w.shape? b = some (47, 2) := by
      unfold Blk at hb
      simp [World.shape?, hb]
    refine (copyCheck_fresh b w (hb.cell 0) hs (hb.frozen 0)).mono ?_
    rintro e w' ⟨rfl, rfl⟩
    exact ⟨rfl, hb.set_ 0 _, (Frm.refl (fun k => k = b) w).setCell (.inl rfl) _⟩
  · refine (copyCheck_used b w (hb.cell 0)).mono ?_
    rintro e w' ⟨rfl, rfl⟩
    exact ⟨rfl, hb, Frm.refl _ _⟩

set_option maxRecDepth 100000 in
set_option maxHeartbeats 1000000 in
theorem WriteRune_any {w0 w : World} {b n : Nat} {p v : Value} {bs : List Value} (hb0 : w0.heap.size ≤ b) (hp : p = .pointer none ∨ p = selfP b) (hb : Blk w b 47 #[p, v]) (hr : RowIn 5 w0 w v n bs) (r : Int) (hr0 : -2147483648 ≤ r) (hr1 : r ≤ 2147483647) (hn : n + 4 ≤ 140737488355328) :
    Calls Try.prog 37 #[.pointer (some ⟨b, 0, none⟩), .int .i32 r] w fun e w' => e = .returned (.tuple #[.int .i64 (runeCells r).length, .nilIface]) ∧
      ∃ v', Blk w' b 47 #[selfP b, v'] ∧ RowIn 5 w0 w' v' (n + (runeCells r).length) (bs ++ runeCells r) ∧ Frm (fun k => k = b ∨ v.ownBlock = some k) w w' := by
  have hk4 := runeCells_le r
  have HR := Lib.hid hr
  have HB := Lib.hid hb
  obtain ⟨A, c, rfl, -, -, hcm, -⟩ := hr.shape
  unfold maxLen at hcm
  have hne := hr.ne_blk hb ne_ub
  clear hr hb
  go_enter Try.func37, Try.ntmps37
  go_wp2_with fail
  refine (copyCheck_any b w p _ hp HB.out).mono ?_
  rintro e w1 ⟨rfl, hb1, hf1⟩
  have hr1' : RowIn 5 w0 w1 (.slice A n c) n bs := HR.out.far hf1 (fun k hk => by rw [hk]; exact hb0) (fun k hk e => hne (by rw [hk, e]))
  have c1 := hb1.cell 1
  simp at c1
  have H1 := Lib.hid (And.intro hb1 (And.intro hf1 hr1'))
  clear hb1 hf1 hr1'
  go_wp2_with fail
  refine (Try.utf8_AppendRune_plain w0.heap.size _ n bs r hr0 hr1 w1 H1.out.2.2.own hn H1.out.2.2.frm.size).mono ?_
  rintro e w2 ⟨v', rfl, hown, o, hg⟩
  obtain ⟨hb1, hf1, hr1'⟩ := H1.out
  have hf2 : Frm (fun k => (Value.slice A n c).ownBlock = some k) w1 w2 := ((Frm.refl (fun k => (Value.slice A n c).ownBlock = some k) w1).alloc o).grown hg fun k hk => .inl hk
  have hr2 : RowIn 5 w0 w2 v' (n + (runeCells r).length) (bs ++ runeCells r) := ⟨hown, hr1'.frm.next hf2 fun k hk => .inr (hr1'.own.lt k hk).1⟩
  have hb2 := hb1.frm hf2 hne
  obtain ⟨A2, c2, rfl, -, -, hcm2, -⟩ := hr2.shape
  unfold maxLen at hcm2
  have d1 := hb2.cell 1
  have f1 := hb2.frozen 1
  simp at d1
  have H2 := Lib.hid (And.intro hb2 (And.intro hf2 hr2))
  clear hb2 hf2 hr2 hown hg hb1 hf1 hr1' c1
  obtain ⟨L, hL⟩ : ∃ L, (runeCells r).length = L := ⟨_, rfl⟩
  rw [hL] at hk4 ⊢
  have HLn := Lib.hid hL
  clear hL
  go_wp2
  go_ret2
  obtain ⟨hb2, hf2, hr2⟩ := H2.out
  simp only [HLn.out] at hr2 ⊢
  have hne2 := hr2.ne_blk hb2 ne_ub
  have e1 : (n : Int) + (L : Int) - (n : Int) = (L : Int) := by omega
  refine ⟨by simp [e1], _, hb2.set_ 1 _, hr2.far ((Frm.refl (fun k => k = b) w2).setCell (.inl rfl) _) (fun k hk => by rw [hk]; exact hb0) (fun k hk e => hne2 (by rw [hk, e])), ?_⟩
  refine ((H1.out.2.1.mono fun k hk => .inl hk).trans (hf2.mono fun k hk => .inr hk)).trans ((Frm.refl (fun k => k = b ∨ (Value.slice A n c).ownBlock = some k) w2).setCell (.inl (.inl rfl)) _)
end Go.Proofs.Ytnnfgbnnodcepaa
