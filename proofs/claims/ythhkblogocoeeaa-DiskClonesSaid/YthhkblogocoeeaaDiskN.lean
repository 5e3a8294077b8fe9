/-
  The statements' own short run of a disk ('lives') comes out true, and turns nothing that was there.
-/
import Derived.Test.YthhkblogocoeeaaDiskL
import Derived.Lib.SlBytesConst
namespace Go.Proofs.Ythhkblogocoeeaa
open Go.RowKit

def sA : ByteArray := ⟨#[97]⟩
def sB : ByteArray := ⟨#[66]⟩
def sb : ByteArray := ⟨#[98]⟩
def sc : ByteArray := ⟨#[99]⟩
def sx : ByteArray := ⟨#[120]⟩
def sz : ByteArray := ⟨#[122]⟩
def dL1 : Dsk := ⟨[⟨sA, [97, 98, 99], 0⟩], 10, -1, false, 1⟩
def dL2 : Dsk := ⟨[⟨sA, [97, 98, 99], 3⟩], 10, -1, false, 2⟩
def dL3 : Dsk := ⟨[⟨sA, [97, 98, 99, 100, 101], 3⟩], 10, -1, false, 3⟩
def dL4 : Dsk := ⟨[⟨sA, [97, 98, 99, 100, 101], 3⟩], 10, 0, false, 3⟩
def dL5 : Dsk := ⟨[⟨sA, [97, 98, 99, 100, 101], 3⟩], 10, 0, true, 3⟩
def dL6 : Dsk := ⟨[⟨sA, [97, 98, 99, 100], 4⟩], 10, -1, false, 3⟩
def dL7 : Dsk := ⟨[⟨sz, [97, 98, 99, 100, 101], 3⟩], 10, -1, false, 4⟩
theorem live1 : (dsk0 10).append sA [97, 98, 99] = (dL1, 0) := by rfl
theorem live2 : dL1.append sB [] = (dL1, 31) := by rfl
theorem live3 : dL1.append sb [0, 0, 0, 0, 0, 0, 0, 0] = (dL1, 2) := by rfl
theorem live4 : dL1.sync sA = (dL2, 0) := by rfl
theorem live5 : dL2.append sA [100, 101] = (dL3, 0) := by rfl
theorem live6 : dL3.stop 0 = (dL4, 0) := by rfl
theorem live7 : dL4.rename sA sc = (dL5, 30) := by rfl
theorem live8 : dL5.crash [1] = dL6 := by rfl
theorem live9 : dL6.read sA = [97, 98, 99, 100] ∧ dL6.there sA = 0 := ⟨rfl, rfl⟩
theorem live10 : dL3.rename sA sz = (dL7, 0) := by rfl
theorem live11 : dL6.delete sx = (dL6, 4) := by rfl

theorem Dk.disj {w : World} {B g : Nat} {D : Dsk} {F F2 F' : Nat → Prop} (h : Dk w B g F D) (hs : ∀ k, F k → ¬ F2 k) (hk : ∀ k, F' k → F2 k ∨ w.heap.size ≤ k) : ∀ k, F k → ¬ F' k := fun k h1 h2 => by
  rcases hk k h2 with h3 | h3
  · exact hs k h1 h3
  · have := (h.lo k h1).2
    omega

/-- a call of a disk that was made behind w0. -/
theorem DkOut.step {w0 w w' : World} {g : Nat} {F : Nat → Prop} {D D' : Dsk} {n : Int} {e : Ending} (h : DkOut w w0.heap.size g F D' n e w') (hd : Dk w w0.heap.size g F D) (hf : Frm Nix w0 w) :
    e = .returned (.int .i64 n) ∧ ∃ F', Dk w' w0.heap.size g F' D' ∧ Frm Nix w0 w' ∧ (∀ k, F' k → F k ∨ w.heap.size ≤ k) ∧ Frm F w w' := by
  obtain ⟨he, F', h1, h2, h3⟩ := h
  exact ⟨he, F', h1, hf.next h2 fun k hk => .inr (hd.lo k hk).1, h3, h2⟩

theorem bvs_lit (l : List UInt8) : bvs l = l.map fun c => Value.int .u8 c.toNat := rfl

set_option maxRecDepth 100000 in
set_option maxHeartbeats 4000000 in
theorem lives_any (w : World) : Calls Try.prog 10 #[] w fun e w' => e = .returned (.bool true) ∧ Frm Nix w w' := by
  have kc := fun (w : World) (C : Array Value) (n c : Nat) => Lib.run_convert_bytes_const (P := Try.prog) w 32 5 C n c Try.underlying32 Try.underlying5
  have hmk : ∀ w : World, (Instr.makeSlice 32 (.int .i64 8) (.int .i64 8)).run Try.prog w = .ok (.slice (some ⟨w.heap.size, 0, none⟩) 8 8) (w.alloc (.cells #[.int .u8 0, .int .u8 0, .int .u8 0, .int .u8 0, .int .u8 0, .int .u8 0, .int .u8 0, .int .u8 0] 5)) := fun _ => by kernel_rfl
  go_enter Try.func10, Try.ntmps10
  go_wp2_with fail
  refine (New_yes 10 w w.heap.size (Nat.le_refl _) (by omega) (by omega)).mono ?_
  rintro e w1 ⟨g, F1, rfl, hd1, hf1, -⟩
  have H1 : Hid (Dk w1 w.heap.size g F1 (dsk0 10) ∧ Frm Nix w w1) := ⟨hd1, hf1⟩
  clear hd1 hf1
  go_wp2_with fail
  have hfa : Frm Nix w1 (w1.alloc (.cells #[.int .u8 97, .int .u8 98, .int .u8 99] 5 (3, 4))) := (Frm.refl Nix w1).alloc _
  have c1 := Append_any (H1.out.1.nix hfa) sA (by decide) (some ⟨w1.heap.size, 0, none⟩) 3 3 [97, 98, 99] rfl _ (Rd.of_obj (heap_alloc_new w1 _) 3 rfl) (fun k hk hF => by have := (H1.out.1.lo k hF).2; omega) (by decide)
  rw [live1] at c1
  refine c1.mono ?_
  intro e w2 h
  obtain ⟨rfl, F2, hd2, hf2, -, -⟩ := h.step (H1.out.1.nix hfa) (H1.out.2.trans hfa)
  have H2 : Hid (Dk w2 w.heap.size g F2 dL1 ∧ Frm Nix w w2) := ⟨hd2, hf2⟩
  clear hd2 hf2 c1 h hfa H1
  go_wp2_with fail
  have c2 := Append_any H2.out.1 sB (by decide) none 0 0 [] rfl Nix Rd.none_ (fun k hk => absurd hk id) (by decide)
  rw [live2] at c2
  refine c2.mono ?_
  intro e w3 h
  obtain ⟨rfl, F3, hd3, hf3, -, -⟩ := h.step H2.out.1 H2.out.2
  have H3 : Hid (Dk w3 w.heap.size g F3 dL1 ∧ Frm Nix w w3) := ⟨hd3, hf3⟩
  clear hd3 hf3 c2 h H2
  go_wp2_with fail
  have hfa : Frm Nix w3 (w3.alloc (.cells #[.int .u8 0, .int .u8 0, .int .u8 0, .int .u8 0, .int .u8 0, .int .u8 0, .int .u8 0, .int .u8 0] 5)) := (Frm.refl Nix w3).alloc _
  have c3 := Append_any (H3.out.1.nix hfa) sb (by decide) (some ⟨w3.heap.size, 0, none⟩) 8 8 [0, 0, 0, 0, 0, 0, 0, 0] rfl _ (Rd.of_obj (heap_alloc_new w3 _) 8 rfl) (fun k hk hF => by have := (H3.out.1.lo k hF).2; omega) (by decide)
  rw [live3] at c3
  refine c3.mono ?_
  intro e w4 h
  obtain ⟨rfl, F4, hd4, hf4, -, -⟩ := h.step (H3.out.1.nix hfa) (H3.out.2.trans hfa)
  have H4 : Hid (Dk w4 w.heap.size g F4 dL1 ∧ Frm Nix w w4) := ⟨hd4, hf4⟩
  clear hd4 hf4 c3 h hfa H3
  go_wp2_with fail
  have c4 := Sync_any H4.out.1 sA (by decide)
  rw [live4] at c4
  refine c4.mono ?_
  intro e w5 h
  obtain ⟨rfl, F5, hd5, hf5, -, -⟩ := h.step H4.out.1 H4.out.2
  have H5 : Hid (Dk w5 w.heap.size g F5 dL2 ∧ Frm Nix w w5) := ⟨hd5, hf5⟩
  clear hd5 hf5 c4 h H4
  go_wp2_with fail
  have hfa : Frm Nix w5 (w5.alloc (.cells #[.int .u8 100, .int .u8 101] 5 (2, 3))) := (Frm.refl Nix w5).alloc _
  have c5 := Append_any (H5.out.1.nix hfa) sA (by decide) (some ⟨w5.heap.size, 0, none⟩) 2 2 [100, 101] rfl _ (Rd.of_obj (heap_alloc_new w5 _) 2 rfl) (fun k hk hF => by have := (H5.out.1.lo k hF).2; omega) (by decide)
  rw [live5] at c5
  refine c5.mono ?_
  intro e w6 h
  obtain ⟨rfl, F6, hd6, hf6, -, -⟩ := h.step (H5.out.1.nix hfa) (H5.out.2.trans hfa)
  have H6 : Hid (Dk w6 w.heap.size g F6 dL3 ∧ Frm Nix w w6) := ⟨hd6, hf6⟩
  clear hd6 hf6 c5 h hfa H5
  go_wp2_with fail
  refine (Clone_any H6.out.1 (H6.out.2.size)).mono ?_
  rintro e w7 ⟨g2, G7, rfl, hc7, hf7, hn7⟩
  have H7 : Hid (Dk w7 w.heap.size g F6 dL3 ∧ Frm Nix w w7 ∧ Dk w7 w.heap.size g2 G7 dL3 ∧ ∀ k, G7 k → ¬ F6 k) := ⟨H6.out.1.nix hf7, H6.out.2.trans hf7, hc7, fun k h1 h2 => by have := hn7 k h1; have := (H6.out.1.lo k h2).2; omega⟩
  clear hc7 hf7 hn7 H6
  go_wp2_with fail
  have c8 := Stop_any w.heap.size g F6 dL3 0 w7 H7.out.1 (by decide)
  rw [live6] at c8
  refine c8.mono ?_
  rintro e w8 ⟨rfl, hd8, hf8⟩
  have H8 : Hid (Dk w8 w.heap.size g F6 dL4 ∧ Frm Nix w w8 ∧ Dk w8 w.heap.size g2 G7 dL3 ∧ ∀ k, G7 k → ¬ F6 k) := ⟨hd8, H7.out.2.1.next hf8 (fun k hk => .inr (H7.out.1.lo k hk).1), H7.out.2.2.1.frm hf8 H7.out.2.2.2, H7.out.2.2.2⟩
  clear hd8 hf8 c8 H7
  go_wp2_with fail
  have c9 := Rename_any H8.out.1 sA sc (by decide) (by decide)
  rw [live7] at c9
  refine c9.mono ?_
  intro e w9 h
  obtain ⟨rfl, F9, hd9, hf9, hk9, hff9⟩ := h.step H8.out.1 H8.out.2.1
  have H9 : Hid (Dk w9 w.heap.size g F9 dL5 ∧ Frm Nix w w9 ∧ Dk w9 w.heap.size g2 G7 dL3 ∧ ∀ k, G7 k → ¬ F9 k) := ⟨hd9, hf9, H8.out.2.2.1.frm hff9 H8.out.2.2.2, H8.out.2.2.1.disj H8.out.2.2.2 hk9⟩
  clear hd9 hf9 c9 h hk9 hff9 H8
  go_wp2_with fail
  refine (Off_any _ _ _ _ _ H9.out.1).mono ?_
  rintro e w' ⟨rfl, rfl⟩
  rw [show dL5.off = true from rfl]
  go_wp2_with fail
  have hfa : Frm Nix w9 (w9.alloc (.cells #[.int .i64 1] 3)) := (Frm.refl Nix w9).alloc _
  have c10 := Crash_any (H9.out.1.nix hfa) (some ⟨w9.heap.size, 0, none⟩) 1 1 [1] rfl (by decide) _ (Rd.of_obj (heap_alloc_new w9 _) 1 rfl) (fun k hk hF => by have := (H9.out.1.lo k hF).2; omega)
  rw [live8] at c10
  refine c10.mono ?_
  rintro e w10 ⟨rfl, F10, hd10, hff10, hk10⟩
  have H10 : Hid (Dk w10 w.heap.size g F10 dL6 ∧ Frm Nix w w10 ∧ Dk w10 w.heap.size g2 G7 dL3 ∧ ∀ k, G7 k → ¬ F10 k) := ⟨hd10, (H9.out.2.1.trans hfa).next hff10 (fun k hk => .inr (H9.out.1.lo k hk).1), (H9.out.2.2.1.nix hfa).frm hff10 H9.out.2.2.2, (H9.out.2.2.1.nix hfa).disj H9.out.2.2.2 hk10⟩
  clear hd10 c10 hk10 hff10 hfa H9
  go_wp2_with fail
  have c11 := Read_any H10.out.1 sA
  rw [live9.1, live9.2] at c11
  refine c11.mono ?_
  rintro e w11 ⟨v, rfl, hown, hf11⟩
  obtain ⟨Av, cv, rfl, -⟩ := own_shape hown
  have H11 : Hid (Dk w11 w.heap.size g F10 dL6 ∧ Frm Nix w w11 ∧ Dk w11 w.heap.size g2 G7 dL3 ∧ (∀ k, G7 k → ¬ F10 k) ∧ Rd w11 (fun k => w10.heap.size ≤ k ∧ k < w11.heap.size) 1 Av 4 (bvs [97, 98, 99, 100])) := ⟨H10.out.1.nix hf11, H10.out.2.1.trans hf11, H10.out.2.2.1.nix hf11, H10.out.2.2.2, (Rd.of_own hown).mono fun k hk => hown.lt k hk⟩
  have hsz : Hid (∀ k, F10 k ∨ G7 k → k < w10.heap.size) := fun k hk => by
    rcases hk with hk | hk
    · exact (H10.out.1.lo k hk).2
    · exact (H10.out.2.2.1.lo k hk).2
  clear c11 hown hf11 H10
  go_wp2_with fail
  have c12 := Rename_any H11.out.2.2.1 sA sz (by decide) (by decide)
  rw [live10] at c12
  refine c12.mono ?_
  intro e w12 h
  obtain ⟨rfl, G12, hd12, hf12, hk12, hff12⟩ := h.step H11.out.2.2.1 H11.out.2.1
  have H12 : Hid (Dk w12 w.heap.size g F10 dL6 ∧ Frm Nix w w12 ∧ Dk w12 w.heap.size g2 G12 dL7 ∧ ∃ G, Rd w12 G 1 Av 4 (bvs [97, 98, 99, 100])) :=
    ⟨H11.out.1.frm hff12 (fun k h1 h2 => H11.out.2.2.2.1 k h2 h1), hf12, hd12, _, H11.out.2.2.2.2.frm hff12 fun k hk hG => by have := hsz.out k (.inr hG); omega⟩
  clear hd12 hf12 c12 h hk12 hff12 H11 hsz
  go_wp2_with fail
  refine (Names_any H12.out.2.2.1).mono ?_
  rintro e w13 ⟨v, rfl, hown, hf13⟩
  obtain ⟨An, cn, rfl, -⟩ := own_shape hown
  have hlen : dL7.L.length = 1 := rfl
  rw [hlen] at hown
  have hcell := (Rd.of_own hown).at_ (k := 0) (by omega)
  obtain ⟨ad, u, rfl, -, -, hu, hcu⟩ := hcell
  have hu' : u = .string ⟨#[122]⟩ := by
    have : (dL7.L.map fun f => Value.string f.name)[0]? = some (.string sz) := rfl
    rw [this] at hu
    injection hu with hu
    exact hu.symm
  subst hu'
  obtain ⟨G, hrd⟩ := H12.out.2.2.2
  have hstr := run_str_of (c := cv) (hrd.frm hf13 fun _ _ => id)
  have H13 : Hid (Dk w13 w.heap.size g F10 dL6 ∧ Frm Nix w w13 ∧ Dk w13 w.heap.size g2 G12 dL7) := ⟨H12.out.1.nix hf13, H12.out.2.1.trans hf13, H12.out.2.2.1.nix hf13⟩
  clear hu hrd hown hf13 H12
  rw [hlen]
  clear hlen
  go_wp2_with fail
  refine (Off_any _ _ _ _ _ H13.out.1).mono ?_
  rintro e w' ⟨rfl, rfl⟩
  rw [show dL6.off = false from rfl]
  go_wp2_with fail
  refine (Used_any H13.out.1).mono ?_
  rintro e w14 ⟨rfl, hf14⟩
  rw [show usedL dL6.L = 4 from rfl]
  have hcu14 := (hf14.cell (p := ad.add 0) (below_size_of_cell hcu) id).trans hcu
  rw [show ad.add 0 = ad from rfl] at hcu14
  have H14 : Hid (Dk w14 w.heap.size g F10 dL6 ∧ Frm Nix w w14 ∧ Dk w14 w.heap.size g2 G12 dL7) := ⟨H13.out.1.nix hf14, H13.out.2.1.trans hf14, H13.out.2.2.nix hf14⟩
  clear hf14 hcu H13 hstr
  go_wp2_with fail
  refine (Deeds_any _ _ _ _ _ H14.out.2.2).mono ?_
  rintro e w' ⟨rfl, rfl⟩
  rw [show dL7.deeds = 4 from rfl]
  go_wp2_with fail
  refine (Deeds_any _ _ _ _ _ H14.out.1).mono ?_
  rintro e w' ⟨rfl, rfl⟩
  rw [show dL6.deeds = 3 from rfl]
  go_wp2_with fail
  have c15 := Delete_any H14.out.1 sx (by decide)
  rw [live11] at c15
  refine c15.mono ?_
  intro e w15 h
  obtain ⟨rfl, F15, -, hf15, -, -⟩ := h.step H14.out.1 H14.out.2.1
  go_wp2
  go_ret
  exact ⟨rfl, hf15⟩
end Go.Proofs.Ythhkblogocoeeaa
