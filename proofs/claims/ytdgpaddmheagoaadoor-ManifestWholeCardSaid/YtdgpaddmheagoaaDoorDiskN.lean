/-
  The statements' own short run of a disk ('lives') comes out true, and turns nothing that was there.
-/
import Derived.Test.YtdgpaddmheagoaaDoorDiskL
import Derived.Lib.SlBytesConst
namespace Go.Proofs.YtdgpaddmheagoaaDoor
open Go.RowKit

def sA : ByteArray := ⟨#[97]⟩
def sB : ByteArray := ⟨#[66]⟩
def sb : ByteArray := ⟨#[98]⟩
def sc : ByteArray := ⟨#[99]⟩
def sx : ByteArray := ⟨#[120]⟩
def sz : ByteArray := ⟨#[122]⟩
def dL1 : Dsk := ⟨[⟨sA, [97, 98, 99], 0⟩], 10, -1, false, 1⟩
def dL2 : Dsk := ⟨[⟨sA, [97, 98, 99], 3⟩], 10, -1, false, 2⟩
def dL3 : Dsk := ⟨[⟨sA, [97, 98, 99, 100, 101], 3⟩], 10, -1, false, 3⟩
def dL4 : Dsk := ⟨[⟨sA, [97, 98, 99, 100, 101], 3⟩], 10, 0, false, 3⟩
def dL5 : Dsk := ⟨[⟨sA, [97, 98, 99, 100, 101], 3⟩], 10, 0, true, 3⟩
def dL6 : Dsk := ⟨[⟨sA, [97, 98, 99, 100], 4⟩], 10, -1, false, 3⟩
def dL7 : Dsk := ⟨[⟨sz, [97, 98, 99, 100, 101], 3⟩], 10, -1, false, 4⟩
theorem live1 : (dsk0 10).append sA [97, 98, 99] = (dL1, 0) := by rfl
theorem live2 : dL1.append sB [] = (dL1, 31) := by rfl
theorem live3 : dL1.append sb [0, 0, 0, 0, 0, 0, 0, 0] = (dL1, 2) := by rfl
theorem live4 : dL1.sync sA = (dL2, 0) := by rfl
theorem live5 : dL2.append sA [100, 101] = (dL3, 0) := by rfl
theorem live6 : dL3.stop 0 = (dL4, 0) := by rfl
theorem live7 : dL4.rename sA sc = (dL5, 30) := by rfl
theorem live8 : dL5.crash [1] = dL6 := by rfl
theorem live9 : dL6.read sA = [97, 98, 99, 100] ∧ dL6.there sA = 0 := ⟨rfl, rfl⟩
theorem live10 : dL3.rename sA sz = (dL7, 0) := by rfl
theorem live11 : dL6.delete sx = (dL6, 4) := by rfl

theorem Dk.disj {w : World} {B g : Nat} {D : Dsk} {F F2 F' : Nat → Prop} (h : Dk w B g F D) (hs : ∀ k, F k → ¬ F2 k) (hk : ∀ k, F' k → F2 k ∨ w.heap.size ≤ k) : ∀ k, F k → ¬ F' k := fun k h1 h2 => by
  rcases hk k h2 with h3 | h3
  · exact hs k h1 h3
  · have := (h.lo k h1).2
    omega

/-- a call of a disk that was made behind w0. -/
theorem DkOut.step {w0 w w' : World} {g : Nat} {F : Nat → Prop} {D D' : Dsk} {n : Int} {e : Ending} (h : DkOut w w0.heap.size g F D' n e w') (hd : Dk w w0.heap.size g F D) (hf : Frm Nix w0 w) :
    e = .returned (.int .i64 n) ∧ ∃ F', Dk w' w0.heap.size g F' D' ∧ Frm Nix w0 w' ∧ (∀ k, F' k → F k ∨ w.heap.size ≤ k) ∧ Frm F w w' := by
  obtain ⟨he, F', h1, h2, h3⟩ := h
  exact ⟨he, F', h1, hf.next h2 fun k hk => .inr (hd.lo k hk).1, h3, h2⟩

theorem bvs_lit (l : List UInt8) : bvs l = l.map fun c => Value.int .u8 c.toNat := rfl

end Go.Proofs.YtdgpaddmheagoaaDoor