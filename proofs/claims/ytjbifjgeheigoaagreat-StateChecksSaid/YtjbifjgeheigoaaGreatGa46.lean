/-
  What the law's first program comes to, in plain words.
-/
import Derived.Test.YtjbifjgeheigoaaGreatGa45
import Derived.Test.YtjbifjgeheigoaaGreatGa36
import Derived.Test.YtjbifjgeheigoaaGreatGa33
import Derived.Test.YtjbifjgeheigoaaGreatGa35
section
namespace Go.Proofs.YtjbifjgeheigoaaGreat

def bU : ByteArray := ⟨#[117]⟩
def bT : ByteArray := ⟨#[116]⟩
def bG : ByteArray := ⟨#[103]⟩
def bGo : ByteArray := ⟨#[103, 111]⟩
def lItm : Itm := ⟨5, 1, 7, bG, eS, eS, false, false, [bGo]⟩
def lX : St := ⟨0, [], [⟨1, 0, bU, bT⟩], [lItm], [], 0, 1, 5, 0⟩
def lX1 : St := ⟨0, [], [⟨1, 0, bU, bT⟩], [], [], 0, 1, 0, 0⟩
def lX2 : St := ⟨0, [], [⟨1, 0, bU, bT⟩], [⟨5, 1, 7, bG, eS, eS, false, false, []⟩], [], 0, 1, 5, 0⟩
def lY : St := ⟨0, [], [], [], [], 0, 1, 5, 0⟩
def lZ : St := ⟨0, [], [], [], [], 0, 0, 1, 0⟩
theorem l1 : applyS st0 ⟨3, 1, 0, 0, bU, bT, eS⟩ = (lX1, true) := by decide +kernel
theorem l2 : applyS lX1 ⟨3, 2, 0, 0, bU, bT, eS⟩ = (lX1, false) := by decide +kernel
theorem l3 : applyS lX1 ⟨7, 5, 1, 7, bG, eS, eS⟩ = (lX2, true) := by decide +kernel
theorem l4 : applyS lX2 ⟨10, 5, 0, 1, bGo, eS, eS⟩ = (lX, true) := by decide +kernel
theorem l5 : fits lX ⟨4, 1, 0, 0, eS, eS, eS⟩ = true := by decide +kernel
theorem l6 : applyS lX ⟨4, 1, 0, 0, eS, eS, eS⟩ = (lY, true) := by decide +kernel
theorem l7 : guidS lX 1 bG = 5 := by decide +kernel
theorem l8 : placeS lX bU = 1 := by decide +kernel
theorem l9 : itmAt lX 5 = lItm := by decide +kernel
theorem l10 : isI Itm.id 5 lX.itms = true := by decide +kernel
theorem l11 : stOk lX = true := by decide +kernel
theorem l12 : stOk lZ = false := by decide +kernel
theorem l13 : (pastS lX).length = 6 := by decide +kernel
theorem l14 : (pastS lZ).length = 0 := by decide +kernel
theorem l15 : lX ≠ lY := by decide +kernel
theorem small_of {x : St} (h : decide (x.fols.length ≤ 100 ∧ x.fees.length ≤ 100 ∧ x.itms.length ≤ 100 ∧ x.seas.length ≤ 100) = true) (ht : x.itms.all (fun t => decide (t.tags.length ≤ 100)) = true) : StSmall x := by
  simp only [decide_eq_true_eq] at h
  exact ⟨by omega, by omega, by omega, by omega, fun t hm => by have := List.all_eq_true.1 ht t hm; simp only [decide_eq_true_eq] at this; omega⟩
theorem lX_small : StSmall lX := small_of (by decide +kernel) (by decide +kernel)
theorem lY_small : StSmall lY := small_of (by decide +kernel) (by decide +kernel)
theorem lZ_small : StSmall lZ := small_of (by decide +kernel) (by decide +kernel)
theorem i64_of {l : List Ev} (h : l.all (fun e => decide (-9223372036854775808 ≤ e.a ∧ e.a ≤ 9223372036854775807 ∧ -9223372036854775808 ≤ e.b ∧ e.b ≤ 9223372036854775807)) = true) : ∀ e ∈ l, I64 e.a ∧ I64 e.b := fun e he => by
  have := List.all_eq_true.1 h e he
  simp only [decide_eq_true_eq] at this
  exact ⟨⟨this.1, this.2.1⟩, this.2.2.1, this.2.2.2⟩
theorem lX_i64 : ∀ e ∈ pastS lX, I64 e.a ∧ I64 e.b := i64_of (by decide +kernel)
theorem lZ_i64 : ∀ e ∈ pastS lZ, I64 e.a ∧ I64 e.b := i64_of (by decide +kernel)
end Go.Proofs.YtjbifjgeheigoaaGreat
end
section
set_option linter.unusedVariables false
set_option linter.unusedSimpArgs false
namespace Go.Proofs.YtjbifjgeheigoaaGreat
open Go.RowKit Go.Lib

theorem ap1 {w : World} {g : Nat} {M : Ms} (h : StAt w g M st0) : Calls Tryz.prog 22 #[.pointer (some ⟨g, 0, none⟩), .agg #[.int .i64 3, .int .i64 1, .int .i64 0, .int .i64 0, .string ⟨#[117]⟩, .string ⟨#[116]⟩, .string ⟨#[]⟩]] w fun e w' => e = .returned (.bool true) ∧ StAt w' g M lX1 ∧ Frm (SF g M) w w' := by
  have := Apply_any h ⟨3, 1, 0, 0, ⟨#[117]⟩, ⟨#[116]⟩, ⟨#[]⟩⟩ ⟨by decide, by decide⟩ ⟨by decide, by decide⟩
  rw [show applyS st0 ⟨3, 1, 0, 0, ⟨#[117]⟩, ⟨#[116]⟩, ⟨#[]⟩⟩ = (lX1, true) from l1] at this
  exact this
theorem ap2 {w : World} {g : Nat} {M : Ms} (h : StAt w g M lX1) : Calls Tryz.prog 22 #[.pointer (some ⟨g, 0, none⟩), .agg #[.int .i64 3, .int .i64 2, .int .i64 0, .int .i64 0, .string ⟨#[117]⟩, .string ⟨#[116]⟩, .string ⟨#[]⟩]] w fun e w' => e = .returned (.bool false) ∧ StAt w' g M lX1 ∧ Frm (SF g M) w w' := by
  have := Apply_any h ⟨3, 2, 0, 0, ⟨#[117]⟩, ⟨#[116]⟩, ⟨#[]⟩⟩ ⟨by decide, by decide⟩ ⟨by decide, by decide⟩
  rw [show applyS lX1 ⟨3, 2, 0, 0, ⟨#[117]⟩, ⟨#[116]⟩, ⟨#[]⟩⟩ = (lX1, false) from l2] at this
  exact this
theorem ap3 {w : World} {g : Nat} {M : Ms} (h : StAt w g M lX1) : Calls Tryz.prog 22 #[.pointer (some ⟨g, 0, none⟩), .agg #[.int .i64 7, .int .i64 5, .int .i64 1, .int .i64 7, .string ⟨#[103]⟩, .string ⟨#[]⟩, .string ⟨#[]⟩]] w fun e w' => e = .returned (.bool true) ∧ StAt w' g M lX2 ∧ Frm (SF g M) w w' := by
  have := Apply_any h ⟨7, 5, 1, 7, ⟨#[103]⟩, ⟨#[]⟩, ⟨#[]⟩⟩ ⟨by decide, by decide⟩ ⟨by decide, by decide⟩
  rw [show applyS lX1 ⟨7, 5, 1, 7, ⟨#[103]⟩, ⟨#[]⟩, ⟨#[]⟩⟩ = (lX2, true) from l3] at this
  exact this
theorem ap4 {w : World} {g : Nat} {M : Ms} (h : StAt w g M lX2) : Calls Tryz.prog 22 #[.pointer (some ⟨g, 0, none⟩), .agg #[.int .i64 10, .int .i64 5, .int .i64 0, .int .i64 1, .string ⟨#[103, 111]⟩, .string ⟨#[]⟩, .string ⟨#[]⟩]] w fun e w' => e = .returned (.bool true) ∧ StAt w' g M lX ∧ Frm (SF g M) w w' := by
  have := Apply_any h ⟨10, 5, 0, 1, ⟨#[103, 111]⟩, ⟨#[]⟩, ⟨#[]⟩⟩ ⟨by decide, by decide⟩ ⟨by decide, by decide⟩
  rw [show applyS lX2 ⟨10, 5, 0, 1, ⟨#[103, 111]⟩, ⟨#[]⟩, ⟨#[]⟩⟩ = (lX, true) from l4] at this
  exact this
theorem ap5 {w : World} {g : Nat} {M : Ms} (h : StAt w g M lX) : Calls Tryz.prog 22 #[.pointer (some ⟨g, 0, none⟩), .agg #[.int .i64 4, .int .i64 1, .int .i64 0, .int .i64 0, .string ⟨#[]⟩, .string ⟨#[]⟩, .string ⟨#[]⟩]] w fun e w' => e = .returned (.bool true) ∧ StAt w' g M lY ∧ Frm (SF g M) w w' := by
  have := Apply_any h ⟨4, 1, 0, 0, ⟨#[]⟩, ⟨#[]⟩, ⟨#[]⟩⟩ ⟨by decide, by decide⟩ ⟨by decide, by decide⟩
  rw [show applyS lX ⟨4, 1, 0, 0, ⟨#[]⟩, ⟨#[]⟩, ⟨#[]⟩⟩ = (lY, true) from l6] at this
  exact this
theorem fi5 {w : World} {g : Nat} {M : Ms} (h : StAt w g M lX) : Calls Tryz.prog 21 #[.pointer (some ⟨g, 0, none⟩), .agg #[.int .i64 4, .int .i64 1, .int .i64 0, .int .i64 0, .string ⟨#[]⟩, .string ⟨#[]⟩, .string ⟨#[]⟩]] w fun e w' => e = .returned (.bool true) ∧ Frm Nix w w' := by
  have := Fits_any h ⟨4, 1, 0, 0, ⟨#[]⟩, ⟨#[]⟩, ⟨#[]⟩⟩ ⟨by decide, by decide⟩ ⟨by decide, by decide⟩
  rw [show fits lX ⟨4, 1, 0, 0, ⟨#[]⟩, ⟨#[]⟩, ⟨#[]⟩⟩ = true from l5] at this
  exact this
theorem gu5 {w : World} {g : Nat} {M : Ms} (h : StAt w g M lX) : Calls Tryz.prog 50 #[.pointer (some ⟨g, 0, none⟩), .int .i64 1, .string ⟨#[103]⟩] w fun e w' => e = .returned (.tuple #[.int .i64 5, .bool true]) ∧ w = w' := by
  have := Guid_any h (b := 1) ⟨by decide, by decide⟩ ⟨#[103]⟩ (by decide)
  rw [show guidS lX 1 ⟨#[103]⟩ = 5 from l7] at this
  exact this
theorem pl5 {w : World} {g : Nat} {M : Ms} (h : StAt w g M lX) : Calls Tryz.prog 49 #[.pointer (some ⟨g, 0, none⟩), .string ⟨#[117]⟩] w fun e w' => e = .returned (.tuple #[.int .i64 1, .bool true]) ∧ w = w' := by
  have := Place_any h ⟨#[117]⟩ (by decide)
  rw [show placeS lX ⟨#[117]⟩ = 1 from l8] at this
  exact this
theorem it5 {w : World} {g : Nat} {M : Ms} (h : StAt w g M lX) : Calls Tryz.prog 46 #[.pointer (some ⟨g, 0, none⟩), .int .i64 5] w fun e w' => ∃ v' : Sl, e = .returned (.tuple #[.agg #[.int .i64 5, .int .i64 1, .int .i64 7, .string ⟨#[103]⟩, .string ⟨#[]⟩, .string ⟨#[]⟩, .bool false, .bool false, .slice v'.1 1 v'.2], .bool true]) ∧ SlIn w' (fun k => w.heap.size ≤ k) 1 v' lItm.tags.length (lItm.tags.map Value.string) ∧ Frm Nix w w' := by
  have := Item_any h (i := 5) ⟨by decide, by decide⟩
  rw [l9, l10] at this
  exact this
theorem fr5 (w : World) : Calls Tryz.prog 25 #[.agg #[.int .i64 0, .slice none 0 0, .slice none 0 0, .slice none 0 0, .slice none 0 0, .int .i64 0, .int .i64 0, .int .i64 1, .int .i64 0]] w fun e w' => e = .returned (.tuple #[.pointer none, .int .i64 210]) ∧ Frm Nix w w' :=
  From_no (x := lZ) (fo := (none, 0)) (fe := (none, 0)) (it := (none, 0)) (se := (none, 0)) (ts := []) (G := fun _ => True) ⟨SlIn.none_ _ _ _, SlIn.none_ _ _ _, ⟨SlIn.none_ _ _ _, fun _ h => by cases h⟩, rfl, SlIn.none_ _ _ _⟩ lZ_small (by rw [l14]; omega) lZ_i64 l12
theorem fo5 (w : World) : Calls Tryz.prog 23 #[.slice none 0 0] w fun e w' => ∃ g, e = .returned (.pointer (some ⟨g, 0, none⟩)) ∧ Frm Nix w w' :=
  (Fold_any (v := (none, 0)) (G := fun _ => True) [] (SlIn.none_ _ _ _) (fun _ h => by cases h) (by simp)).mono fun e w' ⟨g, M, q1, q2, q3, q4⟩ => ⟨g, q1, q3⟩
/-- the data that the law's program types. -/
structure LData (w w9 : World) (n : Nat) : Prop where
  frm : Frm Nix w w9
  x : StIn w9 (fun _ => True) (none, 0) (some ⟨n, 0, none⟩, 1) (some ⟨n + 2, 0, none⟩, 1) (none, 0) [((some ⟨n + 1, 0, none⟩, 1), lItm)] lX
  y : StIn w9 (fun _ => True) (none, 0) (none, 0) (none, 0) (none, 0) [] lY
  b8 : Blk w9 (n + 3) 30 #[.int .i64 0, .slice none 0 0, .slice (some ⟨n, 0, none⟩) 1 1, .slice (some ⟨n + 2, 0, none⟩) 1 1, .slice none 0 0, .int .i64 0, .int .i64 1, .int .i64 5, .int .i64 0]
  b9 : Blk w9 (n + 4) 30 #[.int .i64 0, .slice none 0 0, .slice none 0 0, .slice none 0 0, .slice none 0 0, .int .i64 0, .int .i64 1, .int .i64 5, .int .i64 0]
  bi : Blk w9 (n + 2) 63 #[.int .i64 5, .int .i64 1, .int .i64 7, .string ⟨#[103]⟩, .string ⟨#[]⟩, .string ⟨#[]⟩, .bool false, .bool false, .slice (some ⟨n + 1, 0, none⟩) 1 1]
theorem LData.nix {w w9 w2 : World} {n : Nat} (h : LData w w9 n) (hf : Frm Nix w9 w2) : LData w w2 n := ⟨h.frm.trans hf, h.x.nix hf, h.y.nix hf, h.b8.frm hf id, h.b9.frm hf id, h.bi.frm hf id⟩
theorem ldata (w8 : World) : ∃ w9, w9 = ((((w8.alloc (.cells #[.int .i64 1, .int .i64 0, .string ⟨#[117]⟩, .string ⟨#[116]⟩] 60)).alloc (.cells #[.string ⟨#[103, 111]⟩] 9)).alloc (.cells #[.int .i64 5, .int .i64 1, .int .i64 7, .string ⟨#[103]⟩, .string ⟨#[]⟩, .string ⟨#[]⟩, .bool false, .bool false, .slice (some ⟨w8.heap.size + 1, 0, none⟩) 1 1] 63)).alloc (.cells #[.int .i64 0, .slice none 0 0, .slice (some ⟨w8.heap.size, 0, none⟩) 1 1, .slice (some ⟨w8.heap.size + 2, 0, none⟩) 1 1, .slice none 0 0, .int .i64 0, .int .i64 1, .int .i64 5, .int .i64 0] 30)).alloc (.cells #[.int .i64 0, .slice none 0 0, .slice none 0 0, .slice none 0 0, .slice none 0 0, .int .i64 0, .int .i64 1, .int .i64 5, .int .i64 0] 30) ∧ LData w8 w9 w8.heap.size := by
  refine ⟨_, rfl, ?_⟩
  obtain ⟨wa, ha⟩ : ∃ wa, wa = w8.alloc (.cells #[.int .i64 1, .int .i64 0, .string ⟨#[117]⟩, .string ⟨#[116]⟩] 60) := ⟨_, rfl⟩
  have sa : wa.heap.size = w8.heap.size + 1 := by rw [ha]; simp
  have fa : Frm Nix w8 wa := by rw [ha]; exact (Frm.refl Nix w8).alloc _
  have ba : Blk wa w8.heap.size 60 #[.int .i64 1, .int .i64 0, .string ⟨#[117]⟩, .string ⟨#[116]⟩] := by rw [ha]; exact Blk.new _ _ _
  rw [← ha]
  obtain ⟨wb, hb⟩ : ∃ wb, wb = wa.alloc (.cells #[.string ⟨#[103, 111]⟩] 9) := ⟨_, rfl⟩
  have sb : wb.heap.size = w8.heap.size + 2 := by rw [hb]; simp [sa]
  have fb : Frm Nix wa wb := by rw [hb]; exact (Frm.refl Nix wa).alloc _
  have bb : Blk wb (w8.heap.size + 1) 9 #[.string ⟨#[103, 111]⟩] := by rw [← sa, hb]; exact Blk.new _ _ _
  rw [← hb]
  obtain ⟨wc, hc⟩ : ∃ wc, wc = wb.alloc (.cells #[.int .i64 5, .int .i64 1, .int .i64 7, .string ⟨#[103]⟩, .string ⟨#[]⟩, .string ⟨#[]⟩, .bool false, .bool false, .slice (some ⟨w8.heap.size + 1, 0, none⟩) 1 1] 63) := ⟨_, rfl⟩
  have sc : wc.heap.size = w8.heap.size + 3 := by rw [hc]; simp [sb]
  have fc : Frm Nix wb wc := by rw [hc]; exact (Frm.refl Nix wb).alloc _
  have bc : Blk wc (w8.heap.size + 2) 63 #[.int .i64 5, .int .i64 1, .int .i64 7, .string ⟨#[103]⟩, .string ⟨#[]⟩, .string ⟨#[]⟩, .bool false, .bool false, .slice (some ⟨w8.heap.size + 1, 0, none⟩) 1 1] := by rw [← sb, hc]; exact Blk.new _ _ _
  rw [← hc]
  obtain ⟨wd, hd⟩ : ∃ wd, wd = wc.alloc (.cells #[.int .i64 0, .slice none 0 0, .slice (some ⟨w8.heap.size, 0, none⟩) 1 1, .slice (some ⟨w8.heap.size + 2, 0, none⟩) 1 1, .slice none 0 0, .int .i64 0, .int .i64 1, .int .i64 5, .int .i64 0] 30) := ⟨_, rfl⟩
  have sd : wd.heap.size = w8.heap.size + 4 := by rw [hd]; simp [sc]
  have fd : Frm Nix wc wd := by rw [hd]; exact (Frm.refl Nix wc).alloc _
  have bd : Blk wd (w8.heap.size + 3) 30 #[.int .i64 0, .slice none 0 0, .slice (some ⟨w8.heap.size, 0, none⟩) 1 1, .slice (some ⟨w8.heap.size + 2, 0, none⟩) 1 1, .slice none 0 0, .int .i64 0, .int .i64 1, .int .i64 5, .int .i64 0] := by rw [← sc, hd]; exact Blk.new _ _ _
  rw [← hd]
  have fe := (Frm.refl Nix wd).alloc (.cells #[.int .i64 0, .slice none 0 0, .slice none 0 0, .slice none 0 0, .slice none 0 0, .int .i64 0, .int .i64 1, .int .i64 5, .int .i64 0] 30)
  have be : Blk (wd.alloc (.cells #[.int .i64 0, .slice none 0 0, .slice none 0 0, .slice none 0 0, .slice none 0 0, .int .i64 0, .int .i64 1, .int .i64 5, .int .i64 0] 30)) (w8.heap.size + 4) 30 #[.int .i64 0, .slice none 0 0, .slice none 0 0, .slice none 0 0, .slice none 0 0, .int .i64 0, .int .i64 1, .int .i64 5, .int .i64 0] := by rw [← sd]; exact Blk.new _ _ #[.int .i64 0, .slice none 0 0, .slice none 0 0, .slice none 0 0, .slice none 0 0, .int .i64 0, .int .i64 1, .int .i64 5, .int .i64 0]
  generalize wd.alloc (.cells #[.int .i64 0, .slice none 0 0, .slice none 0 0, .slice none 0 0, .slice none 0 0, .int .i64 0, .int .i64 1, .int .i64 5, .int .i64 0] 30) = w9 at fe be ⊢
  have ba9 := ba.frm (((fb.trans fc).trans fd).trans fe) id
  have bb9 := bb.frm ((fc.trans fd).trans fe) id
  have bc9 := bc.frm (fd.trans fe) id
  have mx : ∀ n : Nat, n ≤ 1 → n ≤ maxLen := fun n hn => by unfold maxLen; omega
  exact ⟨(((fa.trans fb).trans fc).trans fd).trans fe, ⟨SlIn.none_ _ _ _, ⟨(Rd.of_obj ba9 1 rfl).mono fun _ _ => trivial, (fun h => by cases h), Nat.le_refl _, mx 1 (Nat.le_refl _)⟩, ⟨⟨(Rd.of_obj bc9 1 rfl).mono fun _ _ => trivial, (fun h => by cases h), Nat.le_refl _, mx 1 (Nat.le_refl _)⟩, fun p hp => by
    simp only [List.mem_singleton] at hp
    subst hp
    exact ⟨(Rd.of_obj bb9 1 rfl).mono fun _ _ => trivial, (fun h => by cases h), Nat.le_refl _, mx 1 (Nat.le_refl _)⟩⟩, rfl, SlIn.none_ _ _ _⟩, ⟨SlIn.none_ _ _ _, SlIn.none_ _ _ _, ⟨SlIn.none_ _ _ _, fun _ h => by cases h⟩, rfl, SlIn.none_ _ _ _⟩, bd.frm fe id, be, bc9⟩
end Go.Proofs.YtjbifjgeheigoaaGreat
end
