/-
  The reference's disk: Read, Append.
-/
import Derived.Test.YthhkblogocoeeaaRefF
import Derived.Test.YthhkblogocoeeaaRefD
namespace Go.Proofs.Ythhkblogocoeeaa
open Go.RowKit

/-- bytes that are new since w0. -/
def BytIn (w0 w1 : World) (B : Nat) (v : Value) (n : Nat) (xs : List Value) : Prop :=
  w1.ownsRow B 5 1 v n xs ∧ (∀ k, v.ownBlock = some k → w0.heap.size ≤ k) ∧ Frm Nix w0 w1 ∧ B ≤ w0.heap.size

section
variable {w0 w1 w2 : World} {B : Nat} {v : Value} {n : Nat} {xs : List Value}
theorem BytIn.app (h : BytIn w0 w1 B v n xs) {G : Nat → Prop} {A : Option Addr} {m : Nat} {ys : List Value} (c : Nat) (hr : Rd w1 G 1 A m ys) (h1 : ∀ u ∈ ys, u.oneCell' = true) (hn : n + m ≤ 140737488355328) :
    ∃ v' w2, (∀ ty, (Builtin.append_ #[32, 32] ty #[v, .slice A m c]).run Try.prog w1 = .ok v' w2) ∧ BytIn w0 w2 B v' (n + m) (xs ++ ys) ∧ Frm (fun k => v.ownBlock = some k) w1 w2 := by
  obtain ⟨i0, hi0, hz0, hz1, hz2⟩ := info_parts info_u8
  obtain ⟨v1, w2, hrun, hown, hg, hat⟩ := run_append_any (P := Try.prog) w1 B 32 5 i0 _ 1 1 Try.underlying32 hi0 hz0 hz1 hz2 rfl (by decide) v n xs h.1
    _ A m c ys hr h1 (by unfold maxLen; omega) (by omega) (Nat.le_trans h.2.2.2 h.2.2.1.size)
  refine ⟨v1, w2, hrun, ⟨hown, fun k hk => ?_, h.2.2.1.grown hg (fun k hk => .inr (h.2.1 k hk)), h.2.2.2⟩, (Frm.refl _ w1).grown hg fun k hk => .inl hk⟩
  rcases hat with e | e
  · rw [e] at hk
    exact h.2.1 k hk
  · rw [e] at hk
    injection hk with hk
    have := h.2.2.1.size
    omega
theorem BytIn.drewN (h : BytIn w0 w1 B v n xs) (k : Nat) : BytIn w0 (w1.drewN k) B v n xs := ⟨own_frm h.1 ((Frm.refl Nix w1).drewN k) (fun _ _ => id), h.2.1, h.2.2.1.drewN k, h.2.2.2⟩
theorem BytIn.drew (h : BytIn w0 w1 B v n xs) : BytIn w0 w1.drew B v n xs := ⟨own_frm h.1 (Frm.refl Nix w1).drew (fun _ _ => id), h.2.1, h.2.2.1.drew, h.2.2.2⟩
theorem BytIn.new_ (hB : B ≤ w0.heap.size) (hf : Frm Nix w0 w1) : BytIn w0 (w1.alloc (.cells #[] 5)) B (.slice (some ⟨w1.heap.size, 0, none⟩) 0 0) 0 [] :=
  ⟨⟨rfl, .inr ⟨_, 0, #[], rfl, Nat.le_trans hB hf.size, heap_alloc_new w1 _, Nat.le_refl _, Nat.zero_le _, rfl, rfl⟩⟩, fun k hk => by
    simp [Value.ownBlock] at hk
    have := hf.size
    omega, hf.alloc _, hB⟩
end

set_option maxRecDepth 100000 in
set_option maxHeartbeats 1000000 in
theorem rRead_any {w : World} {B g : Nat} {W F : Nat → Prop} {D : Dsk} (h : RD w B g W F D) (s : ByteArray) :
    Calls Try.prog 32 #[.pointer (some ⟨g, 0, none⟩), .string s] w (ReadOut w (D.read s) (D.there s)) := by
  obtain ⟨A, c, V, h1, h2, h3⟩ := h.at_
  have c3 := h1.blk.cell 3
  simp at c3
  have H1 := Lib.hid h1
  have hB := h.lt
  clear h1 h2 h3 h
  rcases hoff : D.off with _ | _
  · rcases hf : findF s D.L with _ | f
    · have hth : D.there s = 4 := by simp [Dsk.there, hoff, hf]
      have hrd : D.read s = [] := by simp [Dsk.read, hth]
      have hisf : isF s D.L = false := by simp [isF, hf]
      have K := rfind_any H1.out s
      rw [hisf] at K
      rw [hth, hrd]
      rw [hoff] at c3
      clear hth hf hisf hoff hrd
      go_enter Try.func32, Try.ntmps32
      go_wp2_with (go_at_call 44; refine K.mono ?_; rintro e w1 ⟨rfl, n, rfl⟩)
      go_ret2
      exact ⟨_, rfl, World.ownsRow_nil _ _ _ _, (Frm.refl Nix w).drewN _⟩
    · have hth : D.there s = 0 := by simp [Dsk.there, hoff, hf]
      have hrd : D.read s = f.b := by simp [Dsk.read, hth, hf]
      have hisf : isF s D.L = true := by simp [isF, hf]
      have K := rfind_any H1.out s
      rw [hisf] at K
      rw [hth, hrd]
      rw [hoff] at c3
      obtain ⟨p1, -⟩ := posF_some H1.out.ok.sorted hf
      clear hth hf hisf hoff hrd
      generalize posF s D.L = p at *
      obtain ⟨hpl, hpf⟩ := List.getElem?_eq_some_iff.1 p1
      obtain ⟨gr, fA, fc, rfl, ⟨hv, e1, e2⟩, k0, k1, k2, -, -, hown, hbl, hgr, hgB⟩ := H1.out.at_ hpl
      rw [hpf] at e1 e2 k0 k1 k2 hown hbl
      have c0 := H1.out.blk.cell 0
      simp at c0
      have hp0 : (0 : Int) ≤ (p : Int) := Int.natCast_nonneg _
      have hp1 : (p : Int) < (D.L.length : Int) := by omega
      have hone : ∀ u ∈ bvs f.b, u.oneCell' = true := by
        intro u hu
        obtain ⟨x, -, rfl⟩ := List.mem_map.1 hu
        rfl
      have HR : Hid (∀ w1, Frm Nix w w1 → (∃ v' w2, (∀ ty, (Builtin.append_ #[32, 32] ty #[.slice (some ⟨w1.heap.size, 0, none⟩) 0 0, .slice fA f.b.length fc]).run Try.prog (w1.alloc (.cells #[] 5)) = .ok v' w2) ∧ BytIn w w2 w.heap.size v' (0 + f.b.length) ([] ++ bvs f.b) ∧ Frm (fun k => (Value.slice (some ⟨w1.heap.size, 0, none⟩) 0 0).ownBlock = some k) (w1.alloc (.cells #[] 5)) w2) ∧
          w1.cell? ⟨g, 0, none⟩ = some (.slice (some ⟨gr, 0, none⟩) D.L.length c) ∧ w1.cell? ⟨g, 3, none⟩ = some (.bool false) ∧ (w1.alloc (.cells #[] 5)).cell? ⟨g, 0, none⟩ = some (.slice (some ⟨gr, 0, none⟩) D.L.length c) ∧ (w1.alloc (.cells #[] 5)).cell? ⟨gr, p * 3 + 1, none⟩ = some (.slice fA f.b.length fc)) := fun w1 hf =>
        ⟨(BytIn.new_ (B := w.heap.size) (w0 := w) (w1 := w1) (Nat.le_refl _) hf).app fc ((Rd.of_own hown).frm (hf.alloc (.cells #[] 5)) fun _ _ => id) hone (by omega),
          (hf.cell (p := ⟨g, 0, none⟩) H1.out.blk.lt id).trans c0, (hf.cell (p := ⟨g, 3, none⟩) H1.out.blk.lt id).trans c3, ((hf.alloc _).cell (p := ⟨g, 0, none⟩) H1.out.blk.lt id).trans c0, ((hf.alloc _).cell (p := ⟨gr, p * 3 + 1, none⟩) hgr id).trans k1⟩
      clear hown e1 e2 hpf p1 hone c0 c3 k0 k1 k2
      go_enter Try.func32, Try.ntmps32
      go_wp2_with (first | (go_at_call 44; refine K.mono ?_; rintro e w1 ⟨rfl, n, hn⟩; have hfw : Frm Nix w w1 := hn ▸ (Frm.refl Nix w).drewN n; clear hn; obtain ⟨⟨v1, w2, hrun, R1, -⟩, c0, c3, c0', k1⟩ := HR.out w1 hfw) | (at_builtin; refine wpList_append_run hrun rfl _ _ rfl rfl rfl ?_))
      go_ret2
      rw [Nat.zero_add, List.nil_append] at R1
      exact ⟨_, rfl, R1.1, R1.2.2.1⟩
  · have hth : D.there s = 30 := by simp [Dsk.there, hoff]
    have hrd : D.read s = [] := by simp [Dsk.read, hth]
    rw [hth, hrd]
    rw [hoff] at c3
    have K := rfind_any H1.out s
    clear hth hoff hrd
    go_enter Try.func32, Try.ntmps32
    go_wp2_with (go_at_call 44; refine K.mono ?_; rintro e w1 ⟨rfl, n, rfl⟩)
    go_ret2
    exact ⟨_, rfl, World.ownsRow_nil _ _ _ _, (Frm.refl Nix w).drewN _⟩
end Go.Proofs.Ythhkblogocoeeaa
