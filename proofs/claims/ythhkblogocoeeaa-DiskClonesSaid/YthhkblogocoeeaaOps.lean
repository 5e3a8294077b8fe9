/-
  Calls that lie in a row of the caller's, and the loops over them: what holds at their heads. No condition.
-/
import Derived.Test.YthhkblogocoeeaaLarge
import Derived.Test.YthhkblogocoeeaaDo2
import Derived.Test.YthhkblogocoeeaaAlike
set_option linter.unusedVariables false
set_option linter.unusedSimpArgs false
namespace Go.Proofs.Ythhkblogocoeeaa
open Go.RowKit

theorem spot_none {w : World} {a : Addr} {v : Value} (h : w.cell? a = some v) : a.spot = none := by
  unfold World.cell? at h
  split at h
  · split at h
    · cases h
    · rename_i hs
      simpa using hs
  · cases h
theorem add_block (b off n : Nat) : (⟨b, off, none⟩ : Addr).add n = ⟨b, off + n, none⟩ := by
  unfold Addr.add
  split
  · rename_i h; rw [h]; rfl
  · rfl

/-- the row of calls, its head's place. -/
theorem rd_ops {w : World} {G : Nat → Prop} {A : Option Addr} {n : Nat} {l : List OpV} (h : Rd w G 6 A n (l.flatMap OpV.cells)) (hl : l.length = n) (hn : 0 < n) :
    ∃ b off, A = some ⟨b, off, none⟩ ∧ G b ∧ b < w.heap.size ∧ ∀ (i : Nat) (hi : i < l.length) (j : Nat) (u : Value), l[i].cells[j]? = some u → w.cell? ⟨b, off + i * 6 + j, none⟩ = some u := by
  obtain ⟨⟨b, off, sp⟩, rfl, h1, h2, h3⟩ := h.2 hn
  have h0 := h3 0 (.int .i64 (l[0]'(by omega)).kind) (by
    have := ops_at l 0 (by omega) 0 (by decide)
    simp only [Nat.zero_mul, Nat.add_zero] at this
    rw [this]
    rfl)
  have e : sp = none := by
    have := spot_none h0
    simpa [Addr.add] using this
  subst e
  refine ⟨b, off, rfl, h1, h2, fun i hi j u hu => ?_⟩
  have hj : j < 6 := by
    have := (List.getElem?_eq_some_iff.1 hu).1
    simpa [OpV.cells] using this
  have := h3 (i * 6 + j) u (by rw [ops_at l i hi j hj, hu])
  rw [add_block, ← Nat.add_assoc] at this
  exact this

/-- two disks of the law's own, behind calls: wl: the world that the law came into; w0: the world of which they turn nothing. -/
structure Two (wl w0 : World) (g g' k : Nat) (D : Dsk) (w : World) : Prop where
  at_ : ∃ F W F', Pair w wl.heap.size g F wl.heap.size g' W F' D ∧ (∀ k, F k → w0.heap.size ≤ k) ∧ ∀ k, W k → w0.heap.size ≤ k
  old : Frm Nix wl w0
  frm : Frm Nix w0 w
  deeds : D.deeds ≤ k
section
variable {wl w0 w w1 : World} {g g' k : Nat} {D D' : Dsk} {F W F' : Nat → Prop}
theorem Two.nix (h : Two wl w0 g g' k D w) (hf : Frm Nix w w1) : Two wl w0 g g' k D w1 := by
  obtain ⟨F, W, F', hp, h1, h2⟩ := h.at_
  exact ⟨⟨F, W, F', hp.nix hf, h1, h2⟩, h.old, h.frm.trans hf, h.deeds⟩
theorem Two.all (h : Two wl w0 g g' k D w) : Frm Nix wl w := h.old.trans h.frm
theorem Two.go (hp : Pair w wl.heap.size g F wl.heap.size g' W F' D) (hF : ∀ k, F k → w0.heap.size ≤ k) (hW : ∀ k, W k → w0.heap.size ≤ k) (ho : Frm Nix wl w0) (hf : Frm Nix w0 w) (h : PairGo w wl.heap.size g F wl.heap.size g' W F' D' w1) (hd : D'.deeds ≤ k) : Two wl w0 g g' k D' w1 := by
  obtain ⟨F1, W1, F1', h1, h2, n1, n2, -⟩ := h
  have hs := hf.size
  refine ⟨⟨F1, W1, F1', h1, fun i hi => ?_, fun i hi => ?_⟩, ho, hf.next h2 (fun i hi => .inr ?_), hd⟩
  · rcases n1 i hi with e | e
    · exact hF i e
    · omega
  · rcases n2 i hi with e | e
    · exact hW i e
    · omega
  · rcases hi with hi | hi
    · exact hF i hi
    · exact hW i hi
/-- the new disks. -/
theorem Two.new {wa wb wc : World} (h : Dk wa wl.heap.size g F D) (hF : Frm Nix wl wa) (hx : RD wb wl.heap.size g' W F' D) (hn : Frm Nix wa wb) (hk : ∀ k, F' k → wa.heap.size ≤ k) (hd : D.deeds = 0) (hc : Frm Nix wb wc) : Two wl wl g g' 0 D wc :=
  ⟨⟨F, W, F', ⟨(h.nix hn).nix hc, hx.nix hc, fun k h1 h2 => by have := (h.lo k h1).2; have := hk k h2; omega⟩, fun k hk => (h.lo k hk).1, fun k hk => (hx.lo k (hx.wf k hk)).1⟩, Frm.refl _ _, (hF.trans hn).trans hc, by omega⟩
/-- clones. -/
theorem Two.clone {wb w2 : World} {g2 g2' : Nat} {F2 W2 F2' : Nat → Prop} (h : Two wl w0 g g' k D wb) (hp : Pair wb wl.heap.size g F wl.heap.size g' W F' D) (h1 : Dk w1 wl.heap.size g2 F2 D) (f1 : Frm Nix wb w1) (n1 : ∀ k, F2 k → wb.heap.size ≤ k) (h2 : RD w2 wl.heap.size g2' W2 F2' D) (f2 : Frm Nix w1 w2) (n2 : ∀ k, W2 k → w1.heap.size ≤ k) (n3 : ∀ k, F2' k → F' k ∨ w1.heap.size ≤ k) :
    Two wl wb g2 g2' k D w2 := by
  have hs := f1.size
  refine ⟨⟨F2, W2, F2', ⟨h1.nix f2, h2, fun i hi hj => ?_⟩, n1, fun i hi => by have := n2 i hi; omega⟩, h.all, f1.trans f2, h.deeds⟩
  have := (h1.lo i hi).2
  have := n1 i hi
  rcases n3 i hj with e | e
  · have := (hp.x.lo i e).2
    omega
  · omega
end
theorem RDk.rd {w : World} {B g : Nat} {F : Nat → Prop} {D : Dsk} (h : RDk w B g F D) (hD : D.L = []) : RD w B g F F D := by
  have hlo := h.lo
  obtain ⟨A, c, V, h1, rfl⟩ := h
  have hV : V = [] := List.eq_nil_of_length_eq_zero (by rw [h1.len, hD]; rfl)
  exact ⟨⟨A, c, V, h1, fun _ hk => hk, fun r hr => by rw [hV] at hr; cases hr⟩, fun _ hk => hk, hlo⟩

theorem OpV.Ok.small {W : World} {l : List OpV} (h : largeB l = false) {o : OpV} (ho : o ∈ l) : o.dn ≤ 1000 := by
  unfold largeB at h
  rw [Bool.or_eq_false_iff] at h
  have := List.any_eq_false.1 h.2 o ho
  simp [OpV.big] at this
  omega
theorem large_len {l : List OpV} (h : largeB l = false) : l.length ≤ 150 := by
  unfold largeB at h
  rw [Bool.or_eq_false_iff] at h
  simpa using h.1

/-- ONE CALL OF BOTH, out of the row. -/
theorem Two.call {wl w0 w : World} {g g' k : Nat} {D : Dsk} (h : Two wl w0 g g' k D w) (o : OpV) (ho : o.Ok wl) (hs : o.dn ≤ 1000) (hk : k < 1000000) :
    Calls Try.prog 12 #[.pointer (some ⟨g, 0, none⟩), .pointer (some ⟨g', 0, none⟩), .agg o.cells.toArray] w fun e w' => e = .returned (.bool true) ∧ Two wl w0 g g' (k + 1) (D.op o) w' := by
  obtain ⟨F, W, F', hp, hF, hW⟩ := h.at_
  refine (Do_any (G := OldB wl) hp o ho.a ho.b ho.n.2 ho.dl (ho.dr.frm h.all fun _ _ => id) hs ho.kl (ho.kr.frm h.all fun _ _ => id) ho.km (fun k hk => ⟨fun hF => ?_, fun hF => ?_⟩) (by have := h.deeds; omega)).mono ?_
  · have := (hp.d.lo k hF).1
    unfold OldB at hk
    omega
  · have := (hp.x.lo k hF).1
    unfold OldB at hk
    omega
  · rintro e w' ⟨rfl, hgo⟩
    exact ⟨rfl, Two.go hp hF hW h.old h.frm hgo (by have := op_deeds D o; have := h.deeds; omega)⟩
theorem Two.alike {wl w0 w : World} {g g' k : Nat} {D : Dsk} (h : Two wl w0 g g' k D w) :
    Calls Try.prog 13 #[.pointer (some ⟨g, 0, none⟩), .pointer (some ⟨g', 0, none⟩)] w fun e w' => e = .returned (.bool true) ∧ Frm Nix w w' := by
  obtain ⟨F, W, F', hp, -⟩ := h.at_
  exact Alike_any hp
end Go.Proofs.Ythhkblogocoeeaa
