/-
  Rows that a call has made since it came into world w0: what append makes of them. Over any program; no condition.
-/
import Derived.Test.YtdgpaddmheagoaaGreatDoorBase
namespace Go.Proofs.YtdgpaddmheagoaaGreatDoor
open Go.RowKit

/-- v is a row of elements of type e that is new since w0, and holds xs; nothing of w0 has turned. -/
structure RowIn (e : TypeId) (w0 w1 : World) (v : Value) (n : Nat) (xs : List Value) : Prop where
  own : w1.ownsRow w0.heap.size e 1 v n xs
  frm : Frm Nix w0 w1

section
variable {P : Program} {e : TypeId} {w0 w1 w2 : World} {v : Value} {n : Nat} {xs : List Value}
theorem RowIn.nil_ (e : TypeId) (h : Frm Nix w0 w1) : RowIn e w0 w1 (.slice none 0 0) 0 [] := ⟨World.ownsRow_nil _ _ _ _, h⟩
theorem RowIn.empty (e : TypeId) (h : Frm Nix w0 w1) : RowIn e w0 (w1.alloc (.cells #[] e)) (.slice (some ⟨w1.heap.size, 0, none⟩) 0 0) 0 [] :=
  ⟨⟨rfl, .inr ⟨_, 0, #[], rfl, h.size, heap_alloc_new w1 _, Nat.le_refl _, Nat.zero_le _, rfl, rfl⟩⟩, h.alloc _⟩
theorem RowIn.lit (e : TypeId) (h : Frm Nix w0 w1) (xs : List Value) (hx : xs.length ≤ maxLen) : RowIn e w0 (w1.alloc (.cells xs.toArray e)) (.slice (some ⟨w1.heap.size, 0, none⟩) xs.length xs.length) xs.length xs :=
  ⟨⟨by simp, .inr ⟨_, xs.length, xs.toArray, rfl, h.size, heap_alloc_new w1 _, Nat.le_refl _, hx, by simp, by simp⟩⟩, h.alloc _⟩
theorem RowIn.more (h : RowIn e w0 w1 v n xs) (hf : Frm Nix w1 w2) : RowIn e w0 w2 v n xs := ⟨own_frm h.own hf fun _ _ => id, h.frm.trans hf⟩
theorem RowIn.far {F : Nat → Prop} (h : RowIn e w0 w1 v n xs) (hf : Frm F w1 w2) (hF : ∀ k, F k → w0.heap.size ≤ k) (hd : ∀ k, v.ownBlock = some k → ¬ F k) : RowIn e w0 w2 v n xs :=
  ⟨own_frm h.own hf hd, h.frm.next hf fun k hk => .inr (hF k hk)⟩
theorem RowIn.shape (h : RowIn e w0 w1 v n xs) : ∃ A c, v = .slice A n c ∧ (A = none → c = 0) ∧ n ≤ c ∧ c ≤ maxLen ∧ (∀ a, A = some a → a.off = 0 ∧ a.spot = none ∧ w0.heap.size ≤ a.block ∧ a.block < w1.heap.size) := own_shape h.own
theorem RowIn.rd {A : Option Addr} {c : Nat} (h : RowIn e w0 w1 (.slice A n c) n xs) : Rd w1 (fun k => (Value.slice A n c).ownBlock = some k) 1 A n xs := Rd.of_own h.own
theorem RowIn.len (h : RowIn e w0 w1 v n xs) : xs.length = n := by have := h.own.1; omega
theorem RowIn.since {wb : World} (h : RowIn e w1 w2 v n xs) (hf : Frm Nix wb w1) : RowIn e wb w2 v n xs :=
  ⟨own_base h.own fun k hk => by have := (h.own.lt k hk).1; have := hf.size; omega, hf.trans h.frm⟩

theorem RowIn.ne_obj (h : RowIn e w0 w1 v n xs) {k : Nat} {o : Obj} (ho : w1.heap[k]? = some o) (hne : ∀ c t f, o ≠ .cells c t f) : v.ownBlock ≠ some k := by
  rcases h.own.2 with ⟨rfl, _⟩ | ⟨g, cap, cur, rfl, _, hh, _⟩
  · simp [Value.ownBlock]
  · intro he
    have : g = k := by simpa [Value.ownBlock] using he
    subst this
    rw [hh] at ho
    injection ho with ho
    exact hne _ _ _ ho.symm
theorem RowIn.ne_blk (h : RowIn e w0 w1 v n xs) {g : Nat} {t : TypeId} {cs : Array Value} (hg : Blk w1 g t cs) (hne : e ≠ t) : v.ownBlock ≠ some g := own_blk_ne h.own hg hne

/-- what the type of an element tells. -/
structure ElemOk (P : Program) (t e : TypeId) (bytes : Nat) : Prop where
  t : P.underlying t = some (.slice e)
  i : ∃ z : Value, (P.info? e).map (fun i => (i.zero, i.size, i.bytes)) = some (some z, 1, bytes) ∧ z.cells.size = 1

/-- 'append(v, x...)'. -/
theorem RowIn.app {t : TypeId} {bytes : Nat} (E : ElemOk P t e bytes) (h : RowIn e w0 w1 v n xs) {G : Nat → Prop} {A : Option Addr} {m : Nat} {ys : List Value} (c : Nat) (hr : Rd w1 G 1 A m ys) (h1 : ∀ u ∈ ys, u.oneCell' = true)
    (hn : n + m ≤ maxLen) (hb : (n + m) * bytes ≤ 140737488355328) :
    ∃ v' w2, (∀ ty, (Builtin.append_ #[t, t] ty #[v, .slice A m c]).run P w1 = .ok v' w2) ∧ RowIn e w0 w2 v' (n + m) (xs ++ ys) ∧ Frm (fun k => v.ownBlock = some k) w1 w2 ∧ (v'.ownBlock = v.ownBlock ∨ v'.ownBlock = some w1.heap.size) := by
  obtain ⟨z, hi, hzs⟩ := E.i
  obtain ⟨i0, hi0, hz0, hz1, hz2⟩ := info_parts hi
  obtain ⟨v1, w2, hrun, hown, hg, hat⟩ := run_append_any (P := P) w1 w0.heap.size t e i0 z 1 bytes E.t hi0 hz0 hz1 hz2 hzs (by decide) v n xs h.own _ A m c ys hr h1 hn hb h.frm.size
  exact ⟨v1, w2, hrun, ⟨hown, h.frm.grown hg fun k hk => .inr (h.own.lt k hk).1⟩, (Frm.refl _ w1).grown hg fun k hk => .inl hk, hat⟩
/-- 'append(v, x)'. -/
theorem RowIn.push {t : TypeId} {bytes : Nat} (E : ElemOk P t e bytes) (h : RowIn e w0 w1 v n xs) (x : Value) (h1 : x.oneCell' = true) (hn : n + 1 ≤ maxLen) (hb : (n + 1) * bytes ≤ 140737488355328) :
    ∃ v' w2, (∀ ty, (Builtin.append_ #[t, t] ty #[v, .slice (some ⟨w1.heap.size, 0, none⟩) 1 1]).run P (w1.alloc (.cells #[x] e)) = .ok v' w2) ∧ RowIn e w0 w2 v' (n + 1) (xs ++ [x]) ∧ Frm (fun k => v.ownBlock = some k) (w1.alloc (.cells #[x] e)) w2 ∧ (v'.ownBlock = v.ownBlock ∨ v'.ownBlock = some (w1.heap.size + 1)) := by
  obtain ⟨v', w2, r, h2, h3, h4⟩ := (h.more ((Frm.refl Nix w1).alloc (.cells #[x] e))).app E (ys := [x]) 1 (Rd.of_obj (heap_alloc_new w1 (.cells #[x] e)) 1 rfl) (fun u hu => by simp at hu; subst hu; exact h1) hn hb
  exact ⟨v', w2, r, h2, h3, by simpa using h4⟩
/-- a cell of the row is turned. -/
theorem RowIn.set_ {A : Option Addr} {c : Nat} (h : RowIn e w0 w1 (.slice A n c) n xs) (i : Nat) (hi : i < n) (u : Value) :
    ∃ g, A = some ⟨g, 0, none⟩ ∧ w1.cell? ⟨g, i, none⟩ = xs[i]? ∧ w1.frozen? ⟨g, i, none⟩ = false ∧ RowIn e w0 (w1.setCell ⟨g, i, none⟩ u) (.slice A n c) n (xs.set i u) ∧ w0.heap.size ≤ g ∧ g < w1.heap.size := by
  have hl := h.len
  rcases h.own.2 with ⟨hv, hn⟩ | ⟨g, cap, cur, hv, hg, hh, hnc, hm, hs, ht⟩
  · injection hv with e1 e2 e3
    omega
  · injection hv with e1 e2 e3
    subst e1
    subst e3
    have hb : Blk w1 g e cur := hh
    have hci : i < cur.size := by omega
    have hx : cur[i]? = xs[i]? := by
      rw [← ht, List.getElem?_take, if_pos (by omega)]
      simp
    refine ⟨g, rfl, by rw [hb.cell, hx], hb.frozen i, ⟨⟨by rw [List.length_set]; exact h.own.1, .inr ⟨g, c, cur.setIfInBounds i u, rfl, hg, hb.set_ i u, hnc, hm, by rw [Array.size_setIfInBounds]; exact hs, ?_⟩⟩, h.frm.setCell (.inr hg) u⟩, hg, hb.lt⟩
    rw [← ht, Array.toList_setIfInBounds, List.take_set]
end
end Go.Proofs.YtdgpaddmheagoaaGreatDoor
