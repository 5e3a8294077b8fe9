/-
  Contracts: Fold.
-/
import Derived.Test.YtjbifjgeheigoaaGreatGa31
import Derived.Test.YtjbifjgeheigoaaGreatGa14
set_option linter.unusedVariables false
set_option linter.unusedSimpArgs false
namespace Go.Proofs.YtjbifjgeheigoaaGreat
open Go.RowKit Go.Lib

theorem evc7 {w : World} {b off : Nat} {e : Ev} (h : ∀ (j : Nat) (u : Value), e.cells[j]? = some u → w.cell? ⟨b, off + j, none⟩ = some u) :
    w.cell? ⟨b, off, none⟩ = some (.int .i64 e.kind) ∧ w.cell? ⟨b, off + 1, none⟩ = some (.int .i64 e.a) ∧ w.cell? ⟨b, off + 2, none⟩ = some (.int .i64 e.b) ∧ w.cell? ⟨b, off + 3, none⟩ = some (.int .i64 e.n) ∧ w.cell? ⟨b, off + 4, none⟩ = some (.string e.s) ∧ w.cell? ⟨b, off + 5, none⟩ = some (.string e.t) ∧ w.cell? ⟨b, off + 6, none⟩ = some (.string e.u) :=
  ⟨h 0 _ rfl, h 1 _ rfl, h 2 _ rfl, h 3 _ rfl, h 4 _ rfl, h 5 _ rfl, h 6 _ rfl⟩
theorem foldE_take {x : St} {l : List Ev} {k : Nat} (h : k < l.length) : foldE x (l.take (k + 1)) = (applyS (foldE x (l.take k)) l[k]).1 := by
  unfold foldE
  rw [List.take_succ_eq_append_getElem h, List.foldl_append]
  rfl
/-- a state of one's own, what was there as it was. -/
theorem frm_own {w wr w2 : World} {g : Nat} {M : Ms} (h : Frm Nix w wr) (hf : Frm (SF g M) wr w2) (hn : ∀ k, SF g M k → w.heap.size ≤ k) : Frm Nix w w2 := h.next hf fun k hk => .inr (hn k hk)

set_option maxRecDepth 100000 in
set_option maxHeartbeats 8000000 in
theorem Fold_any {w : World} {v : Sl} {G : Nat → Prop} (l : List Ev) (hv : SlIn w G 7 v l.length (l.flatMap Ev.cells)) (hI : ∀ e ∈ l, I64 e.a ∧ I64 e.b) (hn : l.length ≤ 1000000) :
    Calls Tryz.prog 23 #[.slice v.1 l.length v.2] w fun e w' => ∃ g M, e = .returned (.pointer (some ⟨g, 0, none⟩)) ∧ StAt w' g M (foldE st0 l) ∧ Frm Nix w w' ∧ ∀ k, SF g M k → w.heap.size ≤ k := by
  obtain ⟨Av, cv⟩ := v
  dsimp only
  obtain ⟨n, hln⟩ : ∃ n, l.length = n := ⟨_, rfl⟩
  have HL := Lib.hid hln
  have HV := Lib.hid hv
  have HI := Lib.hid hI
  have KN := Lib.hid (New_any w)
  rw [hln] at hn ⊢
  clear hv hln hI
  go_enter Tryz.func23, Tryz.ntmps23
  go_wp2_with (go_at_call 15; refine KN.out.mono ?_; rintro e w1 ⟨g, M, rfl, hs, hf, hg⟩; have HS := Lib.hid hs; have HF := Lib.hid hf; have HG := Lib.hid hg; clear hs hf hg)
  go_loopw [9] (fun kv wr => ∃ k : Nat, k ≤ n ∧ kv = .int .i64 k ∧ StAt wr g M (foldE st0 (l.take k)) ∧ Frm Nix w wr) (fun kv _ => n - (intOf kv).toNat)
  case atStart => exact ⟨0, by omega, rfl, HS.out, HF.out⟩
  case round =>
    obtain ⟨k, hk, rfl, hs, hf⟩ := hrel
    have HS2 := Lib.hid hs
    have HF2 := Lib.hid hf
    clear hs hf
    by_cases hlt : k < n
    · have hkl : k < l.length := by rw [HL.out]; exact hlt
      obtain ⟨b, off, hA, -, hbl, hcell⟩ := (HV.out.nix HF2.out).at_ Ev.clen (by decide) (by omega)
      dsimp only at hA
      subst hA
      have h7 := evc7 (w := wr) (b := b) (off := off + k * 7) (e := l[k]) (hcell k hkl)
      have hie := HI.out l[k] (List.getElem_mem hkl)
      have HFT := Lib.hid (foldE_take (x := st0) hkl)
      obtain ⟨ev, hev⟩ : ∃ ev, l[k] = ev := ⟨_, rfl⟩
      rw [hev] at h7 hie HFT
      obtain ⟨x0, x1, x2, x3, x4, x5, x6⟩ := h7
      have KA : Hid (Calls Tryz.prog 22 #[.pointer (some ⟨g, 0, none⟩), .agg #[.int .i64 ev.kind, .int .i64 ev.a, .int .i64 ev.b, .int .i64 ev.n, .string ev.s, .string ev.t, .string ev.u]] (wr.alloc (.cells #[.int .i64 ev.kind, .int .i64 ev.a, .int .i64 ev.b, .int .i64 ev.n, .string ev.s, .string ev.t, .string ev.u] 38)) fun r w' => r = .returned (.bool (applyS (foldE st0 (l.take k)) ev).2) ∧ StAt w' g M (foldE st0 (l.take (k + 1))) ∧ Frm Nix w w') :=
        (Apply_any (HS2.out.nix ((Frm.refl Nix wr).alloc _)) ev hie.1 hie.2).mono fun r w' ⟨h1, h2, h3⟩ => ⟨h1, by rw [HFT.out]; exact h2, frm_own (HF2.out.alloc _) h3 HG.out⟩
      clear hcell hev hie
      generalize (applyS (foldE st0 (l.take k)) ev).2 = bb at *
      go_wp2_with (go_at_call 22; refine KA.out.mono ?_; rintro r w2 ⟨rfl, hs2, hf2⟩; have HS3 := Lib.hid hs2; have HF3 := Lib.hid hf2; clear hs2 hf2)
      go_roundw
      case rel => exact ⟨k + 1, by omega, by go_num, HS3.out, HF3.out⟩
      case measure => simp [intOf]; omega
    · obtain rfl : k = n := by omega
      have HTk : Hid (l.take k = l) := List.take_of_length_le (by rw [HL.out]; exact Nat.le_refl _)
      have hs := HS2.out
      rw [HTk.out] at hs
      have HS4 := Lib.hid hs
      clear hs
      go_wp2
      go_ret
      exact ⟨g, M, rfl, HS4.out, HF2.out, HG.out⟩
end Go.Proofs.YtjbifjgeheigoaaGreat
