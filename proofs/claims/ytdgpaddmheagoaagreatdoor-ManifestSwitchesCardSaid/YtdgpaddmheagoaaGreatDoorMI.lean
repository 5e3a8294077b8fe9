/-
  Contract: what must come of every program of the manifest layer (the law's own first run).
-/
import Derived.Test.YtdgpaddmheagoaaGreatDoorMH
import Derived.Deep.RegionHeld3
namespace Go.Proofs.YtdgpaddmheagoaaGreatDoor
open Go.RowKit
set_option linter.unusedVariables false
set_option linter.unusedSimpArgs false

def mL : Man := ⟨1, 0, [1]⟩
def dL : Dsk := (swDsk (dsk0 1000) (manPut mL)).1
theorem mL_ok : manOk mL = true := by kernel_rfl
theorem mL_put : manPut mL = sealB [2, 0, 2, 2] := by kernel_rfl
theorem mL_more : manGet (manPut mL ++ [0]) = none := by kernel_rfl
theorem mL_sw : (swDsk (dsk0 1000) (manPut mL)).2 = 0 := by kernel_rfl
theorem mL_rd0 : rdDsk (dsk0 1000) = (⟨0, 0, []⟩, 4) := by kernel_rfl
theorem mL_rd : rdDsk dL = (mL, 0) := by kernel_rfl
theorem mZ_no : manOk ⟨0, 0, []⟩ = false := by kernel_rfl

/-- a call of a Go function, at a step of a region that draws its order, where it is wanted. -/
theorem step_go_w {P : Program} {ops : Array Oper} {o : Oper} {a : Act} {K : Act → World → Prop} {Q : Exit → Act → World → Prop} {E : Prop} {w : World} (hw : Region.wanted o (yielded ops a.tmps) = true) {f : FuncId} (args : Array Operand) (ts : Array TypeId)
    (ho : o.op = .call { callee := .value (.func f), args := args, argTypes := ts }) {vals : Array Value} (hv : args.toList.map a.eval = vals.toList) (hf : ∀ w, (callFunc f vals).run P w = .ok (.enter f vals) w) {R : Ending → World → Prop} (hc : Calls P f vals w R)
    (h : ∀ e w', R e w' → ∃ v, e = .returned v ∧ K (a.put o.dst v) w') : if Region.wanted o (yielded ops a.tmps) = true then Oper.wp P o a w K Q else E := by
  rw [if_pos hw]
  unfold Oper.wp
  have hx : (execOp a.eval o).run P w = .ok (.enter f vals) w := by
    have hv' : args.map a.eval = vals := Array.ext' (by rw [Array.toList_map]; exact hv)
    subst hv'
    simp only [execOp, ho, resolve, invoke, Sem.run_bind]
    simp [Deferred.ofValue, Act.eval, hf]
  rw [hx]
  simp only [Oper.upon]
  exact hc.mono fun e w' hr => by
    obtain ⟨v, rfl, hk⟩ := h e w' hr
    exact hk
theorem callSealR (vals : Array Value) (w : World) : (callFunc 18 vals).run Tryz.prog w = .ok (.enter 18 vals) w := by kernel_rfl
theorem callSameR (vals : Array Value) (w : World) : (callFunc 14 vals).run Tryz.prog w = .ok (.enter 14 vals) w := by kernel_rfl
theorem callSame (vals : Array Value) (w : World) : (callFunc 19 vals).run Tryz.prog w = .ok (.enter 19 vals) w := by kernel_rfl
theorem callCheck (vals : Array Value) (w : World) : (callFunc 20 vals).run Tryz.prog w = .ok (.enter 20 vals) w := by kernel_rfl

/-- 'append(v, x)' leaves what v holds. -/
theorem push_keep {P : Program} {t e : TypeId} {bytes : Nat} (E : ElemOk P t e bytes) {w0 w1 : World} {A : Option Addr} {n c : Nat} {xs : List Value} (h : RowIn e w0 w1 (.slice A n c) n xs) (hn0 : 0 < n) (x : Value) (h1 : x.oneCell' = true) (hn : n + 1 ≤ maxLen) (hb : (n + 1) * bytes ≤ 140737488355328) :
    ∃ v' w2, (∀ ty, (Builtin.append_ #[t, t] ty #[.slice A n c, .slice (some ⟨w1.heap.size, 0, none⟩) 1 1]).run P (w1.alloc (.cells #[x] e)) = .ok v' w2) ∧ RowIn e w0 w2 v' (n + 1) (xs ++ [x]) ∧ Rd w2 (fun _ => True) 1 A n xs ∧ Frm (fun k => (Value.slice A n c).ownBlock = some k) (w1.alloc (.cells #[x] e)) w2 := by
  obtain ⟨v', w2, hrun, hrow, hf, hat⟩ := h.push E x h1 hn hb
  refine ⟨v', w2, hrun, hrow, ?_, hf⟩
  obtain ⟨z, hi, hzs⟩ := E.i
  obtain ⟨i0, hi0, hz0, hz1, hz2⟩ := info_parts hi
  have hfa : Frm Nix w1 (w1.alloc (.cells #[x] e)) := (Frm.refl Nix w1).alloc _
  have hown := (h.more hfa).own
  rcases hown.2 with ⟨hv, hn1⟩ | ⟨g, cap, cur, hv, hbg, hg, hnc, hcm, hcs, htake⟩
  · omega
  · injection hv with q1 q2 q3
    subst q1 q3
    have hnews : ∀ j u, ([x] : List Value)[j]? = some u → (w1.alloc (.cells #[x] e)).cell? ((⟨w1.heap.size, 0, none⟩ : Addr).add j) = some u := World.news_of_block (heap_alloc_new w1 (.cells #[x] e))
    by_cases hroom : n + 1 ≤ c
    · have hfit : n * i0.size + ([x] : List Value).length ≤ cur.size := by rw [hcs, hz1]; simp; omega
      have hr := run_append_room (P := P) (w1.alloc (.cells #[x] e)) t 0 e i0 E.t hi0 g n c cur hg ⟨w1.heap.size, 0, none⟩ 1 1 [x] (by rw [hz1]; rfl) hnews (by simpa using h1) hroom hfit
      rw [hrun 0] at hr
      injection hr with hr1 hr2
      subst hr1
      have := own_cut hrow.own (k := n) (by omega)
      rw [Nat.mul_one, List.take_left' (by simpa using h.len)] at this
      exact (Rd.of_own this).mono fun _ _ => trivial
    · have hr := run_append_grow (P := P) (w1.alloc (.cells #[x] e)) t 0 e i0 z E.t hi0 hz0 ⟨g, 0, none⟩ n c xs (by rw [hz1]; simpa using h.len) (hown.cells (g := g) rfl) ⟨w1.heap.size, 0, none⟩ 1 1 [x] (by rw [hz1]; rfl) hnews (by omega) (by unfold maxLen at hn; omega) (growslice_fits (by omega) (by rw [hz2]; exact hb))
      rw [hrun 0] at hr
      injection hr with hr1 hr2
      rw [hr2]
      exact ((Rd.of_own hown).frm (((Frm.refl Nix _).drew).alloc _) fun _ _ => id).mono fun _ _ => trivial

/-- a manifest of a call's own in a block; its segments lie in blocks of G. -/
structure ManAt (w0 w : World) (b : Nat) (G : Nat → Prop) (m : Man) (A : Option Addr) (c : Nat) : Prop where
  blk : Blk w b 25 #[.int .i64 m.gen, .int .i64 m.snap, .slice A m.segs.length c]
  b0 : w0.heap.size ≤ b
  rd : ManIn w G m A c
theorem ManAt.nix {w0 w w1 : World} {b : Nat} {G : Nat → Prop} {m : Man} {A : Option Addr} {c : Nat} (h : ManAt w0 w b G m A c) (hf : Frm Nix w w1) : ManAt w0 w1 b G m A c := ⟨h.blk.frm hf id, h.b0, h.rd.nix hf⟩
theorem ManAt.frm {F : Nat → Prop} {w0 w w1 : World} {b : Nat} {G : Nat → Prop} {m : Man} {A : Option Addr} {c : Nat} (h : ManAt w0 w b G m A c) (hf : Frm F w w1) (h1 : ¬ F b) (h2 : ∀ k, G k → ¬ F k) : ManAt w0 w1 b G m A c := ⟨h.blk.frm hf h1, h.b0, h.rd.frm hf h2⟩
theorem Rd.old {w : World} {G : Nat → Prop} {size n : Nat} {A : Option Addr} {xs : List Value} (h : Rd w G size A n xs) : Rd w (fun k => k < w.heap.size) size A n xs :=
  ⟨h.1, fun hn => by
    obtain ⟨ad, e, _, hl, hc⟩ := h.2 hn
    exact ⟨ad, e, hl, hl, hc⟩⟩
theorem ManAt.old {w0 w : World} {b : Nat} {G : Nat → Prop} {m : Man} {A : Option Addr} {c : Nat} (h : ManAt w0 w b G m A c) : ManAt w0 w b (fun k => k < w.heap.size) m A c := ⟨h.blk, h.b0, { h.rd with rd := h.rd.rd.old }⟩
theorem RowIn.manIn {w w1 : World} {m : Man} {A : Option Addr} {c : Nat} (h : RowIn 3 w w1 (.slice A m.segs.length c) m.segs.length (ivs m.segs)) (ho : manOk m = true) : ManIn w1 (fun k => (Value.slice A m.segs.length c).ownBlock = some k) m A c := by
  obtain ⟨_, _, e, -, hc, hm, -⟩ := h.shape
  injection e with e1 e2 e3
  subst e1 e3
  have hp := manOk_parts ho
  exact ⟨by omega, by omega, by omega, by omega, h.rd, hc, hm, fun k hk => by have := may_bounds (risB_may m.segs 0 (by omega) hp.2.2.2.2.2.2.1 k hk); omega⟩

set_option maxRecDepth 100000 in
set_option maxHeartbeats 20000000 in
theorem lives_any (w : World) (ht : Tab w) : Calls Tryz.prog 5 #[] w fun e w' => e = .returned (.bool true) ∧ Frm Nix w w' := by
  obtain ⟨w1, hw1⟩ : ∃ w1, w1 = (w.alloc (.cells #[.int .i64 1] 3)).alloc (.cells #[.int .i64 1, .int .i64 0, .slice (some ⟨w.heap.size, 0, none⟩) 1 1] 25) := ⟨_, rfl⟩
  have hf1 : Frm Nix w w1 := by rw [hw1]; exact ((Frm.refl Nix w).alloc _).alloc _
  have hsz1 : w1.heap.size = w.heap.size + 2 := by rw [hw1]; simp
  have hm1 : ManAt w w1 (w.heap.size + 1) (· = w.heap.size) mL (some ⟨w.heap.size, 0, none⟩) 1 := by
    have hb := Blk.new (w.alloc (.cells #[.int .i64 1] 3)) 25 #[.int .i64 1, .int .i64 0, .slice (some ⟨w.heap.size, 0, none⟩) 1 1]
    have hr := (Rd.of_obj (size := 1) (heap_alloc_new w (.cells #[.int .i64 1] 3)) 1 rfl).frm ((Frm.refl Nix (w.alloc (.cells #[.int .i64 1] 3))).alloc (.cells #[.int .i64 1, .int .i64 0, .slice (some ⟨w.heap.size, 0, none⟩) 1 1] 25)) fun _ _ => id
    rw [hw1]
    have e : (w.alloc (.cells #[.int .i64 1] 3)).heap.size = w.heap.size + 1 := by simp
    rw [e] at hb
    exact ⟨hb, by omega, ⟨by decide, by decide, by decide, by decide, hr, by decide, by decide, by decide⟩⟩
  have H1 : Hid (Frm Nix w w1 ∧ ManAt w w1 (w.heap.size + 1) (· = w.heap.size) mL (some ⟨w.heap.size, 0, none⟩) 1 ∧ Tab w) := ⟨hf1, hm1, ht⟩
  have HW := Lib.hid hw1
  have HS : Hid (w1.heap.size = w.heap.size + 2) := hsz1
  clear hf1 hsz1 hm1 ht hw1
  go_enter Tryz.func5, Tryz.ntmps5
  go_wp2_with fail
  have KP : Calls Tryz.prog 16 #[.agg #[.int .i64 1, .int .i64 0, .slice (some ⟨w.heap.size, 0, none⟩) 1 1]] w1 (BytesOkOut w1 (manPut mL) 0) := by
    exact pPut_yes mL _ _ _ w1 H1.out.2.1.rd mL_ok (H1.out.2.2.nix H1.out.1)
  rw [← HW.out]
  refine KP.mono ?_
  rintro e w2 ⟨A2, c2, rfl, hrow2⟩
  have e8 : (manPut mL).length = 8 := by kernel_rfl
  rw [e8] at hrow2 ⊢
  obtain ⟨_, _, e, hn2, hc2, hmx2, -⟩ := hrow2.shape
  injection e with q1 q2 q3
  subst q1 q3
  have H2 : Hid (Frm Nix w w2 ∧ ManAt w w2 (w.heap.size + 1) (· = w.heap.size) mL (some ⟨w.heap.size, 0, none⟩) 1 ∧ Tab w2 ∧ Rd w2 (fun _ => True) 1 A2 8 (bvs (manPut mL)) ∧ RowIn 5 w1 w2 (.slice A2 8 c2) 8 (bvs (manPut mL))) :=
    ⟨H1.out.1.trans hrow2.frm, H1.out.2.1.nix hrow2.frm, (H1.out.2.2.nix H1.out.1).nix hrow2.frm, hrow2.rd.mono fun _ _ => trivial, hrow2⟩
  have KG := pGet_any A2 8 c2 (manPut mL) _ w2 e8 H2.out.2.2.2.1 (by omega) hc2 hmx2 (fun h => by have := hn2 h; omega) H2.out.2.2.1
  have KG := Lib.hid (KG.mono (R' := fun e w' => ∃ A c, e = .returned (.tuple #[.agg #[.int .i64 1, .int .i64 0, .slice A 1 c], .int .i64 0]) ∧ RowIn 3 w2 w' (.slice A 1 c) 1 (ivs [1])) fun e w' h => by
    unfold GetOut at h
    rw [manGet_put mL_ok] at h
    exact h)
  clear hrow2 KP
  go_wp2_with fail
  refine KG.out.mono ?_
  rintro e w3 ⟨A3, c3, rfl, hrow3⟩
  obtain ⟨w4, hw4⟩ : ∃ w4, w4 = w3.alloc (.cells #[.int .i64 1, .int .i64 0, .slice A3 1 c3] 25) := ⟨_, rfl⟩
  have hf34 : Frm Nix w3 w4 := by rw [hw4]; exact (Frm.refl Nix w3).alloc _
  have hf24 : Frm Nix w2 w4 := hrow3.frm.trans hf34
  have hm4 : ManAt w w4 w3.heap.size (fun k => (Value.slice A3 1 c3).ownBlock = some k) mL A3 c3 := ⟨by rw [hw4]; exact Blk.new w3 _ _, (H2.out.1.trans hrow3.frm).size, (hrow3.manIn (m := mL) mL_ok).nix hf34⟩
  have H4 : Hid (Frm Nix w w4 ∧ ManAt w w4 (w.heap.size + 1) (· = w.heap.size) mL (some ⟨w.heap.size, 0, none⟩) 1 ∧ ManAt w w4 w3.heap.size (fun k => (Value.slice A3 1 c3).ownBlock = some k) mL A3 c3 ∧ Tab w4 ∧ Rd w4 (fun _ => True) 1 A2 8 (bvs (manPut mL)) ∧ RowIn 5 w1 w4 (.slice A2 8 c2) 8 (bvs (manPut mL))) :=
    ⟨H2.out.1.trans hf24, H2.out.2.1.nix hf24, hm4, H2.out.2.2.1.nix hf24, H2.out.2.2.2.1.frm hf24 fun _ _ => id, H2.out.2.2.2.2.more hf24⟩
  have HW4 : Hid (w3.alloc (.cells #[.int .i64 1, .int .i64 0, .slice A3 1 c3] 25) = w4) := hw4.symm
  obtain ⟨v5, w5, hrun5, hrow5, hrd5, hf5⟩ := push_keep (P := Tryz.prog) elemB H4.out.2.2.2.2.2 (by omega) (.int .u8 0) rfl (by decide) (by decide)
  obtain ⟨A5, c5, rfl, hn5, hc5, hmx5, -⟩ := hrow5.shape
  have hlo5 : ∀ k, (Value.slice A2 8 c2).ownBlock = some k → w1.heap.size ≤ k := fun k hk => (H4.out.2.2.2.2.2.own.lt k hk).1
  have hfa4 : Frm Nix w4 (w4.alloc (.cells #[.int .u8 0] 5)) := (Frm.refl Nix w4).alloc _
  have htabl : 0 < w.heap.size := H1.out.2.2.lt
  have hszw1 := HS.out
  have hI4 : RowIn 3 w2 w4 (.slice A3 1 c3) 1 (ivs [1]) := hrow3.more hf34
  have H5 : Hid (Frm Nix w w5 ∧ ManAt w w5 (w.heap.size + 1) (fun k => k < w5.heap.size) mL (some ⟨w.heap.size, 0, none⟩) 1 ∧ ManAt w w5 w3.heap.size (fun k => k < w5.heap.size) mL A3 c3 ∧ Tab w5 ∧ Rd w5 (fun k => k < w5.heap.size) 1 A2 8 (bvs (manPut mL)) ∧ RowIn 5 w1 w5 (.slice A5 9 c5) 9 (bvs (manPut mL ++ [0]))) := by
    have k1 := (H4.out.2.1.nix hfa4).frm hf5 (fun hk => by have := hlo5 _ hk; omega) (fun k hk hk2 => by have := hlo5 _ hk2; omega)
    have k2 := (H4.out.2.2.1.nix hfa4).frm hf5 (fun hk => H4.out.2.2.2.2.2.ne_blk H4.out.2.2.1.blk (by decide) hk) (fun k hk hk2 => row_apart hI4 H4.out.2.2.2.2.2 (by decide) hk hk2)
    have kf : Frm Nix w w5 := (H4.out.1.trans hfa4).next hf5 fun k hk => .inr (by have := hlo5 _ hk; omega)
    exact ⟨kf, k1.old, k2.old, H1.out.2.2.nix kf, hrd5.old, by rw [bvs_append]; exact hrow5⟩
  have KG5 := pGet_any A5 9 c5 (manPut mL ++ [0]) _ w5 (by rw [List.length_append, e8]; rfl) H5.out.2.2.2.2.2.rd (by omega) hc5 hmx5 (fun h => by have := hn5 h; omega) H5.out.2.2.2.1
  have KG5 := Lib.hid (KG5.mono (R' := fun e w' => e = .returned (.tuple #[.agg #[.int .i64 0, .int .i64 0, .slice none 0 0], .int .i64 190]) ∧ Frm Nix w5 w') fun e w' h => by
    unfold GetOut at h
    rw [mL_more] at h
    exact h)
  have HW4' := HW4.out
  have HTL := Lib.hid htabl
  clear hrow3 hf34 hf24 hm4 hw4 KG hfa4 hlo5 hI4 hrow5 hf5 hrd5 hn5 hc5 hmx5 hn2 hc2 hmx2 e8 hszw1 htabl
  go_wp2_with (first
    | (at_builtin; refine wpList_append_run hrun5 rfl _ _ rfl rfl rfl ?_; clear hrun5)
    | (go_at_call 17; refine KG5.out.mono ?_; rintro e w6 ⟨rfl, hf6⟩; have HF6 := Lib.hid hf6; clear hf6)
    | (go_at_call 6; fail))
  clear HW4' KG5
  have hf7 : Frm Nix w5 (w6.alloc (.cells #[.int .i64 0, .int .i64 0, .slice none 0 0] 25)) := HF6.out.alloc _
  have hw7 : Frm Nix w (w6.alloc (.cells #[.int .i64 0, .int .i64 0, .slice none 0 0] 25)) := H5.out.1.trans hf7
  refine (New_yes 1000 _ w.heap.size hw7.size (by omega) (by omega)).mono ?_
  rintro e w8 ⟨g, F8, rfl, hd8, hf8, hn8⟩
  have hf58 : Frm Nix w5 w8 := hf7.trans hf8
  have H8 : Hid (Dk w8 w.heap.size g F8 (dsk0 1000) ∧ (∀ k, F8 k → w5.heap.size ≤ k) ∧ Frm Nix w w8 ∧ Frm Nix w5 w8 ∧ Tab w8) := ⟨hd8, fun k hk => by have := hn8 k hk; have := hf7.size; omega, hw7.trans hf8, hf58, H5.out.2.2.2.1.nix hf58⟩
  clear hd8 hf8 hn8 hf58 hf7 hw7
  go_wp2_with fail
  have KR8 := pRead_any H8.out.1 H8.out.2.2.2.2
  rw [mL_rd0] at KR8
  have KR8 := KR8.mono (R' := fun e w' => ∃ A c, e = .returned (.tuple #[.agg #[.int .i64 0, .int .i64 0, .slice A 0 c], .int .i64 4]) ∧ RowIn 3 w8 w' (.slice A 0 c) 0 (ivs [])) fun e w' h => h
  refine KR8.mono ?_
  rintro e w9 ⟨A9, c9, rfl, hrow9⟩
  have hf9 : Frm Nix w8 (w9.alloc (.cells #[.int .i64 0, .int .i64 0, .slice A9 0 c9] 25)) := hrow9.frm.alloc _
  obtain ⟨w10, hw10⟩ : ∃ w10, w10 = w9.alloc (.cells #[.int .i64 0, .int .i64 0, .slice A9 0 c9] 25) := ⟨_, rfl⟩
  rw [← hw10] at hf9
  have HW10 : Hid (w9.alloc (.cells #[.int .i64 0, .int .i64 0, .slice A9 0 c9] 25) = w10) := hw10.symm
  have hf510 : Frm Nix w5 w10 := H8.out.2.2.2.1.trans hf9
  have H10 : Hid (Dk w10 w.heap.size g F8 (dsk0 1000) ∧ (∀ k, F8 k → w5.heap.size ≤ k) ∧ Frm Nix w w10 ∧ ManAt w w10 (w.heap.size + 1) (fun k => k < w5.heap.size) mL (some ⟨w.heap.size, 0, none⟩) 1 ∧ ManAt w w10 w3.heap.size (fun k => k < w5.heap.size) mL A3 c3 ∧ Tab w10 ∧ Rd w10 (fun k => k < w5.heap.size) 1 A2 8 (bvs (manPut mL)) ∧ w3.heap.size < w5.heap.size ∧ w.heap.size + 1 < w5.heap.size) :=
    ⟨H8.out.1.nix hf9, H8.out.2.1, H8.out.2.2.1.trans hf9, H5.out.2.1.nix hf510, H5.out.2.2.1.nix hf510, H8.out.2.2.2.2.nix hf9, H5.out.2.2.2.2.1.frm hf510 fun _ _ => id, H5.out.2.2.1.blk.lt, H5.out.2.1.blk.lt⟩
  have hcm := H10.out.2.2.2.1.blk
  have m0 := hcm.cell 0
  have m1 := hcm.cell 1
  have m2 := hcm.cell 2
  simp [mL] at m0 m1 m2
  have HS10 : Hid (w5.heap.size ≤ w10.heap.size) := hf510.size
  clear hrow9 hf9 hw10 hf510 KR8 H8 hcm H5
  have HW10' := HW10.out
  go_wp2_with fail
  have KS := pSwitch_yes H10.out.1 mL (some ⟨w.heap.size, 0, none⟩) 1 _ H10.out.2.2.2.1.rd mL_ok H10.out.2.2.2.2.2.1 HTL.out (fun k hk hF => by have := H10.out.2.1 k hF; omega) (by decide)
  rw [mL_sw] at KS
  have KS := KS.mono (R' := DkOut w10 w.heap.size g F8 dL 0) fun e w' h => h
  refine KS.mono ?_
  intro e w11 hdo
  obtain ⟨rfl, F11, hd11, hf11, hk11, hff11⟩ := hdo.step H10.out.1 H10.out.2.2.1
  have hsz10 := HS10.out
  have H11 : Hid (Dk w11 w.heap.size g F11 dL ∧ (∀ k, F11 k → w5.heap.size ≤ k) ∧ Frm Nix w w11 ∧ ManAt w w11 (w.heap.size + 1) (fun k => k < w5.heap.size) mL (some ⟨w.heap.size, 0, none⟩) 1 ∧ ManAt w w11 w3.heap.size (fun k => k < w5.heap.size) mL A3 c3 ∧ Tab w11 ∧ Rd w11 (fun k => k < w5.heap.size) 1 A2 8 (bvs (manPut mL))) := by
    have hno : ∀ k, k < w5.heap.size → ¬ F8 k := fun k hk hF => by have := H10.out.2.1 k hF; omega
    exact ⟨hd11, fun k hk => by
      rcases hk11 k hk with h1 | h1
      · exact H10.out.2.1 k h1
      · omega, hf11, H10.out.2.2.2.1.frm hff11 (hno _ H10.out.2.2.2.2.2.2.2.2) hno, H10.out.2.2.2.2.1.frm hff11 (hno _ H10.out.2.2.2.2.2.2.2.1) hno, H1.out.2.2.nix hf11, H10.out.2.2.2.2.2.2.1.frm hff11 hno⟩
  clear hd11 hf11 hk11 hff11 hdo KS hsz10 H10 m0 m1 m2 HW10'
  go_wp2_with fail
  have KR := pRead_any H11.out.1 H11.out.2.2.2.2.2.1
  rw [mL_rd] at KR
  have KR := KR.mono (R' := fun e w' => ∃ A c, e = .returned (.tuple #[.agg #[.int .i64 1, .int .i64 0, .slice A 1 c], .int .i64 0]) ∧ RowIn 3 w11 w' (.slice A 1 c) 1 (ivs [1])) fun e w' h => h
  refine KR.mono ?_
  rintro e w12 ⟨A12, c12, rfl, hrow12⟩
  obtain ⟨w13, hw13⟩ : ∃ w13, w13 = w12.alloc (.cells #[.int .i64 1, .int .i64 0, .slice A12 1 c12] 25) := ⟨_, rfl⟩
  have hf1213 : Frm Nix w12 w13 := by rw [hw13]; exact (Frm.refl Nix w12).alloc _
  have hf13 : Frm Nix w11 w13 := hrow12.frm.trans hf1213
  have hm13 : ManAt w w13 w12.heap.size _ mL A12 c12 := ⟨by rw [hw13]; exact Blk.new w12 _ _, (H11.out.2.2.1.trans hrow12.frm).size, (hrow12.manIn (m := mL) mL_ok).nix hf1213⟩
  have H13 : Hid (Frm Nix w w13 ∧ ManAt w w13 (w.heap.size + 1) (fun k => k < w5.heap.size) mL (some ⟨w.heap.size, 0, none⟩) 1 ∧ ManAt w w13 w3.heap.size (fun k => k < w5.heap.size) mL A3 c3 ∧ ManAt w w13 w12.heap.size (fun k => k < w13.heap.size) mL A12 c12 ∧ Rd w13 (fun k => k < w5.heap.size) 1 A2 8 (bvs (manPut mL))) :=
    ⟨H11.out.2.2.1.trans hf13, H11.out.2.2.2.1.nix hf13, H11.out.2.2.2.2.1.nix hf13, hm13.old, H11.out.2.2.2.2.2.2.frm hf13 fun _ _ => id⟩
  have HW13 : w12.alloc (.cells #[.int .i64 1, .int .i64 0, .slice A12 1 c12] 25) = w13 := hw13.symm
  clear hrow12 hf1213 hf13 hm13 hw13 KR H11
  go_wp2_with fail
  have KZ := pSwitch_no ⟨0, 0, []⟩ none 0 (fun _ => True) (some ⟨g, 0, none⟩) w13 ⟨by decide, by decide, by decide, by decide, Rd.none_, by decide, by decide, by simp⟩ mZ_no
  refine KZ.mono ?_
  rintro e w14 ⟨rfl, hf14⟩
  have H14 : Hid (Frm Nix w w14 ∧ ManAt w w14 (w.heap.size + 1) (fun k => k < w5.heap.size) mL (some ⟨w.heap.size, 0, none⟩) 1 ∧ ManAt w w14 w3.heap.size (fun k => k < w5.heap.size) mL A3 c3 ∧ ManAt w w14 w12.heap.size (fun k => k < w13.heap.size) mL A12 c12 ∧ Rd w14 (fun k => k < w5.heap.size) 1 A2 8 (bvs (manPut mL))) :=
    ⟨H13.out.1.trans hf14, H13.out.2.1.nix hf14, H13.out.2.2.1.nix hf14, H13.out.2.2.2.1.nix hf14, H13.out.2.2.2.2.frm hf14 fun _ _ => id⟩
  clear KZ hf14 H13 HW13
  go_wp2
  have HX : Hid (∀ W, Frm Nix w14 W → W.cell? ⟨w.heap.size + 1, 0, none⟩ = some (.int .i64 1) ∧ W.cell? ⟨w.heap.size + 1, 1, none⟩ = some (.int .i64 0) ∧ W.cell? ⟨w.heap.size + 1, 2, none⟩ = some (.slice (some ⟨w.heap.size, 0, none⟩) 1 1) ∧
      W.cell? ⟨w3.heap.size, 0, none⟩ = some (.int .i64 1) ∧ W.cell? ⟨w3.heap.size, 1, none⟩ = some (.int .i64 0) ∧ W.cell? ⟨w3.heap.size, 2, none⟩ = some (.slice A3 1 c3) ∧
      W.cell? ⟨w12.heap.size, 0, none⟩ = some (.int .i64 1) ∧ W.cell? ⟨w12.heap.size, 1, none⟩ = some (.int .i64 0) ∧ W.cell? ⟨w12.heap.size, 2, none⟩ = some (.slice A12 1 c12) ∧
      (convert 35 9 (.slice A2 8 c2)).run Tryz.prog W = .ok (.string ⟨(manPut mL).toArray⟩) W) := fun W hW => by
    have a := (H14.out.2.1.nix hW).blk
    have b := (H14.out.2.2.1.nix hW).blk
    have c := (H14.out.2.2.2.1.nix hW).blk
    exact ⟨a.cell 0, a.cell 1, a.cell 2, b.cell 0, b.cell 1, b.cell 2, c.cell 0, c.cell 1, c.cell 2, run_str_of (H14.out.2.2.2.2.frm hW fun _ _ => id)⟩
  have KSeal : Hid (Calls Tryz.prog 18 #[.slice (some ⟨w14.heap.size, 0, none⟩) 4 4] (w14.drew.alloc (.cells #[.int .u8 2, .int .u8 0, .int .u8 2, .int .u8 2] 5)) fun e w' => ∃ A c, e = .returned (.slice A 8 c) ∧ Frm Nix w14 w' ∧ (convert 35 9 (.slice A 8 c)).run Tryz.prog w' = .ok (.string ⟨(manPut mL).toArray⟩) w') :=
    (SealR_any (some ⟨w14.heap.size, 0, none⟩) 4 4 [2, 0, 2, 2] _ _ rfl (Rd.of_obj (heap_alloc_new w14.drew (.cells #[.int .u8 2, .int .u8 0, .int .u8 2, .int .u8 2] 5)) 4 rfl) (by decide)).mono fun e w' h => by
      obtain ⟨A, c, he, hr⟩ := h
      have e8 : (sealB [2, 0, 2, 2]).length = 8 := by kernel_rfl
      rw [e8] at he hr
      refine ⟨A, c, he, (((Frm.refl Nix w14).drew).alloc _).trans hr.frm, ?_⟩
      rw [mL_put]
      exact run_str_of hr.rd
  have K1 : Hid (∀ W, Frm Nix w14 W → Calls Tryz.prog 14 #[.agg #[.int .i64 1, .int .i64 0, .slice A3 1 c3], .agg #[.int .i64 1, .int .i64 0, .slice (some ⟨w.heap.size, 0, none⟩) 1 1]] W fun e w' => e = .returned (.bool true) ∧ Frm Nix w14 w') := fun W hW =>
    (rSame_any mL mL A3 (some ⟨w.heap.size, 0, none⟩) c3 1 _ _ W (H14.out.2.2.1.nix hW).rd (H14.out.2.1.nix hW).rd (by decide) (by decide)).mono fun e w' h => ⟨h.1, hW.trans h.2⟩
  have K2 : Hid (∀ W, Frm Nix w14 W → Calls Tryz.prog 14 #[.agg #[.int .i64 1, .int .i64 0, .slice A12 1 c12], .agg #[.int .i64 1, .int .i64 0, .slice (some ⟨w.heap.size, 0, none⟩) 1 1]] W fun e w' => e = .returned (.bool true) ∧ Frm Nix w14 w') := fun W hW =>
    (rSame_any mL mL A12 (some ⟨w.heap.size, 0, none⟩) c12 1 _ _ W (H14.out.2.2.2.1.nix hW).rd (H14.out.2.1.nix hW).rd (by decide) (by decide)).mono fun e w' h => ⟨h.1, hW.trans h.2⟩
  have K3 : Hid (∀ W, Frm Nix w14 W → Calls Tryz.prog 19 #[.agg #[.int .i64 1, .int .i64 0, .slice A3 1 c3], .agg #[.int .i64 1, .int .i64 0, .slice A12 1 c12]] W fun e w' => e = .returned (.bool true) ∧ Frm Nix w14 w') := fun W hW =>
    (pSame_any mL mL A3 A12 c3 c12 _ _ W (H14.out.2.2.1.nix hW).rd (H14.out.2.2.2.1.nix hW).rd (by decide) (by decide)).mono fun e w' h => ⟨h.1, hW.trans h.2⟩
  have K4 : Hid (∀ W, Frm Nix w14 W → Calls Tryz.prog 20 #[.agg #[.int .i64 1, .int .i64 0, .slice (some ⟨w.heap.size, 0, none⟩) 1 1]] W fun e w' => e = .returned (.int .i64 0) ∧ Frm Nix w14 w') := fun W hW =>
    (pCheck_any mL (some ⟨w.heap.size, 0, none⟩) 1 _ W (H14.out.2.1.nix hW).rd).mono fun e w' h => ⟨h.1, hW.trans h.2⟩
  have HFin : Hid (∀ W, Frm Nix w14 W → Frm Nix w W) := fun W hW => H14.out.1.trans hW
  clear H14 H2 H4 H1 HS HW HW4 HTL HF6 HS10 HW10
  generalize (⟨(manPut mL).toArray⟩ : ByteArray) = str at *
  refine wp_region_held_drew (S := fun W => W.cell? ⟨w.heap.size + 1, 0, none⟩ = some (.int .i64 1) ∧ W.cell? ⟨w.heap.size + 1, 1, none⟩ = some (.int .i64 0) ∧ W.cell? ⟨w.heap.size + 1, 2, none⟩ = some (.slice (some ⟨w.heap.size, 0, none⟩) 1 1) ∧ W.cell? ⟨w3.heap.size, 0, none⟩ = some (.int .i64 1) ∧ W.cell? ⟨w3.heap.size, 1, none⟩ = some (.int .i64 0) ∧ W.cell? ⟨w3.heap.size, 2, none⟩ = some (.slice A3 1 c3) ∧ W.cell? ⟨w12.heap.size, 0, none⟩ = some (.int .i64 1) ∧ W.cell? ⟨w12.heap.size, 1, none⟩ = some (.int .i64 0) ∧ W.cell? ⟨w12.heap.size, 2, none⟩ = some (.slice A12 1 c12) ∧ (convert 35 9 (.slice A2 8 c2)).run Tryz.prog W = .ok (.string str) W) (by kernel_rfl) (HX.out _ (Frm.refl Nix w14).drew) (fun hHeld => ?_)
  refine wpAnyH_take (i := 0) (v := ?_) rfl (by kernel_rfl) (by kernel_rfl) (by kernel_rfl) (fun _ _ _ h => h) (Or.inl ⟨by rfl, ?_⟩) (by assumption) ?_
  rotate_left
  · intro wS hSw; (try dsimp only at hSw)
    go_simp
    all_goals with_reducible rfl
  try simp only [List.getElem_toArray, List.getElem_cons_zero, List.getElem_cons_succ, Act.put, List.setIfInBounds_toArray, List.set_cons_zero, List.set_cons_succ]
  refine wpAnyH_take (i := 1) (v := ?_) rfl (by kernel_rfl) (by kernel_rfl) (by kernel_rfl) (fun _ _ _ h => h) (Or.inl ⟨by rfl, ?_⟩) (by assumption) ?_
  rotate_left
  · intro wS hSw; (try dsimp only at hSw)
    go_simp
    all_goals with_reducible rfl
  try simp only [List.getElem_toArray, List.getElem_cons_zero, List.getElem_cons_succ, Act.put, List.setIfInBounds_toArray, List.set_cons_zero, List.set_cons_succ]
  refine wpAnyH_take (i := 2) (v := ?_) rfl (by kernel_rfl) (by kernel_rfl) (by kernel_rfl) (fun _ _ _ h => h) (Or.inl ⟨by rfl, ?_⟩) (by assumption) ?_
  rotate_left
  · intro wS hSw; (try dsimp only at hSw)
    go_simp
    all_goals with_reducible rfl
  try simp only [List.getElem_toArray, List.getElem_cons_zero, List.getElem_cons_succ, Act.put, List.setIfInBounds_toArray, List.set_cons_zero, List.set_cons_succ]
  refine wpAnyH_take (i := 3) (v := ?_) rfl (by kernel_rfl) (by kernel_rfl) (by kernel_rfl) (fun _ _ _ h => h) (Or.inl ⟨by rfl, ?_⟩) (by assumption) ?_
  rotate_left
  · intro wS hSw; (try dsimp only at hSw)
    go_simp
    all_goals with_reducible rfl
  try simp only [List.getElem_toArray, List.getElem_cons_zero, List.getElem_cons_succ, Act.put, List.setIfInBounds_toArray, List.set_cons_zero, List.set_cons_succ]
  refine wpAnyH_take (i := 4) (v := ?_) rfl (by kernel_rfl) (by kernel_rfl) (by kernel_rfl) (fun _ _ _ h => h) (Or.inl ⟨by rfl, ?_⟩) (by assumption) ?_
  rotate_left
  · intro wS hSw; (try dsimp only at hSw)
    go_simp
    all_goals with_reducible rfl
  try simp only [List.getElem_toArray, List.getElem_cons_zero, List.getElem_cons_succ, Act.put, List.setIfInBounds_toArray, List.set_cons_zero, List.set_cons_succ]
  refine wpAnyH_ready (rs := [5]) (by kernel_rfl) (by simp) ?_
  refine AllReadyH.cons rfl (fun K hK => ?_) AllReadyH.nil
  go_simp
  refine hK.out _ _ (HX.out _ (((Frm.refl Nix w14).drew).alloc _)) (fun hHeld => ?_)
  clear hK K
  try simp only [List.getElem_toArray, List.getElem_cons_zero, List.getElem_cons_succ, Act.put, List.setIfInBounds_toArray, List.set_cons_zero, List.set_cons_succ]
  refine wpAnyH_ready (rs := [6]) (by kernel_rfl) (by simp) ?_
  refine AllReadyH.cons rfl (fun K hK => ?_) AllReadyH.nil
  refine step_go_w (by rfl) _ _ (by rfl) (by rfl) (callSealR _) (KSeal.out) ?_
  rintro e w15 ⟨A15, c15, rfl, hf15, hv15⟩
  refine ⟨_, rfl, ?_⟩
  refine hK.out _ _ (HX.out _ hf15) (fun hHeld => ?_)
  clear hK K
  try simp only [List.getElem_toArray, List.getElem_cons_zero, List.getElem_cons_succ, Act.put, List.setIfInBounds_toArray, List.set_cons_zero, List.set_cons_succ]
  refine wpAnyH_ready (rs := [7]) (by kernel_rfl) (by simp) ?_
  refine AllReadyH.cons rfl (fun K hK => ?_) AllReadyH.nil
  go_simp
  refine hK.out _ _ (HX.out _ hf15) (fun hHeld => ?_)
  clear hK K
  try simp only [List.getElem_toArray, List.getElem_cons_zero, List.getElem_cons_succ, Act.put, List.setIfInBounds_toArray, List.set_cons_zero, List.set_cons_succ]
  refine wpAnyH_take (i := 8) (v := ?_) rfl (by kernel_rfl) (by kernel_rfl) (by kernel_rfl) (fun _ _ _ h => h) (Or.inl ⟨by rfl, ?_⟩) (by assumption) ?_
  rotate_left
  · intro wS hSw; (try dsimp only at hSw)
    go_simp
    all_goals with_reducible rfl
  try simp only [List.getElem_toArray, List.getElem_cons_zero, List.getElem_cons_succ, Act.put, List.setIfInBounds_toArray, List.set_cons_zero, List.set_cons_succ]
  refine wpAnyH_take (i := 9) (v := ?_) rfl (by kernel_rfl) (by kernel_rfl) (by kernel_rfl) (fun _ _ _ h => h) (Or.inl ⟨by rfl, ?_⟩) (by assumption) ?_
  rotate_left
  · intro wS hSw; (try dsimp only at hSw)
    go_simp
    all_goals with_reducible rfl
  try simp only [List.getElem_toArray, List.getElem_cons_zero, List.getElem_cons_succ, Act.put, List.setIfInBounds_toArray, List.set_cons_zero, List.set_cons_succ]
  refine wpAnyH_take (i := 10) (v := ?_) rfl (by kernel_rfl) (by kernel_rfl) (by kernel_rfl) (fun _ _ _ h => h) (Or.inl ⟨by rfl, ?_⟩) (by assumption) ?_
  rotate_left
  · intro wS hSw; (try dsimp only at hSw)
    go_simp
    all_goals with_reducible rfl
  try simp only [List.getElem_toArray, List.getElem_cons_zero, List.getElem_cons_succ, Act.put, List.setIfInBounds_toArray, List.set_cons_zero, List.set_cons_succ]
  refine wpAnyH_take (i := 11) (v := ?_) rfl (by kernel_rfl) (by kernel_rfl) (by kernel_rfl) (fun _ _ _ h => h) (Or.inl ⟨by rfl, ?_⟩) (by assumption) ?_
  rotate_left
  · intro wS hSw; (try dsimp only at hSw)
    go_simp
    all_goals with_reducible rfl
  try simp only [List.getElem_toArray, List.getElem_cons_zero, List.getElem_cons_succ, Act.put, List.setIfInBounds_toArray, List.set_cons_zero, List.set_cons_succ]
  refine wpAnyH_take (i := 12) (v := ?_) rfl (by kernel_rfl) (by kernel_rfl) (by kernel_rfl) (fun _ _ _ h => h) (Or.inl ⟨by rfl, ?_⟩) (by assumption) ?_
  rotate_left
  · intro wS hSw; (try dsimp only at hSw)
    go_simp
    all_goals with_reducible rfl
  try simp only [List.getElem_toArray, List.getElem_cons_zero, List.getElem_cons_succ, Act.put, List.setIfInBounds_toArray, List.set_cons_zero, List.set_cons_succ]
  refine wpAnyH_take (i := 13) (v := ?_) rfl (by kernel_rfl) (by kernel_rfl) (by kernel_rfl) (fun _ _ _ h => h) (Or.inl ⟨by rfl, ?_⟩) (by assumption) ?_
  rotate_left
  · intro wS hSw; (try dsimp only at hSw)
    go_simp
    all_goals with_reducible rfl
  try simp only [List.getElem_toArray, List.getElem_cons_zero, List.getElem_cons_succ, Act.put, List.setIfInBounds_toArray, List.set_cons_zero, List.set_cons_succ]
  refine wpAnyH_take (i := 14) (v := ?_) rfl (by kernel_rfl) (by kernel_rfl) (by kernel_rfl) (fun _ _ _ h => h) (Or.inl ⟨by rfl, ?_⟩) (by assumption) ?_
  rotate_left
  · intro wS hSw; (try dsimp only at hSw)
    go_simp
    all_goals with_reducible rfl
  try simp only [List.getElem_toArray, List.getElem_cons_zero, List.getElem_cons_succ, Act.put, List.setIfInBounds_toArray, List.set_cons_zero, List.set_cons_succ]
  refine wpAnyH_take (i := 15) (v := ?_) rfl (by kernel_rfl) (by kernel_rfl) (by kernel_rfl) (fun _ _ _ h => h) (Or.inl ⟨by rfl, ?_⟩) (by assumption) ?_
  rotate_left
  · intro wS hSw; (try dsimp only at hSw)
    go_simp
    all_goals with_reducible rfl
  try simp only [List.getElem_toArray, List.getElem_cons_zero, List.getElem_cons_succ, Act.put, List.setIfInBounds_toArray, List.set_cons_zero, List.set_cons_succ]
  refine wpAnyH_take (i := 16) (v := ?_) rfl (by kernel_rfl) (by kernel_rfl) (by kernel_rfl) (fun _ _ _ h => h) (Or.inl ⟨by rfl, ?_⟩) (by assumption) ?_
  rotate_left
  · intro wS hSw; (try dsimp only at hSw)
    go_simp
    all_goals with_reducible rfl
  try simp only [List.getElem_toArray, List.getElem_cons_zero, List.getElem_cons_succ, Act.put, List.setIfInBounds_toArray, List.set_cons_zero, List.set_cons_succ]
  refine wpAnyH_ready (rs := [17]) (by kernel_rfl) (by simp) ?_
  refine AllReadyH.cons rfl (fun K hK => ?_) AllReadyH.nil
  refine step_go_w (by rfl) _ _ (by rfl) (by rfl) (callSameR _) (K1.out _ hf15) ?_
  rintro e w16 ⟨rfl, hf16⟩
  refine ⟨_, rfl, ?_⟩
  refine hK.out _ _ (HX.out _ hf16) (fun hHeld => ?_)
  clear hK K
  try simp only [List.getElem_toArray, List.getElem_cons_zero, List.getElem_cons_succ, Act.put, List.setIfInBounds_toArray, List.set_cons_zero, List.set_cons_succ]
  refine wpAnyH_take (i := 18) (v := ?_) rfl (by kernel_rfl) (by kernel_rfl) (by kernel_rfl) (fun _ _ _ h => h) (Or.inl ⟨by rfl, ?_⟩) (by assumption) ?_
  rotate_left
  · intro wS hSw; (try dsimp only at hSw)
    go_simp
    all_goals with_reducible rfl
  try simp only [List.getElem_toArray, List.getElem_cons_zero, List.getElem_cons_succ, Act.put, List.setIfInBounds_toArray, List.set_cons_zero, List.set_cons_succ]
  refine wpAnyH_take (i := 19) (v := ?_) rfl (by kernel_rfl) (by kernel_rfl) (by kernel_rfl) (fun _ _ _ h => h) (Or.inl ⟨by rfl, ?_⟩) (by assumption) ?_
  rotate_left
  · intro wS hSw; (try dsimp only at hSw)
    go_simp
    all_goals with_reducible rfl
  try simp only [List.getElem_toArray, List.getElem_cons_zero, List.getElem_cons_succ, Act.put, List.setIfInBounds_toArray, List.set_cons_zero, List.set_cons_succ]
  refine wpAnyH_take (i := 20) (v := ?_) rfl (by kernel_rfl) (by kernel_rfl) (by kernel_rfl) (fun _ _ _ h => h) (Or.inl ⟨by rfl, ?_⟩) (by assumption) ?_
  rotate_left
  · intro wS hSw; (try dsimp only at hSw)
    go_simp
    all_goals with_reducible rfl
  try simp only [List.getElem_toArray, List.getElem_cons_zero, List.getElem_cons_succ, Act.put, List.setIfInBounds_toArray, List.set_cons_zero, List.set_cons_succ]
  refine wpAnyH_take (i := 21) (v := ?_) rfl (by kernel_rfl) (by kernel_rfl) (by kernel_rfl) (fun _ _ _ h => h) (Or.inl ⟨by rfl, ?_⟩) (by assumption) ?_
  rotate_left
  · intro wS hSw; (try dsimp only at hSw)
    go_simp
    all_goals with_reducible rfl
  try simp only [List.getElem_toArray, List.getElem_cons_zero, List.getElem_cons_succ, Act.put, List.setIfInBounds_toArray, List.set_cons_zero, List.set_cons_succ]
  refine wpAnyH_take (i := 22) (v := ?_) rfl (by kernel_rfl) (by kernel_rfl) (by kernel_rfl) (fun _ _ _ h => h) (Or.inl ⟨by rfl, ?_⟩) (by assumption) ?_
  rotate_left
  · intro wS hSw; (try dsimp only at hSw)
    go_simp
    all_goals with_reducible rfl
  try simp only [List.getElem_toArray, List.getElem_cons_zero, List.getElem_cons_succ, Act.put, List.setIfInBounds_toArray, List.set_cons_zero, List.set_cons_succ]
  refine wpAnyH_take (i := 23) (v := ?_) rfl (by kernel_rfl) (by kernel_rfl) (by kernel_rfl) (fun _ _ _ h => h) (Or.inl ⟨by rfl, ?_⟩) (by assumption) ?_
  rotate_left
  · intro wS hSw; (try dsimp only at hSw)
    go_simp
    all_goals with_reducible rfl
  try simp only [List.getElem_toArray, List.getElem_cons_zero, List.getElem_cons_succ, Act.put, List.setIfInBounds_toArray, List.set_cons_zero, List.set_cons_succ]
  refine wpAnyH_take (i := 24) (v := ?_) rfl (by kernel_rfl) (by kernel_rfl) (by kernel_rfl) (fun _ _ _ h => h) (Or.inl ⟨by rfl, ?_⟩) (by assumption) ?_
  rotate_left
  · intro wS hSw; (try dsimp only at hSw)
    go_simp
    all_goals with_reducible rfl
  try simp only [List.getElem_toArray, List.getElem_cons_zero, List.getElem_cons_succ, Act.put, List.setIfInBounds_toArray, List.set_cons_zero, List.set_cons_succ]
  refine wpAnyH_take (i := 25) (v := ?_) rfl (by kernel_rfl) (by kernel_rfl) (by kernel_rfl) (fun _ _ _ h => h) (Or.inl ⟨by rfl, ?_⟩) (by assumption) ?_
  rotate_left
  · intro wS hSw; (try dsimp only at hSw)
    go_simp
    all_goals with_reducible rfl
  try simp only [List.getElem_toArray, List.getElem_cons_zero, List.getElem_cons_succ, Act.put, List.setIfInBounds_toArray, List.set_cons_zero, List.set_cons_succ]
  refine wpAnyH_take (i := 26) (v := ?_) rfl (by kernel_rfl) (by kernel_rfl) (by kernel_rfl) (fun _ _ _ h => h) (Or.inl ⟨by rfl, ?_⟩) (by assumption) ?_
  rotate_left
  · intro wS hSw; (try dsimp only at hSw)
    go_simp
    all_goals with_reducible rfl
  try simp only [List.getElem_toArray, List.getElem_cons_zero, List.getElem_cons_succ, Act.put, List.setIfInBounds_toArray, List.set_cons_zero, List.set_cons_succ]
  refine wpAnyH_take (i := 27) (v := ?_) rfl (by kernel_rfl) (by kernel_rfl) (by kernel_rfl) (fun _ _ _ h => h) (Or.inl ⟨by rfl, ?_⟩) (by assumption) ?_
  rotate_left
  · intro wS hSw; (try dsimp only at hSw)
    go_simp
    all_goals with_reducible rfl
  try simp only [List.getElem_toArray, List.getElem_cons_zero, List.getElem_cons_succ, Act.put, List.setIfInBounds_toArray, List.set_cons_zero, List.set_cons_succ]
  refine wpAnyH_take (i := 28) (v := ?_) rfl (by kernel_rfl) (by kernel_rfl) (by kernel_rfl) (fun _ _ _ h => h) (Or.inl ⟨by rfl, ?_⟩) (by assumption) ?_
  rotate_left
  · intro wS hSw; (try dsimp only at hSw)
    go_simp
    all_goals with_reducible rfl
  try simp only [List.getElem_toArray, List.getElem_cons_zero, List.getElem_cons_succ, Act.put, List.setIfInBounds_toArray, List.set_cons_zero, List.set_cons_succ]
  refine wpAnyH_take (i := 29) (v := ?_) rfl (by kernel_rfl) (by kernel_rfl) (by kernel_rfl) (fun _ _ _ h => h) (Or.inl ⟨by rfl, ?_⟩) (by assumption) ?_
  rotate_left
  · intro wS hSw; (try dsimp only at hSw)
    go_simp
    all_goals with_reducible rfl
  try simp only [List.getElem_toArray, List.getElem_cons_zero, List.getElem_cons_succ, Act.put, List.setIfInBounds_toArray, List.set_cons_zero, List.set_cons_succ]
  refine wpAnyH_take (i := 30) (v := ?_) rfl (by kernel_rfl) (by kernel_rfl) (by kernel_rfl) (fun _ _ _ h => h) (Or.inl ⟨by rfl, ?_⟩) (by assumption) ?_
  rotate_left
  · intro wS hSw; (try dsimp only at hSw)
    go_simp
    all_goals with_reducible rfl
  try simp only [List.getElem_toArray, List.getElem_cons_zero, List.getElem_cons_succ, Act.put, List.setIfInBounds_toArray, List.set_cons_zero, List.set_cons_succ]
  refine wpAnyH_take (i := 31) (v := ?_) rfl (by kernel_rfl) (by kernel_rfl) (by kernel_rfl) (fun _ _ _ h => h) (Or.inl ⟨by rfl, ?_⟩) (by assumption) ?_
  rotate_left
  · intro wS hSw; (try dsimp only at hSw)
    go_simp
    all_goals with_reducible rfl
  try simp only [List.getElem_toArray, List.getElem_cons_zero, List.getElem_cons_succ, Act.put, List.setIfInBounds_toArray, List.set_cons_zero, List.set_cons_succ]
  refine wpAnyH_take (i := 32) (v := ?_) rfl (by kernel_rfl) (by kernel_rfl) (by kernel_rfl) (fun _ _ _ h => h) (Or.inl ⟨by rfl, ?_⟩) (by assumption) ?_
  rotate_left
  · intro wS hSw; (try dsimp only at hSw)
    go_simp
    all_goals with_reducible rfl
  try simp only [List.getElem_toArray, List.getElem_cons_zero, List.getElem_cons_succ, Act.put, List.setIfInBounds_toArray, List.set_cons_zero, List.set_cons_succ]
  refine wpAnyH_take (i := 33) (v := ?_) rfl (by kernel_rfl) (by kernel_rfl) (by kernel_rfl) (fun _ _ _ h => h) (Or.inl ⟨by rfl, ?_⟩) (by assumption) ?_
  rotate_left
  · intro wS hSw; (try dsimp only at hSw)
    go_simp
    all_goals with_reducible rfl
  try simp only [List.getElem_toArray, List.getElem_cons_zero, List.getElem_cons_succ, Act.put, List.setIfInBounds_toArray, List.set_cons_zero, List.set_cons_succ]
  refine wpAnyH_take (i := 34) (v := ?_) rfl (by kernel_rfl) (by kernel_rfl) (by kernel_rfl) (fun _ _ _ h => h) (Or.inl ⟨by rfl, ?_⟩) (by assumption) ?_
  rotate_left
  · intro wS hSw; (try dsimp only at hSw)
    go_simp
    all_goals with_reducible rfl
  try simp only [List.getElem_toArray, List.getElem_cons_zero, List.getElem_cons_succ, Act.put, List.setIfInBounds_toArray, List.set_cons_zero, List.set_cons_succ]
  refine wpAnyH_take (i := 35) (v := ?_) rfl (by kernel_rfl) (by kernel_rfl) (by kernel_rfl) (fun _ _ _ h => h) (Or.inl ⟨by rfl, ?_⟩) (by assumption) ?_
  rotate_left
  · intro wS hSw; (try dsimp only at hSw)
    go_simp
    all_goals with_reducible rfl
  try simp only [List.getElem_toArray, List.getElem_cons_zero, List.getElem_cons_succ, Act.put, List.setIfInBounds_toArray, List.set_cons_zero, List.set_cons_succ]
  refine wpAnyH_take (i := 36) (v := ?_) rfl (by kernel_rfl) (by kernel_rfl) (by kernel_rfl) (fun _ _ _ h => h) (Or.inl ⟨by rfl, ?_⟩) (by assumption) ?_
  rotate_left
  · intro wS hSw; (try dsimp only at hSw)
    go_simp
    all_goals with_reducible rfl
  try simp only [List.getElem_toArray, List.getElem_cons_zero, List.getElem_cons_succ, Act.put, List.setIfInBounds_toArray, List.set_cons_zero, List.set_cons_succ]
  refine wpAnyH_take (i := 37) (v := ?_) rfl (by kernel_rfl) (by kernel_rfl) (by kernel_rfl) (fun _ _ _ h => h) (Or.inl ⟨by rfl, ?_⟩) (by assumption) ?_
  rotate_left
  · intro wS hSw; (try dsimp only at hSw)
    go_simp
    all_goals with_reducible rfl
  try simp only [List.getElem_toArray, List.getElem_cons_zero, List.getElem_cons_succ, Act.put, List.setIfInBounds_toArray, List.set_cons_zero, List.set_cons_succ]
  refine wpAnyH_take (i := 38) (v := ?_) rfl (by kernel_rfl) (by kernel_rfl) (by kernel_rfl) (fun _ _ _ h => h) (Or.inl ⟨by rfl, ?_⟩) (by assumption) ?_
  rotate_left
  · intro wS hSw; (try dsimp only at hSw)
    go_simp
    all_goals with_reducible rfl
  try simp only [List.getElem_toArray, List.getElem_cons_zero, List.getElem_cons_succ, Act.put, List.setIfInBounds_toArray, List.set_cons_zero, List.set_cons_succ]
  refine wpAnyH_take (i := 39) (v := ?_) rfl (by kernel_rfl) (by kernel_rfl) (by kernel_rfl) (fun _ _ _ h => h) (Or.inl ⟨by rfl, ?_⟩) (by assumption) ?_
  rotate_left
  · intro wS hSw; (try dsimp only at hSw)
    go_simp
    all_goals with_reducible rfl
  try simp only [List.getElem_toArray, List.getElem_cons_zero, List.getElem_cons_succ, Act.put, List.setIfInBounds_toArray, List.set_cons_zero, List.set_cons_succ]
  refine wpAnyH_take (i := 40) (v := ?_) rfl (by kernel_rfl) (by kernel_rfl) (by kernel_rfl) (fun _ _ _ h => h) (Or.inl ⟨by rfl, ?_⟩) (by assumption) ?_
  rotate_left
  · intro wS hSw; (try dsimp only at hSw)
    go_simp
    all_goals with_reducible rfl
  try simp only [List.getElem_toArray, List.getElem_cons_zero, List.getElem_cons_succ, Act.put, List.setIfInBounds_toArray, List.set_cons_zero, List.set_cons_succ]
  refine wpAnyH_take (i := 41) (v := ?_) rfl (by kernel_rfl) (by kernel_rfl) (by kernel_rfl) (fun _ _ _ h => h) (Or.inl ⟨by rfl, ?_⟩) (by assumption) ?_
  rotate_left
  · intro wS hSw; (try dsimp only at hSw)
    go_simp
    all_goals with_reducible rfl
  try simp only [List.getElem_toArray, List.getElem_cons_zero, List.getElem_cons_succ, Act.put, List.setIfInBounds_toArray, List.set_cons_zero, List.set_cons_succ]
  refine wpAnyH_ready (rs := [42]) (by kernel_rfl) (by simp) ?_
  refine AllReadyH.cons rfl (fun K hK => ?_) AllReadyH.nil
  refine step_go_w (by rfl) _ _ (by rfl) (by rfl) (callSameR _) (K2.out _ hf16) ?_
  rintro e w17 ⟨rfl, hf17⟩
  refine ⟨_, rfl, ?_⟩
  refine hK.out _ _ (HX.out _ hf17) (fun hHeld => ?_)
  clear hK K
  try simp only [List.getElem_toArray, List.getElem_cons_zero, List.getElem_cons_succ, Act.put, List.setIfInBounds_toArray, List.set_cons_zero, List.set_cons_succ]
  refine wpAnyH_take (i := 43) (v := ?_) rfl (by kernel_rfl) (by kernel_rfl) (by kernel_rfl) (fun _ _ _ h => h) (Or.inl ⟨by rfl, ?_⟩) (by assumption) ?_
  rotate_left
  · intro wS hSw; (try dsimp only at hSw)
    go_simp
    all_goals with_reducible rfl
  try simp only [List.getElem_toArray, List.getElem_cons_zero, List.getElem_cons_succ, Act.put, List.setIfInBounds_toArray, List.set_cons_zero, List.set_cons_succ]
  refine wpAnyH_take (i := 44) (v := ?_) rfl (by kernel_rfl) (by kernel_rfl) (by kernel_rfl) (fun _ _ _ h => h) (Or.inl ⟨by rfl, ?_⟩) (by assumption) ?_
  rotate_left
  · intro wS hSw; (try dsimp only at hSw)
    go_simp
    all_goals with_reducible rfl
  try simp only [List.getElem_toArray, List.getElem_cons_zero, List.getElem_cons_succ, Act.put, List.setIfInBounds_toArray, List.set_cons_zero, List.set_cons_succ]
  refine wpAnyH_take (i := 45) (v := ?_) rfl (by kernel_rfl) (by kernel_rfl) (by kernel_rfl) (fun _ _ _ h => h) (Or.inl ⟨by rfl, ?_⟩) (by assumption) ?_
  rotate_left
  · intro wS hSw; (try dsimp only at hSw)
    go_simp
    all_goals with_reducible rfl
  try simp only [List.getElem_toArray, List.getElem_cons_zero, List.getElem_cons_succ, Act.put, List.setIfInBounds_toArray, List.set_cons_zero, List.set_cons_succ]
  refine wpAnyH_take (i := 46) (v := ?_) rfl (by kernel_rfl) (by kernel_rfl) (by kernel_rfl) (fun _ _ _ h => h) (Or.inl ⟨by rfl, ?_⟩) (by assumption) ?_
  rotate_left
  · intro wS hSw; (try dsimp only at hSw)
    go_simp
    all_goals with_reducible rfl
  try simp only [List.getElem_toArray, List.getElem_cons_zero, List.getElem_cons_succ, Act.put, List.setIfInBounds_toArray, List.set_cons_zero, List.set_cons_succ]
  refine wpAnyH_take (i := 47) (v := ?_) rfl (by kernel_rfl) (by kernel_rfl) (by kernel_rfl) (fun _ _ _ h => h) (Or.inl ⟨by rfl, ?_⟩) (by assumption) ?_
  rotate_left
  · intro wS hSw; (try dsimp only at hSw)
    go_simp
    all_goals with_reducible rfl
  try simp only [List.getElem_toArray, List.getElem_cons_zero, List.getElem_cons_succ, Act.put, List.setIfInBounds_toArray, List.set_cons_zero, List.set_cons_succ]
  refine wpAnyH_take (i := 48) (v := ?_) rfl (by kernel_rfl) (by kernel_rfl) (by kernel_rfl) (fun _ _ _ h => h) (Or.inl ⟨by rfl, ?_⟩) (by assumption) ?_
  rotate_left
  · intro wS hSw; (try dsimp only at hSw)
    go_simp
    all_goals with_reducible rfl
  try simp only [List.getElem_toArray, List.getElem_cons_zero, List.getElem_cons_succ, Act.put, List.setIfInBounds_toArray, List.set_cons_zero, List.set_cons_succ]
  refine wpAnyH_take (i := 49) (v := ?_) rfl (by kernel_rfl) (by kernel_rfl) (by kernel_rfl) (fun _ _ _ h => h) (Or.inl ⟨by rfl, ?_⟩) (by assumption) ?_
  rotate_left
  · intro wS hSw; (try dsimp only at hSw)
    go_simp
    all_goals with_reducible rfl
  try simp only [List.getElem_toArray, List.getElem_cons_zero, List.getElem_cons_succ, Act.put, List.setIfInBounds_toArray, List.set_cons_zero, List.set_cons_succ]
  refine wpAnyH_take (i := 50) (v := ?_) rfl (by kernel_rfl) (by kernel_rfl) (by kernel_rfl) (fun _ _ _ h => h) (Or.inl ⟨by rfl, ?_⟩) (by assumption) ?_
  rotate_left
  · intro wS hSw; (try dsimp only at hSw)
    go_simp
    all_goals with_reducible rfl
  try simp only [List.getElem_toArray, List.getElem_cons_zero, List.getElem_cons_succ, Act.put, List.setIfInBounds_toArray, List.set_cons_zero, List.set_cons_succ]
  refine wpAnyH_ready (rs := [51]) (by kernel_rfl) (by simp) ?_
  refine AllReadyH.cons rfl (fun K hK => ?_) AllReadyH.nil
  refine step_go_w (by rfl) _ _ (by rfl) (by rfl) (callSame _) (K3.out _ hf17) ?_
  rintro e w18 ⟨rfl, hf18⟩
  refine ⟨_, rfl, ?_⟩
  refine hK.out _ _ (HX.out _ hf18) (fun hHeld => ?_)
  clear hK K
  try simp only [List.getElem_toArray, List.getElem_cons_zero, List.getElem_cons_succ, Act.put, List.setIfInBounds_toArray, List.set_cons_zero, List.set_cons_succ]
  refine wpAnyH_take (i := 52) (v := ?_) rfl (by kernel_rfl) (by kernel_rfl) (by kernel_rfl) (fun _ _ _ h => h) (Or.inl ⟨by rfl, ?_⟩) (by assumption) ?_
  rotate_left
  · intro wS hSw; (try dsimp only at hSw)
    go_simp
    all_goals with_reducible rfl
  try simp only [List.getElem_toArray, List.getElem_cons_zero, List.getElem_cons_succ, Act.put, List.setIfInBounds_toArray, List.set_cons_zero, List.set_cons_succ]
  refine wpAnyH_take (i := 53) (v := ?_) rfl (by kernel_rfl) (by kernel_rfl) (by kernel_rfl) (fun _ _ _ h => h) (Or.inl ⟨by rfl, ?_⟩) (by assumption) ?_
  rotate_left
  · intro wS hSw; (try dsimp only at hSw)
    go_simp
    all_goals with_reducible rfl
  try simp only [List.getElem_toArray, List.getElem_cons_zero, List.getElem_cons_succ, Act.put, List.setIfInBounds_toArray, List.set_cons_zero, List.set_cons_succ]
  refine wpAnyH_take (i := 54) (v := ?_) rfl (by kernel_rfl) (by kernel_rfl) (by kernel_rfl) (fun _ _ _ h => h) (Or.inl ⟨by rfl, ?_⟩) (by assumption) ?_
  rotate_left
  · intro wS hSw; (try dsimp only at hSw)
    go_simp
    all_goals with_reducible rfl
  try simp only [List.getElem_toArray, List.getElem_cons_zero, List.getElem_cons_succ, Act.put, List.setIfInBounds_toArray, List.set_cons_zero, List.set_cons_succ]
  refine wpAnyH_ready (rs := [55]) (by kernel_rfl) (by simp) ?_
  refine AllReadyH.cons rfl (fun K hK => ?_) AllReadyH.nil
  refine step_go_w (by rfl) _ _ (by rfl) (by rfl) (callCheck _) (K4.out _ hf18) ?_
  rintro e w19 ⟨rfl, hf19⟩
  refine ⟨_, rfl, ?_⟩
  refine hK.out _ _ (HX.out _ hf19) (fun hHeld => ?_)
  clear hK K
  try simp only [List.getElem_toArray, List.getElem_cons_zero, List.getElem_cons_succ, Act.put, List.setIfInBounds_toArray, List.set_cons_zero, List.set_cons_succ]
  refine wpAnyH_take (i := 56) (v := ?_) rfl (by kernel_rfl) (by kernel_rfl) (by kernel_rfl) (fun _ _ _ h => h) (Or.inl ⟨by rfl, ?_⟩) (by assumption) ?_
  rotate_left
  · intro wS hSw; (try dsimp only at hSw)
    go_simp
    all_goals with_reducible rfl
  try simp only [List.getElem_toArray, List.getElem_cons_zero, List.getElem_cons_succ, Act.put, List.setIfInBounds_toArray, List.set_cons_zero, List.set_cons_succ]
  refine wpAnyH_take (i := 57) (v := ?_) rfl (by kernel_rfl) (by kernel_rfl) (by kernel_rfl) (fun _ _ _ h => h) (Or.inl ⟨by rfl, ?_⟩) (by assumption) ?_
  rotate_left
  · intro wS hSw; (try dsimp only at hSw)
    go_simp
    all_goals with_reducible rfl
  try simp only [List.getElem_toArray, List.getElem_cons_zero, List.getElem_cons_succ, Act.put, List.setIfInBounds_toArray, List.set_cons_zero, List.set_cons_succ]
  refine wpAnyH_take (i := 58) (v := ?_) rfl (by kernel_rfl) (by kernel_rfl) (by kernel_rfl) (fun _ _ _ h => h) (Or.inl ⟨by rfl, ?_⟩) (by assumption) ?_
  rotate_left
  · intro wS hSw; (try dsimp only at hSw)
    go_simp
    all_goals with_reducible rfl
  try simp only [List.getElem_toArray, List.getElem_cons_zero, List.getElem_cons_succ, Act.put, List.setIfInBounds_toArray, List.set_cons_zero, List.set_cons_succ]
  refine wpAnyH_done (by kernel_rfl) ?_ _
  go_wp2
  go_ret
  exact ⟨rfl, HFin.out _ hf19⟩
end Go.Proofs.YtdgpaddmheagoaaGreatDoor
