/-
  Contracts: Apply: an item that is turned.
-/
import Derived.Test.YtjbifjgeheigoaaGreatGa28
import Derived.StillTailTactics
import Derived.Deep.RegionHeld3
set_option linter.unusedVariables false
set_option linter.unusedSimpArgs false
namespace Go.Proofs.YtjbifjgeheigoaaGreat
open Go.RowKit Go.Lib

set_option maxRecDepth 100000 in
set_option maxHeartbeats 8000000 in
theorem ApplyT8 {w wc : World} {g be bf bt : Nat} {M : Ms} {x : St} {v : Sl} (hS : StAt wc g M x) (hF : Frm Nix w wc) (a b n : Int) (s t u : ByteArray) (hB : Blk wc be 38 #[.int .i64 8, .int .i64 a, .int .i64 b, .int .i64 n, .string s, .string t, .string u]) (hBf : Blk wc bf 60 #[.int .i64 (feeAt x a).id, .int .i64 (feeAt x a).inn, .string (feeAt x a).url, .string (feeAt x a).title]) (hBt : Blk wc bt 63 (itmA v (itmAt x a))) (hv : TagsIn wc v (itmAt x a).tags) (hlt : ∀ k, SF g M k → k < w.heap.size) (hse : w.heap.size ≤ be) (hsf : w.heap.size ≤ bf) (hst : w.heap.size ≤ bt) (hfit : fits x ⟨8, a, b, n, s, t, u⟩ = true) (ha : I64 a) (hb : I64 b) {u8 u9 u10 u11 u12 u13 u14 u15 u16 u17 u18 u19 u20 u21 u22 u23 u24 u25 : Value} :
    Code.wp Tryz.prog (peel 3 (bodyOf Tryz.f22)) (bodyPost Tryz.prog Tryz.f22 fun r w' => r = .returned (.bool true) ∧ StAt w' g M (doS x ⟨8, a, b, n, s, t, u⟩) ∧ Frm (SF g M) w w') ⟨#[.pointer (some ⟨g, 0, none⟩), .agg #[.int .i64 8, .int .i64 a, .int .i64 b, .int .i64 n, .string s, .string t, .string u], undef, .pointer (some ⟨be, 0, none⟩), .bool false, .pointer (some ⟨bf, 0, none⟩), .pointer (some ⟨bt, 0, none⟩), undef, u8, u9, u10, u11, u12, u13, u14, u15, u16, u17, u18, u19, u20, u21, u22, u23, u24, u25, undef, undef, undef, undef, undef, undef, undef, undef, undef, undef, undef, undef, undef, undef, undef, undef, undef, undef, undef, undef, undef, undef, undef, undef, undef, undef, undef, undef, undef, undef, undef, undef, undef, undef, undef, undef, undef, undef, undef, undef, undef, undef, undef, undef, undef, undef, undef, undef, undef, undef, undef, undef, undef, undef, undef, undef, undef, undef, undef, undef, undef, undef, undef, undef, undef, undef, undef, undef, undef, undef, undef, undef, undef, undef, undef, undef, undef, undef, undef, undef, undef, undef, undef, undef, undef, undef, undef, undef, undef, undef, undef, undef, undef, undef, undef, undef, undef, undef, undef, undef, undef, undef, undef, undef, undef, undef, undef, undef, undef, undef, undef, undef, undef, undef, undef, undef, undef, undef, undef, undef, undef, undef, undef, undef], []⟩ wc := by
  obtain ⟨d0, d1, d2, d3, d4, d5, d6⟩ := blk7 hB
  have he := fits_ev hfit
  obtain ⟨f, hfm, hfa⟩ := (fits89 (x := x) (.inl rfl) he).1 hfit
  simp only at hfa
  have hat := atI_some hS.ok.iR hfm hfa
  have hok := doS_ok hS.ok hfit
  rw [do8 rfl] at hok ⊢
  simp only at hok ⊢
  have hn' : (n == 1) = decide (n = 1) := by rw [Bool.eq_iff_iff]; simp
  generalize decide (n = 1) = bb at *
  have hitm : itmAt x a = f := by unfold itmAt; rw [hat]; rfl
  rw [hitm] at hBt hv
  unfold itmA at hBt
  have hbt : ¬ SF g M bt := fun h => by have := hlt bt h; omega
  have hbts : ¬ StrB wc bt := fun h => hBt.ne_str (by decide) h rfl
  have ne : ∀ k, SF g M k → ¬ k = bt := fun k hk e => hbt (e ▸ hk)
  have hbb : be ≠ bt := hB.ne_ hBt (by decide)
  obtain ⟨⟨g1, g2, g3, g4, g5, g6, g7, g8⟩, -⟩ := hS.apart.ne
  obtain ⟨w1, hw1⟩ : ∃ w1, w1 = wc.setCell ⟨bt, 6, none⟩ (.bool bb) := ⟨_, rfl⟩
  have f1 : Frm (· = bt) wc w1 := by rw [hw1]; exact (Frm.refl (· = bt) wc).setCell (.inl rfl) _
  have b1 : Blk w1 bt 63 #[.int .i64 f.id, .int .i64 f.feed, .int .i64 f.date, .string f.guid, .string f.title, .string f.link, .bool bb, .bool f.star, .slice v.1 f.tags.length v.2] := by
    rw [hw1]
    have := hBt.set_ 6 (.bool bb)
    simpa using this
  have x6 := hBt.cell 6
  have fz := hBt.frozen 6
  simp at x6
  have y0 := b1.cell 0
  have y1 := b1.cell 1
  have y2 := b1.cell 2
  have y3 := b1.cell 3
  have y4 := b1.cell 4
  have y5 := b1.cell 5
  have y6 := b1.cell 6
  have y7 := b1.cell 7
  have y8 := b1.cell 8
  simp at y0 y1 y2 y3 y4 y5 y6 y7 y8
  obtain ⟨d0', d1', -⟩ := blk7 (hB.frm f1 hbb)
  have q3 := (hS.blk.frm f1 (ne _ (by simp [SF]))).cell 3
  simp at q3
  obtain ⟨sl, hi, htg⟩ := hS.maps.it
  obtain ⟨w2, r2, m2, f2⟩ := ((hi.frm f1 (ne _ (by simp [SF]))).frm (Frm.refl Nix w1).drew id).update_old keyedI Tryz.underlying102 ((delI_perm hat).map fun t : Itm => (kI t.id, itmV (sl t.id) t)) (itmV v { f with read := bb })
  rw [show kI f.id = kI a by rw [hfa]] at r2 m2
  have r2' : (Instr.mapUpdate 102 (.map (some M.it)) (.int .i64 a) (.agg #[.int .i64 f.id, .int .i64 f.feed, .int .i64 f.date, .string f.guid, .string f.title, .string f.link, .bool bb, .bool f.star, .slice v.1 f.tags.length v.2])).run Tryz.prog w1.drew = .ok () w2 := r2
  have f2' : Frm (· = M.it) w1 w2 := (Frm.refl (· = M.it) w1).drew.trans f2
  have f12 : Frm (fun k => k = M.it ∨ k = bt) wc w2 := (f1.mono fun k hk => .inr hk).trans (f2'.mono fun k hk => .inl hk)
  have hv2 : TagsIn w2 v f.tags := hv.frm f12 fun k hk e => by
    rcases e with e | e
    · exact hS.str k hk (by simp [SF, e])
    · exact hbts (e ▸ hk)
  have HM := Lib.hid (itm_mem (b := bt) hS htg hat (fun f => { f with read := bb }) rfl rfl rfl hv2 m2 f12 hbt hbts hok)
  have HF := Lib.hid hF
  have HW := Lib.hid hw1
  clear hS hF hB hBf hBt hv hlt hfit hok hat hfm r2 m2 f2 f2' f12 b1 f1 hw1 hfa hbts hi htg hv2 hitm
  simp only [peel, bodyOf, Tryz.f22]
  go_wp2
  rw [← HW.out]
  go_still_tail 7, (by kernel_rfl)
  change wpList _ _ _ _ _ w1.drew
  go_wp2_with (at_mapUpdate; refine wpList_mapUpdate_run r2' rfl _ _ _ rfl rfl rfl rfl ?_)
  go_ret
  exact ⟨rfl, HM.out.1, (Frm.nix (F := SF g M) HF.out).next HM.out.2 fun k hk => hk.imp id fun e => by omega⟩

set_option maxRecDepth 100000 in
set_option maxHeartbeats 8000000 in
theorem ApplyT9 {w wc : World} {g be bf bt : Nat} {M : Ms} {x : St} {v : Sl} (hS : StAt wc g M x) (hF : Frm Nix w wc) (a b n : Int) (s t u : ByteArray) (hB : Blk wc be 38 #[.int .i64 9, .int .i64 a, .int .i64 b, .int .i64 n, .string s, .string t, .string u]) (hBf : Blk wc bf 60 #[.int .i64 (feeAt x a).id, .int .i64 (feeAt x a).inn, .string (feeAt x a).url, .string (feeAt x a).title]) (hBt : Blk wc bt 63 (itmA v (itmAt x a))) (hv : TagsIn wc v (itmAt x a).tags) (hlt : ∀ k, SF g M k → k < w.heap.size) (hse : w.heap.size ≤ be) (hsf : w.heap.size ≤ bf) (hst : w.heap.size ≤ bt) (hfit : fits x ⟨9, a, b, n, s, t, u⟩ = true) (ha : I64 a) (hb : I64 b) {u8 u9 u10 u11 u12 u13 u14 u15 u16 u17 u18 u19 u20 u21 u22 u23 u24 u25 : Value} :
    Code.wp Tryz.prog (peel 3 (bodyOf Tryz.f22)) (bodyPost Tryz.prog Tryz.f22 fun r w' => r = .returned (.bool true) ∧ StAt w' g M (doS x ⟨9, a, b, n, s, t, u⟩) ∧ Frm (SF g M) w w') ⟨#[.pointer (some ⟨g, 0, none⟩), .agg #[.int .i64 9, .int .i64 a, .int .i64 b, .int .i64 n, .string s, .string t, .string u], undef, .pointer (some ⟨be, 0, none⟩), .bool false, .pointer (some ⟨bf, 0, none⟩), .pointer (some ⟨bt, 0, none⟩), undef, u8, u9, u10, u11, u12, u13, u14, u15, u16, u17, u18, u19, u20, u21, u22, u23, u24, u25, undef, undef, undef, undef, undef, undef, undef, undef, undef, undef, undef, undef, undef, undef, undef, undef, undef, undef, undef, undef, undef, undef, undef, undef, undef, undef, undef, undef, undef, undef, undef, undef, undef, undef, undef, undef, undef, undef, undef, undef, undef, undef, undef, undef, undef, undef, undef, undef, undef, undef, undef, undef, undef, undef, undef, undef, undef, undef, undef, undef, undef, undef, undef, undef, undef, undef, undef, undef, undef, undef, undef, undef, undef, undef, undef, undef, undef, undef, undef, undef, undef, undef, undef, undef, undef, undef, undef, undef, undef, undef, undef, undef, undef, undef, undef, undef, undef, undef, undef, undef, undef, undef, undef, undef, undef, undef, undef, undef, undef, undef, undef, undef, undef, undef, undef, undef, undef, undef, undef, undef, undef, undef, undef, undef], []⟩ wc := by
  obtain ⟨d0, d1, d2, d3, d4, d5, d6⟩ := blk7 hB
  have he := fits_ev hfit
  obtain ⟨f, hfm, hfa⟩ := (fits89 (x := x) (.inr rfl) he).1 hfit
  simp only at hfa
  have hat := atI_some hS.ok.iR hfm hfa
  have hok := doS_ok hS.ok hfit
  rw [do9 rfl] at hok ⊢
  simp only at hok ⊢
  have hn' : (n == 1) = decide (n = 1) := by rw [Bool.eq_iff_iff]; simp
  generalize decide (n = 1) = bb at *
  have hitm : itmAt x a = f := by unfold itmAt; rw [hat]; rfl
  rw [hitm] at hBt hv
  unfold itmA at hBt
  have hbt : ¬ SF g M bt := fun h => by have := hlt bt h; omega
  have hbts : ¬ StrB wc bt := fun h => hBt.ne_str (by decide) h rfl
  have ne : ∀ k, SF g M k → ¬ k = bt := fun k hk e => hbt (e ▸ hk)
  have hbb : be ≠ bt := hB.ne_ hBt (by decide)
  obtain ⟨⟨g1, g2, g3, g4, g5, g6, g7, g8⟩, -⟩ := hS.apart.ne
  obtain ⟨w1, hw1⟩ : ∃ w1, w1 = wc.setCell ⟨bt, 7, none⟩ (.bool bb) := ⟨_, rfl⟩
  have f1 : Frm (· = bt) wc w1 := by rw [hw1]; exact (Frm.refl (· = bt) wc).setCell (.inl rfl) _
  have b1 : Blk w1 bt 63 #[.int .i64 f.id, .int .i64 f.feed, .int .i64 f.date, .string f.guid, .string f.title, .string f.link, .bool f.read, .bool bb, .slice v.1 f.tags.length v.2] := by
    rw [hw1]
    have := hBt.set_ 7 (.bool bb)
    simpa using this
  have x6 := hBt.cell 7
  have fz := hBt.frozen 7
  simp at x6
  have y0 := b1.cell 0
  have y1 := b1.cell 1
  have y2 := b1.cell 2
  have y3 := b1.cell 3
  have y4 := b1.cell 4
  have y5 := b1.cell 5
  have y6 := b1.cell 6
  have y7 := b1.cell 7
  have y8 := b1.cell 8
  simp at y0 y1 y2 y3 y4 y5 y6 y7 y8
  obtain ⟨d0', d1', -⟩ := blk7 (hB.frm f1 hbb)
  have q3 := (hS.blk.frm f1 (ne _ (by simp [SF]))).cell 3
  simp at q3
  obtain ⟨sl, hi, htg⟩ := hS.maps.it
  obtain ⟨w2, r2, m2, f2⟩ := ((hi.frm f1 (ne _ (by simp [SF]))).frm (Frm.refl Nix w1).drew id).update_old keyedI Tryz.underlying102 ((delI_perm hat).map fun t : Itm => (kI t.id, itmV (sl t.id) t)) (itmV v { f with star := bb })
  rw [show kI f.id = kI a by rw [hfa]] at r2 m2
  have r2' : (Instr.mapUpdate 102 (.map (some M.it)) (.int .i64 a) (.agg #[.int .i64 f.id, .int .i64 f.feed, .int .i64 f.date, .string f.guid, .string f.title, .string f.link, .bool f.read, .bool bb, .slice v.1 f.tags.length v.2])).run Tryz.prog w1.drew = .ok () w2 := r2
  have f2' : Frm (· = M.it) w1 w2 := (Frm.refl (· = M.it) w1).drew.trans f2
  have f12 : Frm (fun k => k = M.it ∨ k = bt) wc w2 := (f1.mono fun k hk => .inr hk).trans (f2'.mono fun k hk => .inl hk)
  have hv2 : TagsIn w2 v f.tags := hv.frm f12 fun k hk e => by
    rcases e with e | e
    · exact hS.str k hk (by simp [SF, e])
    · exact hbts (e ▸ hk)
  have HM := Lib.hid (itm_mem (b := bt) hS htg hat (fun f => { f with star := bb }) rfl rfl rfl hv2 m2 f12 hbt hbts hok)
  have HF := Lib.hid hF
  have HW := Lib.hid hw1
  clear hS hF hB hBf hBt hv hlt hfit hok hat hfm r2 m2 f2 f2' f12 b1 f1 hw1 hfa hbts hi htg hv2 hitm
  simp only [peel, bodyOf, Tryz.f22]
  go_wp2
  rw [← HW.out]
  go_still_tail 7, (by kernel_rfl)
  change wpList _ _ _ _ _ w1.drew
  go_wp2_with (at_mapUpdate; refine wpList_mapUpdate_run r2' rfl _ _ _ rfl rfl rfl rfl ?_)
  go_ret
  exact ⟨rfl, HM.out.1, (Frm.nix (F := SF g M) HF.out).next HM.out.2 fun k hk => hk.imp id fun e => by omega⟩

set_option maxRecDepth 100000 in
set_option maxHeartbeats 8000000 in
theorem ApplyT10 {w wc : World} {g be bf bt : Nat} {M : Ms} {x : St} {v : Sl} (hS : StAt wc g M x) (hF : Frm Nix w wc) (a b n : Int) (s t u : ByteArray) (hB : Blk wc be 38 #[.int .i64 10, .int .i64 a, .int .i64 b, .int .i64 n, .string s, .string t, .string u]) (hBf : Blk wc bf 60 #[.int .i64 (feeAt x a).id, .int .i64 (feeAt x a).inn, .string (feeAt x a).url, .string (feeAt x a).title]) (hBt : Blk wc bt 63 (itmA v (itmAt x a))) (hv : TagsIn wc v (itmAt x a).tags) (hlt : ∀ k, SF g M k → k < w.heap.size) (hse : w.heap.size ≤ be) (hsf : w.heap.size ≤ bf) (hst : w.heap.size ≤ bt) (hfit : fits x ⟨10, a, b, n, s, t, u⟩ = true) (ha : I64 a) (hb : I64 b) {u8 u9 u10 u11 u12 u13 u14 u15 u16 u17 u18 u19 u20 u21 u22 u23 u24 u25 : Value} :
    Code.wp Tryz.prog (peel 3 (bodyOf Tryz.f22)) (bodyPost Tryz.prog Tryz.f22 fun r w' => r = .returned (.bool true) ∧ StAt w' g M (doS x ⟨10, a, b, n, s, t, u⟩) ∧ Frm (SF g M) w w') ⟨#[.pointer (some ⟨g, 0, none⟩), .agg #[.int .i64 10, .int .i64 a, .int .i64 b, .int .i64 n, .string s, .string t, .string u], undef, .pointer (some ⟨be, 0, none⟩), .bool false, .pointer (some ⟨bf, 0, none⟩), .pointer (some ⟨bt, 0, none⟩), undef, u8, u9, u10, u11, u12, u13, u14, u15, u16, u17, u18, u19, u20, u21, u22, u23, u24, u25, undef, undef, undef, undef, undef, undef, undef, undef, undef, undef, undef, undef, undef, undef, undef, undef, undef, undef, undef, undef, undef, undef, undef, undef, undef, undef, undef, undef, undef, undef, undef, undef, undef, undef, undef, undef, undef, undef, undef, undef, undef, undef, undef, undef, undef, undef, undef, undef, undef, undef, undef, undef, undef, undef, undef, undef, undef, undef, undef, undef, undef, undef, undef, undef, undef, undef, undef, undef, undef, undef, undef, undef, undef, undef, undef, undef, undef, undef, undef, undef, undef, undef, undef, undef, undef, undef, undef, undef, undef, undef, undef, undef, undef, undef, undef, undef, undef, undef, undef, undef, undef, undef, undef, undef, undef, undef, undef, undef, undef, undef, undef, undef, undef, undef, undef, undef, undef, undef, undef, undef, undef, undef, undef, undef], []⟩ wc := by
  obtain ⟨d0, d1, d2, d3, d4, d5, d6⟩ := blk7 hB
  have he := fits_ev hfit
  obtain ⟨f, hat, -⟩ := (fits10 (x := x) rfl he).1 hfit
  simp only at hat
  have hfa : f.id = a := (atI_mem hat).2
  have hok := doS_ok hS.ok hfit
  rw [do10 rfl] at hok ⊢
  simp only at hok ⊢
  have hn01 : n = 0 ∨ n = 1 := (flag_of rfl he).1
  have hitm : itmAt x a = f := by unfold itmAt; rw [hat]; rfl
  rw [hitm] at hBt hv
  unfold itmA at hBt
  have hbt : ¬ SF g M bt := fun h => by have := hlt bt h; omega
  have hbts : ¬ StrB wc bt := fun h => hBt.ne_str (by decide) h rfl
  have ne : ∀ k, SF g M k → ¬ k = bt := fun k hk e => hbt (e ▸ hk)
  have hbb : be ≠ bt := hB.ne_ hBt (by decide)
  obtain ⟨⟨g1, g2, g3, g4, g5, g6, g7, g8⟩, -⟩ := hS.apart.ne
  have KT := Lib.hid (tagged_any hS 10 a b n s t u ha hn01)
  rw [hitm] at KT
  unfold evV slV at KT
  obtain ⟨L, hL⟩ : ∃ L, L = tagsS f.tags s (decide (n = 1)) := ⟨_, rfl⟩
  rw [← hL] at KT
  have x8 := hBt.cell 8
  simp at x8
  have HS := Lib.hid hS
  have HF := Lib.hid hF
  have HB := Lib.hid hB
  have HBt := Lib.hid hBt
  have HOk := Lib.hid hok
  have HAt := Lib.hid hat
  have HFa := Lib.hid hfa
  have HLt := Lib.hid hL
  have nbe : ∀ k, SF g M k → ¬ be = k := fun k hk e => by have := hlt k hk; omega
  clear hS hF hB hBf hBt hv hfit hok hat hitm hfa hL
  simp only [peel, bodyOf, Tryz.f22]
  go_wp2_with (go_at_call 81; refine KT.out.mono ?_; rintro r w1 ⟨v', rfl, hv1, f1⟩; have b1 := HBt.out.frm f1 id; have x8' := b1.cell 8; have fz := b1.frozen 8; simp at x8'; have HB1 := Lib.hid b1; clear b1)
  obtain ⟨w3, hw3⟩ : ∃ w3, w3 = w1.setCell ⟨bt, 8, none⟩ (.slice v'.1 L.length v'.2) := ⟨_, rfl⟩
  rw [← hw3]
  have b1 := HB1.out
  have f3 : Frm (· = bt) w1 w3 := by rw [hw3]; exact (Frm.refl (· = bt) w1).setCell (.inl rfl) _
  have b3 : Blk w3 bt 63 #[.int .i64 f.id, .int .i64 f.feed, .int .i64 f.date, .string f.guid, .string f.title, .string f.link, .bool f.read, .bool f.star, .slice v'.1 L.length v'.2] := by
    rw [hw3]
    have := b1.set_ 8 (.slice v'.1 L.length v'.2)
    simpa using this
  have h1 := HS.out.nix f1
  have y0 := b3.cell 0
  have y1 := b3.cell 1
  have y2 := b3.cell 2
  have y3 := b3.cell 3
  have y4 := b3.cell 4
  have y5 := b3.cell 5
  have y6 := b3.cell 6
  have y7 := b3.cell 7
  have y8 := b3.cell 8
  simp at y0 y1 y2 y3 y4 y5 y6 y7 y8
  obtain ⟨e0', e1', -⟩ := blk7 ((HB.out.frm f1 id).frm f3 hbb)
  have q3 := (h1.blk.frm f3 (ne _ (by simp [SF]))).cell 3
  simp at q3
  obtain ⟨sl, hi, htg⟩ := h1.maps.it
  obtain ⟨w4, r4, m4, f4⟩ := ((hi.frm f3 (ne _ (by simp [SF]))).frm (Frm.refl Nix w3).drew id).update_old keyedI Tryz.underlying102 ((delI_perm HAt.out).map fun t : Itm => (kI t.id, itmV (sl t.id) t)) (itmV v' { f with tags := L })
  rw [show kI f.id = kI a by rw [HFa.out]] at r4 m4
  have r4' : (Instr.mapUpdate 102 (.map (some M.it)) (.int .i64 a) (.agg #[.int .i64 f.id, .int .i64 f.feed, .int .i64 f.date, .string f.guid, .string f.title, .string f.link, .bool f.read, .bool f.star, .slice v'.1 L.length v'.2])).run Tryz.prog w3.drew = .ok () w4 := r4
  have f4' : Frm (· = M.it) w3 w4 := (Frm.refl (· = M.it) w3).drew.trans f4
  have f14 : Frm (fun k => k = M.it ∨ k = bt) w1 w4 := (f3.mono fun k hk => .inr hk).trans (f4'.mono fun k hk => .inl hk)
  have hbts1 : ¬ StrB w1 bt := fun h => b1.ne_str (by decide) h rfl
  have hv4 : TagsIn w4 v' L := hv1.frm f14 fun k hk e => by
    rcases e with e | e
    · exact h1.str k hk (by simp [SF, e])
    · exact hbts1 (e ▸ hk)
  have hL := HLt.out
  rw [hL] at m4 hv4
  have HM := Lib.hid (itm_mem (b := bt) h1 htg HAt.out (fun f => { f with tags := tagsS f.tags s (decide (n = 1)) }) rfl rfl rfl hv4 m4 f14 hbt hbts1 HOk.out)
  have HF1 := Lib.hid (HF.out.trans f1)
  clear b1 f3 b3 h1 r4 m4 f4 f4' f14 hv1 hv4 hi htg hw3 x8 x8' d0 d1 d2 d3 d4 d5 d6 hL hbts1 f1
  go_still_tail 7, (by kernel_rfl)
  change wpList _ _ _ _ _ w3.drew
  go_wp2_with (at_mapUpdate; refine wpList_mapUpdate_run r4' rfl _ _ _ rfl rfl rfl rfl ?_)
  go_ret
  exact ⟨rfl, HM.out.1, (Frm.nix (F := SF g M) HF1.out).next HM.out.2 fun k hk => hk.imp id fun e => by omega⟩

end Go.Proofs.YtjbifjgeheigoaaGreat
