/-
  Contracts: Apply.
-/
import Derived.Test.YtjbifjgeheigoaaGreatGa28
import Derived.Test.YtjbifjgeheigoaaGreatGa29
import Derived.Test.YtjbifjgeheigoaaGreatGa30
import Derived.Deep.RegionHeld3
set_option linter.unusedVariables false
set_option linter.unusedSimpArgs false
namespace Go.Proofs.YtjbifjgeheigoaaGreat
open Go.RowKit Go.Lib

theorem ApplyT {w wc : World} {g be bf bt : Nat} {M : Ms} {x : St} {v : Sl} (hS : StAt wc g M x) (hF : Frm Nix w wc) (k a b n : Int) (s t u : ByteArray) (hB : Blk wc be 38 #[.int .i64 k, .int .i64 a, .int .i64 b, .int .i64 n, .string s, .string t, .string u]) (hBf : Blk wc bf 60 #[.int .i64 (feeAt x a).id, .int .i64 (feeAt x a).inn, .string (feeAt x a).url, .string (feeAt x a).title]) (hBt : Blk wc bt 63 (itmA v (itmAt x a))) (hv : TagsIn wc v (itmAt x a).tags) (hlt : ∀ k, SF g M k → k < w.heap.size) (hse : w.heap.size ≤ be) (hsf : w.heap.size ≤ bf) (hst : w.heap.size ≤ bt) (hfit : fits x ⟨k, a, b, n, s, t, u⟩ = true) (ha : I64 a) (hb : I64 b) {u8 u9 u10 u11 u12 u13 u14 u15 u16 u17 u18 u19 u20 u21 u22 u23 u24 u25 : Value} :
    Code.wp Tryz.prog (peel 3 (bodyOf Tryz.f22)) (bodyPost Tryz.prog Tryz.f22 fun r w' => r = .returned (.bool true) ∧ StAt w' g M (doS x ⟨k, a, b, n, s, t, u⟩) ∧ Frm (SF g M) w w') ⟨#[.pointer (some ⟨g, 0, none⟩), .agg #[.int .i64 k, .int .i64 a, .int .i64 b, .int .i64 n, .string s, .string t, .string u], undef, .pointer (some ⟨be, 0, none⟩), .bool false, .pointer (some ⟨bf, 0, none⟩), .pointer (some ⟨bt, 0, none⟩), undef, u8, u9, u10, u11, u12, u13, u14, u15, u16, u17, u18, u19, u20, u21, u22, u23, u24, u25, undef, undef, undef, undef, undef, undef, undef, undef, undef, undef, undef, undef, undef, undef, undef, undef, undef, undef, undef, undef, undef, undef, undef, undef, undef, undef, undef, undef, undef, undef, undef, undef, undef, undef, undef, undef, undef, undef, undef, undef, undef, undef, undef, undef, undef, undef, undef, undef, undef, undef, undef, undef, undef, undef, undef, undef, undef, undef, undef, undef, undef, undef, undef, undef, undef, undef, undef, undef, undef, undef, undef, undef, undef, undef, undef, undef, undef, undef, undef, undef, undef, undef, undef, undef, undef, undef, undef, undef, undef, undef, undef, undef, undef, undef, undef, undef, undef, undef, undef, undef, undef, undef, undef, undef, undef, undef, undef, undef, undef, undef, undef, undef, undef, undef, undef, undef, undef, undef, undef, undef, undef, undef, undef, undef], []⟩ wc := by
  have hk := evKind (fits_ev hfit)
  simp only at hk
  rcases hk with rfl | rfl | rfl | rfl | rfl | rfl | rfl | rfl | rfl | rfl | rfl | rfl | rfl
  · exact ApplyT1 hS hF a b n s t u hB hBf hBt hv hlt hse hsf hst hfit ha hb
  · exact ApplyT2 hS hF a b n s t u hB hBf hBt hv hlt hse hsf hst hfit ha hb
  · exact ApplyT3 hS hF a b n s t u hB hBf hBt hv hlt hse hsf hst hfit ha hb
  · exact ApplyT4 hS hF a b n s t u hB hBf hBt hv hlt hse hsf hst hfit ha hb
  · exact ApplyT5 hS hF a b n s t u hB hBf hBt hv hlt hse hsf hst hfit ha hb
  · exact ApplyT6 hS hF a b n s t u hB hBf hBt hv hlt hse hsf hst hfit ha hb
  · exact ApplyT7 hS hF a b n s t u hB hBf hBt hv hlt hse hsf hst hfit ha hb
  · exact ApplyT8 hS hF a b n s t u hB hBf hBt hv hlt hse hsf hst hfit ha hb
  · exact ApplyT9 hS hF a b n s t u hB hBf hBt hv hlt hse hsf hst hfit ha hb
  · exact ApplyT10 hS hF a b n s t u hB hBf hBt hv hlt hse hsf hst hfit ha hb
  · exact ApplyT11 hS hF a b n s t u hB hBf hBt hv hlt hse hsf hst hfit ha hb
  · exact ApplyT12 hS hF a b n s t u hB hBf hBt hv hlt hse hsf hst hfit ha hb
  · exact ApplyT13 hS hF a b n s t u hB hBf hBt hv hlt hse hsf hst hfit ha hb
set_option maxRecDepth 100000 in
set_option maxHeartbeats 8000000 in
theorem ApplyP2 {w wc : World} {g be : Nat} {M : Ms} {x : St} (hS : StAt wc g M x) (hF : Frm Nix w wc) (k a b n : Int) (s t u : ByteArray) (hB : Blk wc be 38 #[.int .i64 k, .int .i64 a, .int .i64 b, .int .i64 n, .string s, .string t, .string u]) (hlt : ∀ k, SF g M k → k < w.heap.size) (hse : w.heap.size ≤ be) (hfit : fits x ⟨k, a, b, n, s, t, u⟩ = true) (ha : I64 a) (hb : I64 b) {u8 u9 u10 u11 : Value} :
    Code.wp Tryz.prog (peel 2 (bodyOf Tryz.f22)) (bodyPost Tryz.prog Tryz.f22 fun r w' => r = .returned (.bool true) ∧ StAt w' g M (doS x ⟨k, a, b, n, s, t, u⟩) ∧ Frm (SF g M) w w') ⟨#[.pointer (some ⟨g, 0, none⟩), .agg #[.int .i64 k, .int .i64 a, .int .i64 b, .int .i64 n, .string s, .string t, .string u], undef, .pointer (some ⟨be, 0, none⟩), .bool false, undef, undef, undef, u8, u9, u10, u11, undef, undef, undef, undef, undef, undef, undef, undef, undef, undef, undef, undef, undef, undef, undef, undef, undef, undef, undef, undef, undef, undef, undef, undef, undef, undef, undef, undef, undef, undef, undef, undef, undef, undef, undef, undef, undef, undef, undef, undef, undef, undef, undef, undef, undef, undef, undef, undef, undef, undef, undef, undef, undef, undef, undef, undef, undef, undef, undef, undef, undef, undef, undef, undef, undef, undef, undef, undef, undef, undef, undef, undef, undef, undef, undef, undef, undef, undef, undef, undef, undef, undef, undef, undef, undef, undef, undef, undef, undef, undef, undef, undef, undef, undef, undef, undef, undef, undef, undef, undef, undef, undef, undef, undef, undef, undef, undef, undef, undef, undef, undef, undef, undef, undef, undef, undef, undef, undef, undef, undef, undef, undef, undef, undef, undef, undef, undef, undef, undef, undef, undef, undef, undef, undef, undef, undef, undef, undef], []⟩ wc := by
  have e : peel 2 (bodyOf Tryz.f22) = .seq (hdC (peel 2 (bodyOf Tryz.f22))) (peel 3 (bodyOf Tryz.f22)) := by kernel_rfl
  rw [e]
  clear e
  refine wp_seq_k fun K hK => ?_
  obtain ⟨vt, hvt⟩ := hS.itmSl ha
  have HMk : Hid (∀ W, Frm Nix wc W → (fun W => Frm Nix wc W ∧ W.cell? ⟨g, 2, none⟩ = some (.map (some M.fe)) ∧ W.cell? ⟨g, 3, none⟩ = some (.map (some M.it)) ∧ W.cell? ⟨be, 1, none⟩ = some (.int .i64 a) ∧ (Instr.lookup 101 (.map (some M.fe)) (.int .i64 a) false).run Tryz.prog W = .ok (.agg #[.int .i64 (feeAt x a).id, .int .i64 (feeAt x a).inn, .string (feeAt x a).url, .string (feeAt x a).title]) W ∧ (Instr.lookup 102 (.map (some M.it)) (.int .i64 a) false).run Tryz.prog W = .ok (.agg #[.int .i64 (itmAt x a).id, .int .i64 (itmAt x a).feed, .int .i64 (itmAt x a).date, .string (itmAt x a).guid, .string (itmAt x a).title, .string (itmAt x a).link, .bool (itmAt x a).read, .bool (itmAt x a).star, .slice vt.1 (itmAt x a).tags.length vt.2]) W) W) := fun W hf => ⟨hf, (hS.nix hf).cells.2.2.1, (hS.nix hf).cells.2.2.2.1, (blk7 (hB.frm hf id)).2.1, (hS.nix hf).feeLook ha false, (hvt _ hf).2 false⟩
  have HT : Hid (∀ W, Frm Nix wc W → TagsIn W vt (itmAt x a).tags) := fun W hf => (hvt _ hf).1
  have hf0 := Frm.refl Nix wc
  have hsz := hF.size
  simp only [hdC, peel, bodyOf, Tryz.f22]
  have HS := Lib.hid hS
  have HF := Lib.hid hF
  have HB := Lib.hid hB
  have HLt := Lib.hid hlt
  have e1 : ∀ o, (wc.alloc o).heap.size = wc.heap.size + 1 := fun o => by simp
  have HA : Hid (StAt ((wc.alloc (.cells #[.int .i64 (feeAt x a).id, .int .i64 (feeAt x a).inn, .string (feeAt x a).url, .string (feeAt x a).title] 60)).alloc (.cells #[.int .i64 (itmAt x a).id, .int .i64 (itmAt x a).feed, .int .i64 (itmAt x a).date, .string (itmAt x a).guid, .string (itmAt x a).title, .string (itmAt x a).link, .bool (itmAt x a).read, .bool (itmAt x a).star, .slice vt.1 (itmAt x a).tags.length vt.2] 63)).drew g M x ∧ Frm Nix w ((wc.alloc (.cells #[.int .i64 (feeAt x a).id, .int .i64 (feeAt x a).inn, .string (feeAt x a).url, .string (feeAt x a).title] 60)).alloc (.cells #[.int .i64 (itmAt x a).id, .int .i64 (itmAt x a).feed, .int .i64 (itmAt x a).date, .string (itmAt x a).guid, .string (itmAt x a).title, .string (itmAt x a).link, .bool (itmAt x a).read, .bool (itmAt x a).star, .slice vt.1 (itmAt x a).tags.length vt.2] 63)).drew ∧ Blk ((wc.alloc (.cells #[.int .i64 (feeAt x a).id, .int .i64 (feeAt x a).inn, .string (feeAt x a).url, .string (feeAt x a).title] 60)).alloc (.cells #[.int .i64 (itmAt x a).id, .int .i64 (itmAt x a).feed, .int .i64 (itmAt x a).date, .string (itmAt x a).guid, .string (itmAt x a).title, .string (itmAt x a).link, .bool (itmAt x a).read, .bool (itmAt x a).star, .slice vt.1 (itmAt x a).tags.length vt.2] 63)).drew be 38 #[.int .i64 k, .int .i64 a, .int .i64 b, .int .i64 n, .string s, .string t, .string u] ∧ Blk ((wc.alloc (.cells #[.int .i64 (feeAt x a).id, .int .i64 (feeAt x a).inn, .string (feeAt x a).url, .string (feeAt x a).title] 60)).alloc (.cells #[.int .i64 (itmAt x a).id, .int .i64 (itmAt x a).feed, .int .i64 (itmAt x a).date, .string (itmAt x a).guid, .string (itmAt x a).title, .string (itmAt x a).link, .bool (itmAt x a).read, .bool (itmAt x a).star, .slice vt.1 (itmAt x a).tags.length vt.2] 63)).drew wc.heap.size 60 #[.int .i64 (feeAt x a).id, .int .i64 (feeAt x a).inn, .string (feeAt x a).url, .string (feeAt x a).title] ∧ Blk ((wc.alloc (.cells #[.int .i64 (feeAt x a).id, .int .i64 (feeAt x a).inn, .string (feeAt x a).url, .string (feeAt x a).title] 60)).alloc (.cells #[.int .i64 (itmAt x a).id, .int .i64 (itmAt x a).feed, .int .i64 (itmAt x a).date, .string (itmAt x a).guid, .string (itmAt x a).title, .string (itmAt x a).link, .bool (itmAt x a).read, .bool (itmAt x a).star, .slice vt.1 (itmAt x a).tags.length vt.2] 63)).drew (wc.heap.size + 1) 63 #[.int .i64 (itmAt x a).id, .int .i64 (itmAt x a).feed, .int .i64 (itmAt x a).date, .string (itmAt x a).guid, .string (itmAt x a).title, .string (itmAt x a).link, .bool (itmAt x a).read, .bool (itmAt x a).star, .slice vt.1 (itmAt x a).tags.length vt.2] ∧ TagsIn ((wc.alloc (.cells #[.int .i64 (feeAt x a).id, .int .i64 (feeAt x a).inn, .string (feeAt x a).url, .string (feeAt x a).title] 60)).alloc (.cells #[.int .i64 (itmAt x a).id, .int .i64 (itmAt x a).feed, .int .i64 (itmAt x a).date, .string (itmAt x a).guid, .string (itmAt x a).title, .string (itmAt x a).link, .bool (itmAt x a).read, .bool (itmAt x a).star, .slice vt.1 (itmAt x a).tags.length vt.2] 63)).drew vt (itmAt x a).tags) := by
    have hf2 : Frm Nix wc ((wc.alloc (.cells #[.int .i64 (feeAt x a).id, .int .i64 (feeAt x a).inn, .string (feeAt x a).url, .string (feeAt x a).title] 60)).alloc (.cells #[.int .i64 (itmAt x a).id, .int .i64 (itmAt x a).feed, .int .i64 (itmAt x a).date, .string (itmAt x a).guid, .string (itmAt x a).title, .string (itmAt x a).link, .bool (itmAt x a).read, .bool (itmAt x a).star, .slice vt.1 (itmAt x a).tags.length vt.2] 63)).drew := ((hf0.alloc _).alloc _).drew
    refine ⟨HS.out.nix hf2, HF.out.trans hf2, HB.out.frm hf2 id, ((Blk.new wc _ _).alloc _).drew, ?_, HT.out _ hf2⟩
    rw [← e1 (.cells #[.int .i64 (feeAt x a).id, .int .i64 (feeAt x a).inn, .string (feeAt x a).url, .string (feeAt x a).title] 60)]
    exact (Blk.new _ _ _).drew
  have HI : Hid (StAt ((wc.alloc (.cells #[.int .i64 (itmAt x a).id, .int .i64 (itmAt x a).feed, .int .i64 (itmAt x a).date, .string (itmAt x a).guid, .string (itmAt x a).title, .string (itmAt x a).link, .bool (itmAt x a).read, .bool (itmAt x a).star, .slice vt.1 (itmAt x a).tags.length vt.2] 63)).alloc (.cells #[.int .i64 (feeAt x a).id, .int .i64 (feeAt x a).inn, .string (feeAt x a).url, .string (feeAt x a).title] 60)).drew g M x ∧ Frm Nix w ((wc.alloc (.cells #[.int .i64 (itmAt x a).id, .int .i64 (itmAt x a).feed, .int .i64 (itmAt x a).date, .string (itmAt x a).guid, .string (itmAt x a).title, .string (itmAt x a).link, .bool (itmAt x a).read, .bool (itmAt x a).star, .slice vt.1 (itmAt x a).tags.length vt.2] 63)).alloc (.cells #[.int .i64 (feeAt x a).id, .int .i64 (feeAt x a).inn, .string (feeAt x a).url, .string (feeAt x a).title] 60)).drew ∧ Blk ((wc.alloc (.cells #[.int .i64 (itmAt x a).id, .int .i64 (itmAt x a).feed, .int .i64 (itmAt x a).date, .string (itmAt x a).guid, .string (itmAt x a).title, .string (itmAt x a).link, .bool (itmAt x a).read, .bool (itmAt x a).star, .slice vt.1 (itmAt x a).tags.length vt.2] 63)).alloc (.cells #[.int .i64 (feeAt x a).id, .int .i64 (feeAt x a).inn, .string (feeAt x a).url, .string (feeAt x a).title] 60)).drew be 38 #[.int .i64 k, .int .i64 a, .int .i64 b, .int .i64 n, .string s, .string t, .string u] ∧ Blk ((wc.alloc (.cells #[.int .i64 (itmAt x a).id, .int .i64 (itmAt x a).feed, .int .i64 (itmAt x a).date, .string (itmAt x a).guid, .string (itmAt x a).title, .string (itmAt x a).link, .bool (itmAt x a).read, .bool (itmAt x a).star, .slice vt.1 (itmAt x a).tags.length vt.2] 63)).alloc (.cells #[.int .i64 (feeAt x a).id, .int .i64 (feeAt x a).inn, .string (feeAt x a).url, .string (feeAt x a).title] 60)).drew wc.heap.size 63 #[.int .i64 (itmAt x a).id, .int .i64 (itmAt x a).feed, .int .i64 (itmAt x a).date, .string (itmAt x a).guid, .string (itmAt x a).title, .string (itmAt x a).link, .bool (itmAt x a).read, .bool (itmAt x a).star, .slice vt.1 (itmAt x a).tags.length vt.2] ∧ Blk ((wc.alloc (.cells #[.int .i64 (itmAt x a).id, .int .i64 (itmAt x a).feed, .int .i64 (itmAt x a).date, .string (itmAt x a).guid, .string (itmAt x a).title, .string (itmAt x a).link, .bool (itmAt x a).read, .bool (itmAt x a).star, .slice vt.1 (itmAt x a).tags.length vt.2] 63)).alloc (.cells #[.int .i64 (feeAt x a).id, .int .i64 (feeAt x a).inn, .string (feeAt x a).url, .string (feeAt x a).title] 60)).drew (wc.heap.size + 1) 60 #[.int .i64 (feeAt x a).id, .int .i64 (feeAt x a).inn, .string (feeAt x a).url, .string (feeAt x a).title] ∧ TagsIn ((wc.alloc (.cells #[.int .i64 (itmAt x a).id, .int .i64 (itmAt x a).feed, .int .i64 (itmAt x a).date, .string (itmAt x a).guid, .string (itmAt x a).title, .string (itmAt x a).link, .bool (itmAt x a).read, .bool (itmAt x a).star, .slice vt.1 (itmAt x a).tags.length vt.2] 63)).alloc (.cells #[.int .i64 (feeAt x a).id, .int .i64 (feeAt x a).inn, .string (feeAt x a).url, .string (feeAt x a).title] 60)).drew vt (itmAt x a).tags) := by
    have hf2 : Frm Nix wc ((wc.alloc (.cells #[.int .i64 (itmAt x a).id, .int .i64 (itmAt x a).feed, .int .i64 (itmAt x a).date, .string (itmAt x a).guid, .string (itmAt x a).title, .string (itmAt x a).link, .bool (itmAt x a).read, .bool (itmAt x a).star, .slice vt.1 (itmAt x a).tags.length vt.2] 63)).alloc (.cells #[.int .i64 (feeAt x a).id, .int .i64 (feeAt x a).inn, .string (feeAt x a).url, .string (feeAt x a).title] 60)).drew := ((hf0.alloc _).alloc _).drew
    refine ⟨HS.out.nix hf2, HF.out.trans hf2, HB.out.frm hf2 id, ((Blk.new wc _ _).alloc _).drew, ?_, HT.out _ hf2⟩
    rw [← e1 (.cells #[.int .i64 (itmAt x a).id, .int .i64 (itmAt x a).feed, .int .i64 (itmAt x a).date, .string (itmAt x a).guid, .string (itmAt x a).title, .string (itmAt x a).link, .bool (itmAt x a).read, .bool (itmAt x a).star, .slice vt.1 (itmAt x a).tags.length vt.2] 63)]
    exact (Blk.new _ _ _).drew
  clear hS hF hB hvt hlt e1
  go_region_held3 (fun W => Frm Nix wc W ∧ W.cell? ⟨g, 2, none⟩ = some (.map (some M.fe)) ∧ W.cell? ⟨g, 3, none⟩ = some (.map (some M.it)) ∧ W.cell? ⟨be, 1, none⟩ = some (.int .i64 a) ∧ (Instr.lookup 101 (.map (some M.fe)) (.int .i64 a) false).run Tryz.prog W = .ok (.agg #[.int .i64 (feeAt x a).id, .int .i64 (feeAt x a).inn, .string (feeAt x a).url, .string (feeAt x a).title]) W ∧ (Instr.lookup 102 (.map (some M.it)) (.int .i64 a) false).run Tryz.prog W = .ok (.agg #[.int .i64 (itmAt x a).id, .int .i64 (itmAt x a).feed, .int .i64 (itmAt x a).date, .string (itmAt x a).guid, .string (itmAt x a).title, .string (itmAt x a).link, .bool (itmAt x a).read, .bool (itmAt x a).star, .slice vt.1 (itmAt x a).tags.length vt.2]) W) ((refine HMk.out _ ?_; repeat' (first | exact hf0 | apply Frm.drew | apply Frm.alloc | refine Frm.setCell ?_ (.inr (by simp)) _))) (first | fail)
  all_goals
    go_wp2
    first
      | exact ApplyT HA.out.1 HA.out.2.1 k a b n s t u HA.out.2.2.1 HA.out.2.2.2.1 HA.out.2.2.2.2.1 HA.out.2.2.2.2.2 HLt.out hse hsz (Nat.le_succ_of_le hsz) hfit ha hb
      | exact ApplyT HI.out.1 HI.out.2.1 k a b n s t u HI.out.2.2.1 HI.out.2.2.2.2.1 HI.out.2.2.2.1 HI.out.2.2.2.2.2 HLt.out hse (Nat.le_succ_of_le hsz) hsz hfit ha hb
set_option maxRecDepth 100000 in
set_option maxHeartbeats 8000000 in
theorem Apply_no {w : World} {g : Nat} {M : Ms} {x : St} (h : StAt w g M x) (k a b n : Int) (s t u : ByteArray) (ha : I64 a) (hb : I64 b) (hf : fits x ⟨k, a, b, n, s, t, u⟩ = false) :
    Calls Tryz.prog 22 #[.pointer (some ⟨g, 0, none⟩), evV ⟨k, a, b, n, s, t, u⟩] w fun r w' => r = .returned (.bool false) ∧ StAt w' g M x ∧ Frm (SF g M) w w' := by
  obtain ⟨w0, hw0⟩ : ∃ w0, w0 = w.alloc (.cells #[.int .i64 k, .int .i64 a, .int .i64 b, .int .i64 n, .string s, .string t, .string u] 38) := ⟨_, rfl⟩
  have hcur : Frm Nix w w0 := by rw [hw0]; exact (Frm.refl Nix w).alloc _
  have hBe : Blk w0 w.heap.size 38 #[.int .i64 k, .int .i64 a, .int .i64 b, .int .i64 n, .string s, .string t, .string u] := by rw [hw0]; exact Blk.new w _ _
  obtain ⟨d0, d1, d2, d3, d4, d5, d6⟩ := blk7 hBe
  have HBe := Lib.hid hBe
  have KF : Hid (Calls Tryz.prog 21 #[.pointer (some ⟨g, 0, none⟩), .agg #[.int .i64 k, .int .i64 a, .int .i64 b, .int .i64 n, .string s, .string t, .string u]] w0 fun r w' => r = .returned (.bool (fits x ⟨k, a, b, n, s, t, u⟩)) ∧ Frm Nix w0 w') := Fits_any (h.nix hcur) ⟨k, a, b, n, s, t, u⟩ ha hb
  rw [hf] at KF
  have HS : Hid (StAt w0 g M x) := h.nix hcur
  have HLt := Lib.hid h.lt
  have HC := Lib.hid hcur
  have HW := Lib.hid hw0
  have HFit := Lib.hid hf
  clear h hcur hBe hf
  unfold evV
  go_enter Tryz.func22, Tryz.ntmps22
  show Code.wp Tryz.prog (peel 0 (bodyOf Tryz.f22)) _ _ _
  have e0 : peel 0 (bodyOf Tryz.f22) = .seq (hdC (peel 0 (bodyOf Tryz.f22))) (peel 1 (bodyOf Tryz.f22)) := by kernel_rfl
  rw [e0]
  clear e0
  refine wp_seq_k fun K hK => ?_
  conv in hdC _ => whnf
  clear hw0
  go_wp2
  rw [← HW.out]
  have e1 : peel 1 (bodyOf Tryz.f22) = .seq (hdC (peel 1 (bodyOf Tryz.f22))) (peel 2 (bodyOf Tryz.f22)) := by kernel_rfl
  rw [e1]
  clear e1
  refine wp_seq_k fun K hK => ?_
  conv in hdC _ => whnf
  go_wp2_with (go_at_call 21; refine KF.out.mono ?_; rintro r w1 ⟨rfl, hf1⟩)
  go_ret
  exact ⟨rfl, HS.out.nix hf1, (Frm.nix (HC.out.trans hf1))⟩
set_option maxRecDepth 100000 in
set_option maxHeartbeats 8000000 in
theorem Apply_yes {w : World} {g : Nat} {M : Ms} {x : St} (h : StAt w g M x) (k a b n : Int) (s t u : ByteArray) (ha : I64 a) (hb : I64 b) (hf : fits x ⟨k, a, b, n, s, t, u⟩ = true) :
    Calls Tryz.prog 22 #[.pointer (some ⟨g, 0, none⟩), evV ⟨k, a, b, n, s, t, u⟩] w fun r w' => r = .returned (.bool true) ∧ StAt w' g M (doS x ⟨k, a, b, n, s, t, u⟩) ∧ Frm (SF g M) w w' := by
  obtain ⟨w0, hw0⟩ : ∃ w0, w0 = w.alloc (.cells #[.int .i64 k, .int .i64 a, .int .i64 b, .int .i64 n, .string s, .string t, .string u] 38) := ⟨_, rfl⟩
  have hcur : Frm Nix w w0 := by rw [hw0]; exact (Frm.refl Nix w).alloc _
  have hBe : Blk w0 w.heap.size 38 #[.int .i64 k, .int .i64 a, .int .i64 b, .int .i64 n, .string s, .string t, .string u] := by rw [hw0]; exact Blk.new w _ _
  obtain ⟨d0, d1, d2, d3, d4, d5, d6⟩ := blk7 hBe
  have HBe := Lib.hid hBe
  have KF : Hid (Calls Tryz.prog 21 #[.pointer (some ⟨g, 0, none⟩), .agg #[.int .i64 k, .int .i64 a, .int .i64 b, .int .i64 n, .string s, .string t, .string u]] w0 fun r w' => r = .returned (.bool (fits x ⟨k, a, b, n, s, t, u⟩)) ∧ Frm Nix w0 w') := Fits_any (h.nix hcur) ⟨k, a, b, n, s, t, u⟩ ha hb
  rw [hf] at KF
  have HS : Hid (StAt w0 g M x) := h.nix hcur
  have HLt := Lib.hid h.lt
  have HC := Lib.hid hcur
  have HW := Lib.hid hw0
  have HFit := Lib.hid hf
  clear h hcur hBe hf
  unfold evV
  go_enter Tryz.func22, Tryz.ntmps22
  show Code.wp Tryz.prog (peel 0 (bodyOf Tryz.f22)) _ _ _
  have e0 : peel 0 (bodyOf Tryz.f22) = .seq (hdC (peel 0 (bodyOf Tryz.f22))) (peel 1 (bodyOf Tryz.f22)) := by kernel_rfl
  rw [e0]
  clear e0
  refine wp_seq_k fun K hK => ?_
  conv in hdC _ => whnf
  clear hw0
  go_wp2
  rw [← HW.out]
  have e1 : peel 1 (bodyOf Tryz.f22) = .seq (hdC (peel 1 (bodyOf Tryz.f22))) (peel 2 (bodyOf Tryz.f22)) := by kernel_rfl
  rw [e1]
  clear e1
  refine wp_seq_k fun K hK => ?_
  conv in hdC _ => whnf
  go_wp2_with (go_at_call 21; refine KF.out.mono ?_; rintro r w1 ⟨rfl, hf1⟩)
  exact ApplyP2 (HS.out.nix hf1) (HC.out.trans hf1) k a b n s t u (HBe.out.frm hf1 id) HLt.out (Nat.le_refl _) HFit.out ha hb
theorem Apply_any {w : World} {g : Nat} {M : Ms} {x : St} (h : StAt w g M x) (e : Ev) (ha : I64 e.a) (hb : I64 e.b) :
    Calls Tryz.prog 22 #[.pointer (some ⟨g, 0, none⟩), evV e] w fun r w' => r = .returned (.bool (applyS x e).2) ∧ StAt w' g M (applyS x e).1 ∧ Frm (SF g M) w w' := by
  cases hf : fits x e with
  | false =>
    rw [show applyS x e = (x, false) by simp [applyS, hf]]
    exact Apply_no h e.kind e.a e.b e.n e.s e.t e.u ha hb hf
  | true =>
    rw [show applyS x e = (doS x e, true) by simp [applyS, hf]]
    exact Apply_yes h e.kind e.a e.b e.n e.s e.t e.u ha hb hf
end Go.Proofs.YtjbifjgeheigoaaGreat
