/-
  Contracts: the document's Same.
-/
import Derived.Test.YtjbifjgeheigoaaGreatGa34
import Derived.Test.YtjbifjgeheigoaaGreatGa16
import Derived.Deep.RegionHeld3
set_option linter.unusedVariables false
set_option linter.unusedSimpArgs false
namespace Go.Proofs.YtjbifjgeheigoaaGreat
open Go.RowKit Go.Lib

set_option maxRecDepth 100000 in
set_option maxHeartbeats 8000000 in
theorem RS3 {w wc : World} {b1 b2 : Nat} {fo fe it se fo' fe' it' se' : Sl} {ts ts' : List (Sl × Itm)} {x y : St} {G G' : Nat → Prop} (h : StIn w G fo fe it se ts x) (h' : StIn w G' fo' fe' it' se' ts' y) (hs : StSmall x) (hs' : StSmall y) (hl : x.fols.length = y.fols.length ∧ x.fees.length = y.fees.length ∧ x.itms.length = y.itms.length ∧ x.seas.length = y.seas.length) (hF : Frm Nix w wc) (hb : Blk wc b1 30 #[.int .i64 x.clock, .slice fo.1 x.fols.length fo.2, .slice fe.1 x.fees.length fe.2, .slice it.1 x.itms.length it.2, .slice se.1 x.seas.length se.2, .int .i64 x.tFol, .int .i64 x.tFee, .int .i64 x.tItm, .int .i64 x.tSea]) (hb' : Blk wc b2 30 #[.int .i64 y.clock, .slice fo'.1 y.fols.length fo'.2, .slice fe'.1 y.fees.length fe'.2, .slice it'.1 y.itms.length it'.2, .slice se'.1 y.seas.length se'.2, .int .i64 y.tFol, .int .i64 y.tFee, .int .i64 y.tItm, .int .i64 y.tSea]) (e1 : x.fols = y.fols) {u0 u1 u4 u5 u6 u7 u8 u9 u10 u11 u12 u13 u14 u15 u16 u17 u18 u19 u20 u21 u22 u23 u24 u25 u26 u27 u28 u29 u30 u31 u32 u33 u34 u35 u36 u37 u38 u39 u40 u41 u42 u43 u44 u45 u46 u47 u48 u49 u50 u51 u52 u53 u54 u55 u56 u57 u58 u59 u60 u61 u62 u63 u64 u65 u66 u67 u68 u69 u70 u71 u72 u73 u74 u75 u76 u77 u78 u79 u80 u81 u82 u83 u84 u85 u86 u87 u88 u89 u90 u91 u92 u93 u94 u95 u96 u97 u98 u99 u100 u101 u102 u103 u104 u105 u106 u107 u108 u109 u110 u111 u112 u113 u114 u115 u116 u117 u118 u119 u120 u121 u122 u123 u124 u125 u126 u127 u128 u129 u130 u131 u132 u133 u134 u135 u136 u137 u138 u139 u140 u141 u142 u143 u144 u145 u146 u147 u148 : Value} :
    Code.wp Tryz.prog (peel 3 (bodyOf Tryz.f17)) (bodyPost Tryz.prog Tryz.f17 fun e w' => e = .returned (.bool (decide (x = y))) ∧ Frm Nix w w') ⟨#[u0, u1, .pointer (some ⟨b1, 0, none⟩), .pointer (some ⟨b2, 0, none⟩), u4, u5, u6, u7, u8, u9, u10, u11, u12, u13, u14, u15, u16, u17, u18, u19, u20, u21, u22, u23, u24, u25, u26, u27, u28, u29, u30, u31, u32, u33, u34, u35, u36, u37, u38, u39, u40, u41, u42, u43, u44, u45, u46, u47, u48, u49, u50, u51, u52, u53, u54, u55, u56, u57, u58, u59, u60, u61, u62, u63, u64, u65, u66, u67, u68, u69, u70, u71, u72, u73, u74, u75, u76, u77, u78, u79, u80, u81, u82, u83, u84, u85, u86, u87, u88, u89, u90, u91, u92, u93, u94, u95, u96, u97, u98, u99, u100, u101, u102, u103, u104, u105, u106, u107, u108, u109, u110, u111, u112, u113, u114, u115, u116, u117, u118, u119, u120, u121, u122, u123, u124, u125, u126, u127, u128, u129, u130, u131, u132, u133, u134, u135, u136, u137, u138, u139, u140, u141, u142, u143, u144, u145, u146, u147, u148], []⟩ wc := by
  obtain ⟨x0, x1, x2, x3, x4, x5, x6, x7, x8⟩ := blk9 hb
  obtain ⟨y0, y1, y2, y3, y4, y5, y6, y7, y8⟩ := blk9 hb'
  have HH := Lib.hid (And.intro h h')
  have HSm := Lib.hid (And.intro hs hs')
  have HLn := Lib.hid hl
  have HF := Lib.hid hF
  have HB := Lib.hid (And.intro hb hb')
  have hcap := hs.fees
  have hleq := hl.2.1
  obtain ⟨A, c⟩ := fe
  obtain ⟨A', c'⟩ := fe'
  dsimp only at x1 x2 x3 x4 y1 y2 y3 y4
  clear h h' hs hs' hl hF hb hb'
  have ek : peel 3 (bodyOf Tryz.f17) = .seq (hdC (peel 3 (bodyOf Tryz.f17))) (peel 4 (bodyOf Tryz.f17)) := by kernel_rfl
  rw [ek]
  clear ek
  refine wp_seq_k fun K hK => ?_
  conv in hdC _ => whnf
  go_wp2
  go_loopw [6] (fun kv wr => ∃ k : Nat, k ≤ x.fees.length ∧ kv = .int .i64 k ∧ x.fees.take k = y.fees.take k ∧ Frm Nix wc wr) (fun kv _ => x.fees.length - (intOf kv).toNat)
  case atStart => exact ⟨0, by omega, rfl, by simp, Frm.refl _ _⟩
  case round =>
    obtain ⟨k, hk, rfl, ht, hf⟩ := hrel
    have HT := Lib.hid ht
    have HFr := Lib.hid hf
    have hbx := HB.out.1.frm hf id
    have hby := HB.out.2.frm hf id
    have xx := hbx.cell 2
    have yy := hby.cell 2
    simp at xx yy
    clear ht hf hbx hby
    by_cases hlt : k < x.fees.length
    · have hkl' : k < y.fees.length := by rw [← hleq]; exact hlt
      obtain ⟨b, off, hA, -, hbl, hcell⟩ := (HH.out.1.fees.nix (HF.out.trans HFr.out)).at_ Fee.clen (by decide) (by omega)
      obtain ⟨b', off', hA', -, hbl', hcell'⟩ := (HH.out.2.fees.nix (HF.out.trans HFr.out)).at_ Fee.clen (by decide) (by omega)
      dsimp only at hA hA'
      subst hA
      subst hA'
      have hc1 := hcell k hlt
      have hc2 := hcell' k hkl'
      have HNe := Lib.hid (take_ne hlt hkl')
      have HEq := Lib.hid (take_eq hlt hkl' HT.out)
      obtain ⟨p, hp⟩ : ∃ p, x.fees[k] = p := ⟨_, rfl⟩
      obtain ⟨q, hq⟩ : ∃ q, y.fees[k] = q := ⟨_, rfl⟩
      rw [hp] at hc1 HNe HEq
      rw [hq] at hc2 HNe HEq
      obtain ⟨p0, p1, p2, p3⟩ := Feecs (w := wr) (b := b) (off := off + k * 4) (e := p) hc1
      obtain ⟨q0, q1, q2, q3⟩ := Feecs (w := wr) (b := b') (off := off' + k * 4) (e := q) hc2
      have hq := fun W => neqFee_run p q W
      have hg : Tryz.prog.eqGuardType Tryz.prog.depth 60 = false := by kernel_rfl
      unfold feeV at hq
      clear hcell hcell' hc1 hc2 hp
      by_cases he : p = q
      · rw [decide_eq_true he] at hq
        have HE := Lib.hid (HEq.out he)
        clear he
        go_wp2
        go_quiet (fail)
        go_wp2
        go_roundw
        case rel => exact ⟨k + 1, by omega, by go_num, HE.out, HFr.out.drewN _⟩
        case measure => simp [intOf]; omega
      · rw [decide_eq_false he] at hq
        have HE : Hid (x ≠ y) := fun e => HNe.out he (by rw [e])
        clear he
        go_wp2
        go_quiet (fail)
        go_wp2
        go_ret
        exact ⟨ret_bool (decide_eq_false HE.out).symm, HF.out.trans (HFr.out.drewN _)⟩
    · obtain rfl : k = x.fees.length := by omega
      have HE : Hid (x.fees = y.fees) := by
        have := HT.out
        rw [List.take_length, hleq, List.take_length] at this
        exact this
      go_wp2
      exact RS4 HH.out.1 HH.out.2 HSm.out.1 HSm.out.2 HLn.out (HF.out.trans HFr.out) (HB.out.1.frm HFr.out id) (HB.out.2.frm HFr.out id) e1 HE.out
set_option maxRecDepth 100000 in
set_option maxHeartbeats 8000000 in
theorem RS2 {w wc : World} {b1 b2 : Nat} {fo fe it se fo' fe' it' se' : Sl} {ts ts' : List (Sl × Itm)} {x y : St} {G G' : Nat → Prop} (h : StIn w G fo fe it se ts x) (h' : StIn w G' fo' fe' it' se' ts' y) (hs : StSmall x) (hs' : StSmall y) (hl : x.fols.length = y.fols.length ∧ x.fees.length = y.fees.length ∧ x.itms.length = y.itms.length ∧ x.seas.length = y.seas.length) (hF : Frm Nix w wc) (hb : Blk wc b1 30 #[.int .i64 x.clock, .slice fo.1 x.fols.length fo.2, .slice fe.1 x.fees.length fe.2, .slice it.1 x.itms.length it.2, .slice se.1 x.seas.length se.2, .int .i64 x.tFol, .int .i64 x.tFee, .int .i64 x.tItm, .int .i64 x.tSea]) (hb' : Blk wc b2 30 #[.int .i64 y.clock, .slice fo'.1 y.fols.length fo'.2, .slice fe'.1 y.fees.length fe'.2, .slice it'.1 y.itms.length it'.2, .slice se'.1 y.seas.length se'.2, .int .i64 y.tFol, .int .i64 y.tFee, .int .i64 y.tItm, .int .i64 y.tSea]) {u0 u1 u4 u5 u6 u7 u8 u9 u10 u11 u12 u13 u14 u15 u16 u17 u18 u19 u20 u21 u22 u23 u24 u25 u26 u27 u28 u29 u30 u31 u32 u33 u34 u35 u36 u37 u38 u39 u40 u41 u42 u43 u44 u45 u46 u47 u48 u49 u50 u51 u52 u53 u54 u55 u56 u57 u58 u59 u60 u61 u62 u63 u64 u65 u66 u67 u68 u69 u70 u71 u72 u73 u74 u75 u76 u77 u78 u79 u80 u81 u82 u83 u84 u85 u86 u87 u88 u89 u90 u91 u92 u93 u94 u95 u96 u97 u98 u99 u100 u101 u102 u103 u104 u105 u106 u107 u108 u109 u110 u111 u112 u113 u114 u115 u116 u117 u118 u119 u120 u121 u122 u123 u124 u125 u126 u127 u128 u129 u130 u131 u132 u133 u134 u135 u136 u137 u138 u139 u140 u141 u142 u143 u144 u145 u146 u147 u148 : Value} :
    Code.wp Tryz.prog (peel 2 (bodyOf Tryz.f17)) (bodyPost Tryz.prog Tryz.f17 fun e w' => e = .returned (.bool (decide (x = y))) ∧ Frm Nix w w') ⟨#[u0, u1, .pointer (some ⟨b1, 0, none⟩), .pointer (some ⟨b2, 0, none⟩), u4, u5, u6, u7, u8, u9, u10, u11, u12, u13, u14, u15, u16, u17, u18, u19, u20, u21, u22, u23, u24, u25, u26, u27, u28, u29, u30, u31, u32, u33, u34, u35, u36, u37, u38, u39, u40, u41, u42, u43, u44, u45, u46, u47, u48, u49, u50, u51, u52, u53, u54, u55, u56, u57, u58, u59, u60, u61, u62, u63, u64, u65, u66, u67, u68, u69, u70, u71, u72, u73, u74, u75, u76, u77, u78, u79, u80, u81, u82, u83, u84, u85, u86, u87, u88, u89, u90, u91, u92, u93, u94, u95, u96, u97, u98, u99, u100, u101, u102, u103, u104, u105, u106, u107, u108, u109, u110, u111, u112, u113, u114, u115, u116, u117, u118, u119, u120, u121, u122, u123, u124, u125, u126, u127, u128, u129, u130, u131, u132, u133, u134, u135, u136, u137, u138, u139, u140, u141, u142, u143, u144, u145, u146, u147, u148], []⟩ wc := by
  obtain ⟨x0, x1, x2, x3, x4, x5, x6, x7, x8⟩ := blk9 hb
  obtain ⟨y0, y1, y2, y3, y4, y5, y6, y7, y8⟩ := blk9 hb'
  have HH := Lib.hid (And.intro h h')
  have HSm := Lib.hid (And.intro hs hs')
  have HLn := Lib.hid hl
  have HF := Lib.hid hF
  have HB := Lib.hid (And.intro hb hb')
  have hcap := hs.fols
  have hleq := hl.1
  obtain ⟨A, c⟩ := fo
  obtain ⟨A', c'⟩ := fo'
  dsimp only at x1 x2 x3 x4 y1 y2 y3 y4
  clear h h' hs hs' hl hF hb hb'
  have ek : peel 2 (bodyOf Tryz.f17) = .seq (hdC (peel 2 (bodyOf Tryz.f17))) (peel 3 (bodyOf Tryz.f17)) := by kernel_rfl
  rw [ek]
  clear ek
  refine wp_seq_k fun K hK => ?_
  conv in hdC _ => whnf
  go_wp2
  go_loopw [5] (fun kv wr => ∃ k : Nat, k ≤ x.fols.length ∧ kv = .int .i64 k ∧ x.fols.take k = y.fols.take k ∧ Frm Nix wc wr) (fun kv _ => x.fols.length - (intOf kv).toNat)
  case atStart => exact ⟨0, by omega, rfl, by simp, Frm.refl _ _⟩
  case round =>
    obtain ⟨k, hk, rfl, ht, hf⟩ := hrel
    have HT := Lib.hid ht
    have HFr := Lib.hid hf
    have hbx := HB.out.1.frm hf id
    have hby := HB.out.2.frm hf id
    have xx := hbx.cell 1
    have yy := hby.cell 1
    simp at xx yy
    clear ht hf hbx hby
    by_cases hlt : k < x.fols.length
    · have hkl' : k < y.fols.length := by rw [← hleq]; exact hlt
      obtain ⟨b, off, hA, -, hbl, hcell⟩ := (HH.out.1.fols.nix (HF.out.trans HFr.out)).at_ Fol.clen (by decide) (by omega)
      obtain ⟨b', off', hA', -, hbl', hcell'⟩ := (HH.out.2.fols.nix (HF.out.trans HFr.out)).at_ Fol.clen (by decide) (by omega)
      dsimp only at hA hA'
      subst hA
      subst hA'
      have hc1 := hcell k hlt
      have hc2 := hcell' k hkl'
      have HNe := Lib.hid (take_ne hlt hkl')
      have HEq := Lib.hid (take_eq hlt hkl' HT.out)
      obtain ⟨p, hp⟩ : ∃ p, x.fols[k] = p := ⟨_, rfl⟩
      obtain ⟨q, hq⟩ : ∃ q, y.fols[k] = q := ⟨_, rfl⟩
      rw [hp] at hc1 HNe HEq
      rw [hq] at hc2 HNe HEq
      obtain ⟨p0, p1, p2⟩ := Folcs (w := wr) (b := b) (off := off + k * 3) (e := p) hc1
      obtain ⟨q0, q1, q2⟩ := Folcs (w := wr) (b := b') (off := off' + k * 3) (e := q) hc2
      have hq := fun W => neqFol_run p q W
      have hg : Tryz.prog.eqGuardType Tryz.prog.depth 58 = false := by kernel_rfl
      unfold folV at hq
      clear hcell hcell' hc1 hc2 hp
      by_cases he : p = q
      · rw [decide_eq_true he] at hq
        have HE := Lib.hid (HEq.out he)
        clear he
        go_wp2
        go_quiet (fail)
        go_wp2
        go_roundw
        case rel => exact ⟨k + 1, by omega, by go_num, HE.out, HFr.out.drewN _⟩
        case measure => simp [intOf]; omega
      · rw [decide_eq_false he] at hq
        have HE : Hid (x ≠ y) := fun e => HNe.out he (by rw [e])
        clear he
        go_wp2
        go_quiet (fail)
        go_wp2
        go_ret
        exact ⟨ret_bool (decide_eq_false HE.out).symm, HF.out.trans (HFr.out.drewN _)⟩
    · obtain rfl : k = x.fols.length := by omega
      have HE : Hid (x.fols = y.fols) := by
        have := HT.out
        rw [List.take_length, hleq, List.take_length] at this
        exact this
      go_wp2
      exact RS3 HH.out.1 HH.out.2 HSm.out.1 HSm.out.2 HLn.out (HF.out.trans HFr.out) (HB.out.1.frm HFr.out id) (HB.out.2.frm HFr.out id)  HE.out
set_option maxRecDepth 100000 in
set_option maxHeartbeats 8000000 in
theorem rStSame_any {w : World} {fo fe it se fo' fe' it' se' : Sl} {ts ts' : List (Sl × Itm)} {x y : St} {G G' : Nat → Prop} (h : StIn w G fo fe it se ts x) (h' : StIn w G' fo' fe' it' se' ts' y) (hs : StSmall x) (hs' : StSmall y) :
    Calls Tryz.prog 17 #[stV fo fe it se x, stV fo' fe' it' se' y] w fun e w' => e = .returned (.bool (decide (x = y))) ∧ Frm Nix w w' := by
  obtain ⟨w0, hw0⟩ : ∃ w0, w0 = (w.alloc (.cells #[.int .i64 x.clock, .slice fo.1 x.fols.length fo.2, .slice fe.1 x.fees.length fe.2, .slice it.1 x.itms.length it.2, .slice se.1 x.seas.length se.2, .int .i64 x.tFol, .int .i64 x.tFee, .int .i64 x.tItm, .int .i64 x.tSea] 30)).alloc (.cells #[.int .i64 y.clock, .slice fo'.1 y.fols.length fo'.2, .slice fe'.1 y.fees.length fe'.2, .slice it'.1 y.itms.length it'.2, .slice se'.1 y.seas.length se'.2, .int .i64 y.tFol, .int .i64 y.tFee, .int .i64 y.tItm, .int .i64 y.tSea] 30) := ⟨_, rfl⟩
  have hf0 : Frm Nix w w0 := by rw [hw0]; exact ((Frm.refl Nix w).alloc _).alloc _
  have hb : Blk w0 w.heap.size 30 #[.int .i64 x.clock, .slice fo.1 x.fols.length fo.2, .slice fe.1 x.fees.length fe.2, .slice it.1 x.itms.length it.2, .slice se.1 x.seas.length se.2, .int .i64 x.tFol, .int .i64 x.tFee, .int .i64 x.tItm, .int .i64 x.tSea] := by rw [hw0]; exact (Blk.new w _ _).alloc _
  have hb' : Blk w0 (w.heap.size + 1) 30 #[.int .i64 y.clock, .slice fo'.1 y.fols.length fo'.2, .slice fe'.1 y.fees.length fe'.2, .slice it'.1 y.itms.length it'.2, .slice se'.1 y.seas.length se'.2, .int .i64 y.tFol, .int .i64 y.tFee, .int .i64 y.tItm, .int .i64 y.tSea] := by
    have := Blk.new (w.alloc (.cells #[.int .i64 x.clock, .slice fo.1 x.fols.length fo.2, .slice fe.1 x.fees.length fe.2, .slice it.1 x.itms.length it.2, .slice se.1 x.seas.length se.2, .int .i64 x.tFol, .int .i64 x.tFee, .int .i64 x.tItm, .int .i64 x.tSea] 30)) 30 #[.int .i64 y.clock, .slice fo'.1 y.fols.length fo'.2, .slice fe'.1 y.fees.length fe'.2, .slice it'.1 y.itms.length it'.2, .slice se'.1 y.seas.length se'.2, .int .i64 y.tFol, .int .i64 y.tFee, .int .i64 y.tItm, .int .i64 y.tSea]
    rw [show (w.alloc (.cells #[.int .i64 x.clock, .slice fo.1 x.fols.length fo.2, .slice fe.1 x.fees.length fe.2, .slice it.1 x.itms.length it.2, .slice se.1 x.seas.length se.2, .int .i64 x.tFol, .int .i64 x.tFee, .int .i64 x.tItm, .int .i64 x.tSea] 30)).heap.size = w.heap.size + 1 by simp] at this
    rw [hw0]
    exact this
  obtain ⟨x0, x1, x2, x3, x4, x5, x6, x7, x8⟩ := blk9 hb
  obtain ⟨y0, y1, y2, y3, y4, y5, y6, y7, y8⟩ := blk9 hb'
  have HH := Lib.hid (And.intro h h')
  have HSm := Lib.hid (And.intro hs hs')
  have HF := Lib.hid hf0
  have HB := Lib.hid (And.intro hb hb')
  have HW := Lib.hid hw0
  have HS1 := Lib.hid hs
  clear h h' hs hs' hf0 hb hb' hw0
  unfold stV
  have HRS : Hid (∀ hl : x.fols.length = y.fols.length ∧ x.fees.length = y.fees.length ∧ x.itms.length = y.itms.length ∧ x.seas.length = y.seas.length, True) := fun _ => trivial
  have HNo : Hid (¬ (x.fols.length = y.fols.length ∧ x.fees.length = y.fees.length ∧ x.itms.length = y.itms.length ∧ x.seas.length = y.seas.length) → x ≠ y) := fun hn e => hn (by rw [e]; exact ⟨rfl, rfl, rfl, rfl⟩)
  by_cases hfols : x.fols.length = y.fols.length
  case neg =>
    have hn : ¬ ((x.fols.length : Int) = (y.fols.length : Int)) := by omega
    have HE := Lib.hid (HNo.out (fun q => hfols (by first | exact q.1 | exact q.2.1 | exact q.2.2.1 | exact q.2.2.2)))
    go_enter Tryz.func17, Tryz.ntmps17
    go_wp2
    go_ret
    exact ⟨ret_bool (decide_eq_false HE.out).symm, ((Frm.refl Nix w).alloc _).alloc _⟩
  have ifols : (x.fols.length : Int) = (y.fols.length : Int) := by omega
  by_cases hfees : x.fees.length = y.fees.length
  case neg =>
    have hn : ¬ ((x.fees.length : Int) = (y.fees.length : Int)) := by omega
    have HE := Lib.hid (HNo.out (fun q => hfees (by first | exact q.1 | exact q.2.1 | exact q.2.2.1 | exact q.2.2.2)))
    go_enter Tryz.func17, Tryz.ntmps17
    go_wp2
    go_ret
    exact ⟨ret_bool (decide_eq_false HE.out).symm, ((Frm.refl Nix w).alloc _).alloc _⟩
  have ifees : (x.fees.length : Int) = (y.fees.length : Int) := by omega
  by_cases hitms : x.itms.length = y.itms.length
  case neg =>
    have hn : ¬ ((x.itms.length : Int) = (y.itms.length : Int)) := by omega
    have HE := Lib.hid (HNo.out (fun q => hitms (by first | exact q.1 | exact q.2.1 | exact q.2.2.1 | exact q.2.2.2)))
    go_enter Tryz.func17, Tryz.ntmps17
    go_wp2
    go_ret
    exact ⟨ret_bool (decide_eq_false HE.out).symm, ((Frm.refl Nix w).alloc _).alloc _⟩
  have iitms : (x.itms.length : Int) = (y.itms.length : Int) := by omega
  by_cases hseas : x.seas.length = y.seas.length
  case neg =>
    have hn : ¬ ((x.seas.length : Int) = (y.seas.length : Int)) := by omega
    have HE := Lib.hid (HNo.out (fun q => hseas (by first | exact q.1 | exact q.2.1 | exact q.2.2.1 | exact q.2.2.2)))
    go_enter Tryz.func17, Tryz.ntmps17
    go_wp2
    go_ret
    exact ⟨ret_bool (decide_eq_false HE.out).symm, ((Frm.refl Nix w).alloc _).alloc _⟩
  have iseas : (x.seas.length : Int) = (y.seas.length : Int) := by omega
  have HLn := Lib.hid (And.intro hfols (And.intro hfees (And.intro hitms hseas)))
  clear hfols hfees hitms hseas
  have HIn := Lib.hid (And.intro ifols (And.intro ifees (And.intro iitms iseas)))
  clear ifols ifees iitms iseas
  go_enter Tryz.func17, Tryz.ntmps17
  show Code.wp Tryz.prog (peel 0 (bodyOf Tryz.f17)) _ _ _
  have ek : peel 0 (bodyOf Tryz.f17) = .seq (hdC (peel 0 (bodyOf Tryz.f17))) (peel 1 (bodyOf Tryz.f17)) := by kernel_rfl
  rw [ek]
  clear ek
  refine wp_seq_k fun K hK => ?_
  conv in hdC _ => whnf
  go_wp2
  rw [← HW.out]
  have ek : peel 1 (bodyOf Tryz.f17) = .seq (hdC (peel 1 (bodyOf Tryz.f17))) (peel 2 (bodyOf Tryz.f17)) := by kernel_rfl
  rw [ek]
  clear ek
  refine wp_seq_k fun K hK => ?_
  conv in hdC _ => whnf
  obtain ⟨ifols, ifees, iitms, iseas⟩ := HIn.out
  go_wp2
  exact RS2 HH.out.1 HH.out.2 HSm.out.1 HSm.out.2 HLn.out HF.out HB.out.1 HB.out.2
end Go.Proofs.YtjbifjgeheigoaaGreat
