/-
  Contracts: what no state answers.
-/
import Derived.Test.YtjnjbmgnbchcjaaGreatGa41
import Derived.Test.YtjnjbmgnbchcjaaGreatGa33
import Derived.Test.YtjnjbmgnbchcjaaGreatGa48
section
set_option linter.unusedVariables false
set_option linter.unusedSimpArgs false
namespace Go.Proofs.YtjnjbmgnbchcjaaGreat
open Go.RowKit Go.Lib

set_option maxRecDepth 100000 in
set_option maxHeartbeats 4000000 in
theorem Clock_nil (w : World) : Calls Tryz.prog 40 #[.pointer none] w fun e w' => e = .returned (.int .i64 0) ∧ w = w' := by
  go_enter Tryz.func40, Tryz.ntmps40
  go_wp2
  go_ret
  exact ⟨rfl, rfl⟩
set_option maxRecDepth 100000 in
set_option maxHeartbeats 4000000 in
theorem Deep_nil (w : World) (i : Int) : Calls Tryz.prog 41 #[.pointer none, .int .i64 i] w fun e w' => e = .returned (.int .i64 0) ∧ w = w' := by
  go_enter Tryz.func41, Tryz.ntmps41
  go_wp2
  go_ret
  exact ⟨rfl, rfl⟩
set_option maxRecDepth 100000 in
set_option maxHeartbeats 4000000 in
theorem Top_nil (w : World) (i : Int) : Calls Tryz.prog 43 #[.pointer none, .int .i64 i] w fun e w' => e = .returned (.int .i64 0) ∧ w = w' := by
  go_enter Tryz.func43, Tryz.ntmps43
  go_wp2
  go_ret
  exact ⟨rfl, rfl⟩
set_option maxRecDepth 100000 in
set_option maxHeartbeats 4000000 in
theorem Clone_nil (w : World) : Calls Tryz.prog 30 #[.pointer none] w fun e w' => e = .returned (.pointer none) ∧ w = w' := by
  go_enter Tryz.func30, Tryz.ntmps30
  go_wp2
  go_ret
  exact ⟨rfl, rfl⟩
set_option maxRecDepth 100000 in
set_option maxHeartbeats 4000000 in
theorem Place_nil (w : World) (s : ByteArray) : Calls Tryz.prog 52 #[.pointer none, .string s] w fun e w' => e = .returned (.tuple #[.int .i64 0, .bool false]) ∧ w = w' := by
  go_enter Tryz.func52, Tryz.ntmps52
  go_wp2
  go_ret2
  exact ⟨rfl, rfl⟩
set_option maxRecDepth 100000 in
set_option maxHeartbeats 4000000 in
theorem Guid_nil (w : World) (i : Int) (s : ByteArray) : Calls Tryz.prog 53 #[.pointer none, .int .i64 i, .string s] w fun e w' => e = .returned (.tuple #[.int .i64 0, .bool false]) ∧ w = w' := by
  go_enter Tryz.func53, Tryz.ntmps53
  go_wp2
  go_ret2
  exact ⟨rfl, rfl⟩
set_option maxRecDepth 100000 in
set_option maxHeartbeats 4000000 in
theorem Fits_nil (w : World) (e : Ev) : Calls Tryz.prog 21 #[.pointer none, .agg #[.int .i64 e.kind, .int .i64 e.a, .int .i64 e.b, .int .i64 e.n, .string e.s, .string e.t, .string e.u]] w fun e' w' => e' = .returned (.bool false) ∧ Frm Nix w w' := by
  go_enter Tryz.func21, Tryz.ntmps21
  go_wp2
  go_ret
  exact ⟨rfl, (Frm.refl Nix w).alloc _⟩
set_option maxRecDepth 100000 in
set_option maxHeartbeats 4000000 in
theorem Apply_nil (w : World) (e : Ev) : Calls Tryz.prog 22 #[.pointer none, .agg #[.int .i64 e.kind, .int .i64 e.a, .int .i64 e.b, .int .i64 e.n, .string e.s, .string e.t, .string e.u]] w fun e' w' => e' = .returned (.bool false) ∧ Frm Nix w w' := by
  have K := Lib.hid (fun W => Fits_nil W e)
  go_enter Tryz.func22, Tryz.ntmps22
  go_wp2_with (go_at_call 21; refine (K.out _).mono ?_; rintro r w1 ⟨rfl, hf⟩)
  go_ret
  exact ⟨rfl, ((Frm.refl Nix w).alloc _).trans hf⟩
theorem Folder_nret {W : World} {g : Nat} {tmps : Array Value} {a0 a1 a2 b : Value} (hb : Blk W g 75 #[a0, a1, a2]) (h2 : tmps.getD 4 undef = .pointer (some ⟨g, 0, none⟩)) (h3 : tmps.getD 5 undef = b) :
    (results Tryz.f49 tmps).run Tryz.prog W = .ok (.tuple #[.agg #[a0, a1, a2], b]) W := by
  have c0 := hb.cell 0
  have c1 := hb.cell 1
  have c2 := hb.cell 2
  simp at c0 c1 c2
  have h2' : tmps[4]?.getD undef = .pointer (some ⟨g, 0, none⟩) := by simpa using h2
  have h3' : tmps[5]?.getD undef = b := by simpa using h3
  simp [results, Tryz.results49, h2', h3', go_sem, c0, c1, c2]
set_option maxRecDepth 100000 in
set_option maxHeartbeats 4000000 in
theorem Folder_nil (w : World) (i : Int) : Calls Tryz.prog 49 #[.pointer none, .int .i64 i] w fun e w' => e = .returned (.tuple #[.agg #[.int .i64 0, .int .i64 0, .string ⟨#[]⟩], .bool false]) ∧ Frm Nix w w' := by
  go_enter Tryz.func49, Tryz.ntmps49
  go_wp2
  refine bodyPost_ret (Folder_nret (Blk.new w 75 #[.int .i64 0, .int .i64 0, .string ⟨#[]⟩]) rfl rfl) rfl ?_
  exact ⟨rfl, ((Frm.refl Nix w).alloc (.cells #[.int .i64 0, .int .i64 0, .string ⟨#[]⟩] 75))⟩
theorem Feed_nret {W : World} {g : Nat} {tmps : Array Value} {a0 a1 a2 a3 b : Value} (hb : Blk W g 63 #[a0, a1, a2, a3]) (h2 : tmps.getD 4 undef = .pointer (some ⟨g, 0, none⟩)) (h3 : tmps.getD 5 undef = b) :
    (results Tryz.f38 tmps).run Tryz.prog W = .ok (.tuple #[.agg #[a0, a1, a2, a3], b]) W := by
  have c0 := hb.cell 0
  have c1 := hb.cell 1
  have c2 := hb.cell 2
  have c3 := hb.cell 3
  simp at c0 c1 c2 c3
  have h2' : tmps[4]?.getD undef = .pointer (some ⟨g, 0, none⟩) := by simpa using h2
  have h3' : tmps[5]?.getD undef = b := by simpa using h3
  simp [results, Tryz.results38, h2', h3', go_sem, c0, c1, c2, c3]
set_option maxRecDepth 100000 in
set_option maxHeartbeats 4000000 in
theorem Feed_nil (w : World) (i : Int) : Calls Tryz.prog 38 #[.pointer none, .int .i64 i] w fun e w' => e = .returned (.tuple #[.agg #[.int .i64 0, .int .i64 0, .string ⟨#[]⟩, .string ⟨#[]⟩], .bool false]) ∧ Frm Nix w w' := by
  go_enter Tryz.func38, Tryz.ntmps38
  go_wp2
  refine bodyPost_ret (Feed_nret (Blk.new w 63 #[.int .i64 0, .int .i64 0, .string ⟨#[]⟩, .string ⟨#[]⟩]) rfl rfl) rfl ?_
  exact ⟨rfl, ((Frm.refl Nix w).alloc (.cells #[.int .i64 0, .int .i64 0, .string ⟨#[]⟩, .string ⟨#[]⟩] 63))⟩
theorem Search_nret {W : World} {g : Nat} {tmps : Array Value} {a0 a1 a2 b : Value} (hb : Blk W g 77 #[a0, a1, a2]) (h2 : tmps.getD 4 undef = .pointer (some ⟨g, 0, none⟩)) (h3 : tmps.getD 5 undef = b) :
    (results Tryz.f51 tmps).run Tryz.prog W = .ok (.tuple #[.agg #[a0, a1, a2], b]) W := by
  have c0 := hb.cell 0
  have c1 := hb.cell 1
  have c2 := hb.cell 2
  simp at c0 c1 c2
  have h2' : tmps[4]?.getD undef = .pointer (some ⟨g, 0, none⟩) := by simpa using h2
  have h3' : tmps[5]?.getD undef = b := by simpa using h3
  simp [results, Tryz.results51, h2', h3', go_sem, c0, c1, c2]
set_option maxRecDepth 100000 in
set_option maxHeartbeats 4000000 in
theorem Search_nil (w : World) (i : Int) : Calls Tryz.prog 51 #[.pointer none, .int .i64 i] w fun e w' => e = .returned (.tuple #[.agg #[.int .i64 0, .string ⟨#[]⟩, .string ⟨#[]⟩], .bool false]) ∧ Frm Nix w w' := by
  go_enter Tryz.func51, Tryz.ntmps51
  go_wp2
  refine bodyPost_ret (Search_nret (Blk.new w 77 #[.int .i64 0, .string ⟨#[]⟩, .string ⟨#[]⟩]) rfl rfl) rfl ?_
  exact ⟨rfl, ((Frm.refl Nix w).alloc (.cells #[.int .i64 0, .string ⟨#[]⟩, .string ⟨#[]⟩] 77))⟩
theorem Item_nret {W : World} {g : Nat} {tmps : Array Value} {a0 a1 a2 a3 a4 a5 a6 a7 a8 b : Value} (hb : Blk W g 68 #[a0, a1, a2, a3, a4, a5, a6, a7, a8]) (h2 : tmps.getD 4 undef = .pointer (some ⟨g, 0, none⟩)) (h3 : tmps.getD 5 undef = b) :
    (results Tryz.f50 tmps).run Tryz.prog W = .ok (.tuple #[.agg #[a0, a1, a2, a3, a4, a5, a6, a7, a8], b]) W := by
  have c0 := hb.cell 0
  have c1 := hb.cell 1
  have c2 := hb.cell 2
  have c3 := hb.cell 3
  have c4 := hb.cell 4
  have c5 := hb.cell 5
  have c6 := hb.cell 6
  have c7 := hb.cell 7
  have c8 := hb.cell 8
  simp at c0 c1 c2 c3 c4 c5 c6 c7 c8
  have h2' : tmps[4]?.getD undef = .pointer (some ⟨g, 0, none⟩) := by simpa using h2
  have h3' : tmps[5]?.getD undef = b := by simpa using h3
  simp [results, Tryz.results50, h2', h3', go_sem, c0, c1, c2, c3, c4, c5, c6, c7, c8]
set_option maxRecDepth 100000 in
set_option maxHeartbeats 4000000 in
theorem Item_nil (w : World) (i : Int) : Calls Tryz.prog 50 #[.pointer none, .int .i64 i] w fun e w' => e = .returned (.tuple #[.agg #[.int .i64 0, .int .i64 0, .int .i64 0, .string ⟨#[]⟩, .string ⟨#[]⟩, .string ⟨#[]⟩, .bool false, .bool false, .slice none 0 0], .bool false]) ∧ Frm Nix w w' := by
  go_enter Tryz.func50, Tryz.ntmps50
  go_wp2
  refine bodyPost_ret (Item_nret (Blk.new w 68 #[.int .i64 0, .int .i64 0, .int .i64 0, .string ⟨#[]⟩, .string ⟨#[]⟩, .string ⟨#[]⟩, .bool false, .bool false, .slice none 0 0]) rfl rfl) rfl ?_
  exact ⟨rfl, ((Frm.refl Nix w).alloc (.cells #[.int .i64 0, .int .i64 0, .int .i64 0, .string ⟨#[]⟩, .string ⟨#[]⟩, .string ⟨#[]⟩, .bool false, .bool false, .slice none 0 0] 68))⟩
set_option maxRecDepth 100000 in
set_option maxHeartbeats 4000000 in
theorem Tell_nil (w : World) : Calls Tryz.prog 18 #[.pointer none] w fun e w' => e = .returned (.agg #[.int .i64 0, .slice none 0 0, .slice none 0 0, .slice none 0 0, .slice none 0 0, .int .i64 0, .int .i64 0, .int .i64 0, .int .i64 0]) ∧ Frm Nix w w' := by
  go_enter Tryz.func18, Tryz.ntmps18
  go_wp2
  refine bodyPost_ret (Tell_nretZ (Blk.new w 30 #[.int .i64 0, .slice none 0 0, .slice none 0 0, .slice none 0 0, .slice none 0 0, .int .i64 0, .int .i64 0, .int .i64 0, .int .i64 0]) rfl) rfl ?_
  exact ⟨rfl, (Frm.refl Nix w).alloc _⟩
end Go.Proofs.YtjnjbmgnbchcjaaGreat
end
section
set_option linter.unusedVariables false
set_option linter.unusedSimpArgs false
namespace Go.Proofs.YtjnjbmgnbchcjaaGreat
open Go.RowKit Go.Lib

theorem zSame (W : World) : Calls Tryz.prog 17 #[.agg #[.int .i64 0, .slice none 0 0, .slice none 0 0, .slice none 0 0, .slice none 0 0, .int .i64 0, .int .i64 0, .int .i64 0, .int .i64 0], .agg #[.int .i64 0, .slice none 0 0, .slice none 0 0, .slice none 0 0, .slice none 0 0, .int .i64 0, .int .i64 0, .int .i64 0, .int .i64 0]] W fun e w' => e = .returned (.bool true) ∧ Frm Nix W w' := by
  have hs : StSmall st0 := small_of (by decide +kernel) (by decide +kernel)
  have := rStSame_any (StIn.zero W fun _ => True) (StIn.zero W fun _ => True) hs hs
  rw [decide_eq_true rfl] at this
  exact this
set_option maxRecDepth 100000 in
set_option maxHeartbeats 16000000 in
theorem nobody_walk (e : Ev) (i : Int) (s : ByteArray) (w : World) :
    Calls Tryz.prog 14 #[.agg #[.int .i64 e.kind, .int .i64 e.a, .int .i64 e.b, .int .i64 e.n, .string e.s, .string e.t, .string e.u], .int .i64 i, .string s] w fun r w' => r = .returned (.bool true) ∧ Frm Nix w w' := by
  obtain ⟨w0, hw0⟩ : ∃ w0, w0 = w.alloc (.cells #[.int .i64 e.kind, .int .i64 e.a, .int .i64 e.b, .int .i64 e.n, .string e.s, .string e.t, .string e.u] 38) := ⟨_, rfl⟩
  have hf0 : Frm Nix w w0 := by rw [hw0]; exact (Frm.refl Nix w).alloc _
  have hb0 : Blk w0 w.heap.size 38 #[.int .i64 e.kind, .int .i64 e.a, .int .i64 e.b, .int .i64 e.n, .string e.s, .string e.t, .string e.u] := by rw [hw0]; exact Blk.new w _ _
  have HW := Lib.hid hw0
  have HB := Lib.hid hb0
  have HF := Lib.hid hf0
  clear hw0 hb0 hf0
  go_enter Tryz.func14, Tryz.ntmps14
  go_wp2_with (first
    | (go_at_call 43; have _q := Z14; refine (Top_nil _ i).mono ?_; intro r w15 hh; obtain ⟨hr, hq⟩ := hh; subst hr; have Z15 : Hid (Frm Nix w0 w15) := (by unfold Hid; rw [← hq]; repeat' (first | with_reducible exact Frm.refl _ _ | with_reducible apply Frm.alloc | with_reducible exact Z14.out)); clear hq)
    | (go_at_call 41; have _q := Z13; refine (Deep_nil _ i).mono ?_; intro r w14 hh; obtain ⟨hr, hq⟩ := hh; subst hr; have Z14 : Hid (Frm Nix w0 w14) := (by unfold Hid; rw [← hq]; repeat' (first | with_reducible exact Frm.refl _ _ | with_reducible apply Frm.alloc | with_reducible exact Z13.out)); clear hq)
    | (go_at_call 40; have _q := Z12; refine (Clock_nil _).mono ?_; intro r w13 hh; obtain ⟨hr, hq⟩ := hh; subst hr; have Z13 : Hid (Frm Nix w0 w13) := (by unfold Hid; rw [← hq]; repeat' (first | with_reducible exact Frm.refl _ _ | with_reducible apply Frm.alloc | with_reducible exact Z12.out)); clear hq)
    | (go_at_call 30; have _q := Z11; refine (Clone_nil _).mono ?_; intro r w12 hh; obtain ⟨hr, hq⟩ := hh; subst hr; have Z12 : Hid (Frm Nix w0 w12) := (by unfold Hid; rw [← hq]; repeat' (first | with_reducible exact Frm.refl _ _ | with_reducible apply Frm.alloc | with_reducible exact Z11.out)); clear hq)
    | (go_at_call 17; have _q := Z10; refine (zSame _).mono ?_; rintro r w11 ⟨rfl, hf⟩; have Z11 : Hid (Frm Nix w0 w11) := Frm.trans (by repeat' (first | with_reducible exact Frm.refl _ _ | with_reducible apply Frm.alloc | with_reducible exact Z10.out)) hf; clear hf)
    | (go_at_call 18; have _q := Z9; refine (Tell_nil _).mono ?_; rintro r w10 ⟨rfl, hf⟩; have Z10 : Hid (Frm Nix w0 w10) := Frm.trans (by repeat' (first | with_reducible exact Frm.refl _ _ | with_reducible apply Frm.alloc | with_reducible exact Z9.out)) hf; clear hf)
    | (go_at_call 22; have _q := Z8; refine (Apply_nil _ e).mono ?_; rintro r w9 ⟨rfl, hf⟩; have Z9 : Hid (Frm Nix w0 w9) := Frm.trans (by repeat' (first | with_reducible exact Frm.refl _ _ | with_reducible apply Frm.alloc | with_reducible exact Z8.out)) hf; clear hf)
    | (go_at_call 21; have _q := Z7; refine (Fits_nil _ e).mono ?_; rintro r w8 ⟨rfl, hf⟩; have Z8 : Hid (Frm Nix w0 w8) := Frm.trans (by repeat' (first | with_reducible exact Frm.refl _ _ | with_reducible apply Frm.alloc | with_reducible exact Z7.out)) hf; clear hf; obtain ⟨y0, y1, y2, y3, y4, y5, y6⟩ := blk7 (HB.out.frm Z8.out id))
    | (go_at_call 16; have _q := Z6; refine (lives_any _).mono ?_; rintro r w7 ⟨rfl, hf⟩; have Z7 : Hid (Frm Nix w0 w7) := Frm.trans (by repeat' (first | with_reducible exact Frm.refl _ _ | with_reducible apply Frm.alloc | with_reducible exact Z6.out)) hf; clear hf; obtain ⟨x0, x1, x2, x3, x4, x5, x6⟩ := blk7 (HB.out.frm Z7.out id))
    | (go_at_call 53; have _q := Z5; refine (Guid_nil _ i s).mono ?_; intro r w6 hh; obtain ⟨hr, hq⟩ := hh; subst hr; have Z6 : Hid (Frm Nix w0 w6) := (by unfold Hid; rw [← hq]; repeat' (first | with_reducible exact Frm.refl _ _ | with_reducible apply Frm.alloc | with_reducible exact Z5.out)); clear hq)
    | (go_at_call 52; have _q := Z4; refine (Place_nil _ s).mono ?_; intro r w5 hh; obtain ⟨hr, hq⟩ := hh; subst hr; have Z5 : Hid (Frm Nix w0 w5) := (by unfold Hid; rw [← hq]; repeat' (first | with_reducible exact Frm.refl _ _ | with_reducible apply Frm.alloc | with_reducible exact Z4.out)); clear hq)
    | (go_at_call 51; have _q := Z3; refine (Search_nil _ i).mono ?_; rintro r w4 ⟨rfl, hf⟩; have Z4 : Hid (Frm Nix w0 w4) := Frm.trans (by repeat' (first | with_reducible exact Frm.refl _ _ | with_reducible apply Frm.alloc | with_reducible exact Z3.out)) hf; clear hf)
    | (go_at_call 50; have _q := Z2; refine (Item_nil _ i).mono ?_; rintro r w3 ⟨rfl, hf⟩; have Z3 : Hid (Frm Nix w0 w3) := Frm.trans (by repeat' (first | with_reducible exact Frm.refl _ _ | with_reducible apply Frm.alloc | with_reducible exact Z2.out)) hf; clear hf)
    | (go_at_call 38; have _q := Z1; refine (Feed_nil _ i).mono ?_; rintro r w2 ⟨rfl, hf⟩; have Z2 : Hid (Frm Nix w0 w2) := Frm.trans (by repeat' (first | with_reducible exact Frm.refl _ _ | with_reducible apply Frm.alloc | with_reducible exact Z1.out)) hf; clear hf)
    | (go_at_call 49; rw [← HW.out]; refine (Folder_nil _ i).mono ?_; rintro r w1 ⟨rfl, hf⟩; have Z1 : Hid (Frm Nix w0 w1) := Frm.trans (by repeat' (first | with_reducible exact Frm.refl _ _ | with_reducible apply Frm.alloc)) hf; clear hf))
  go_ret
  exact ⟨rfl, HF.out.trans Z15.out⟩
end Go.Proofs.YtjnjbmgnbchcjaaGreat
end
