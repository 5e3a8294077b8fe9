/-
  The law's own calls over a disk of the code and one of the document: Do, the rest. No condition.
-/
import Derived.Test.YtdgpaddmheagoaaGreatDoorDo
import Derived.Test.YtdgpaddmheagoaaGreatDoorRefQ
set_option linter.unusedVariables false
set_option linter.unusedSimpArgs false
namespace Go.Proofs.YtdgpaddmheagoaaGreatDoor
open Go.RowKit

set_option maxRecDepth 100000 in
set_option maxHeartbeats 2000000 in
theorem Do5 {w : World} {B g B' g' : Nat} {F W F' : Nat → Prop} {D : Dsk} (h : Pair w B g F B' g' W F' D) (a b : ByteArray) (n : Int) (dA kA : Option Addr) (dn dc kn kc : Nat) :
    Calls Tryz.prog 8 #[.pointer (some ⟨g, 0, none⟩), .pointer (some ⟨g', 0, none⟩), .agg #[.int .i64 5, .string a, .string b, .int .i64 n, .slice dA dn dc, .slice kA kn kc]] w (DoOut w B g F B' g' W F' D) := by
  have hbx := Blk.new w 37 #[.int .i64 5, .string a, .string b, .int .i64 n, .slice dA dn dc, .slice kA kn kc]
  have HP := Lib.hid h
  clear h
  go_enter Tryz.func8, Tryz.ntmps8
  go_wp2_with fail
  refine (Read_any (HP.out.d.nix ((Frm.refl Nix w).alloc _)) a).mono ?_
  rintro e w1 ⟨v1, rfl, own1, f1⟩
  obtain ⟨A1, q1, rfl, -⟩ := own_shape own1
  have b1 := hbx.frm f1 id
  have c1 := b1.cell 1
  simp at c1
  have HR1 := Lib.hid (Rd.of_own own1)
  have HF1 := Lib.hid (((Frm.refl Nix w).alloc (.cells #[.int .i64 5, .string a, .string b, .int .i64 n, .slice dA dn dc, .slice kA kn kc] 37)).trans f1)
  clear own1 f1 b1 hbx
  go_wp2_with fail
  refine (rRead_any (HP.out.x.nix HF1.out) a).mono ?_
  rintro e w2 ⟨v2, rfl, own2, f2⟩
  obtain ⟨A2, q2, rfl, -⟩ := own_shape own2
  have s1 : (convert 35 9 (.slice A1 (D.read a).length q1)).run Tryz.prog w2 = .ok (.string ⟨(D.read a).toArray⟩) w2 := run_str_of (HR1.out.frm f2 fun _ _ => id)
  have s2 : (convert 35 9 (.slice A2 (D.read a).length q2)).run Tryz.prog w2 = .ok (.string ⟨(D.read a).toArray⟩) w2 := run_str_of (Rd.of_own own2)
  have HF2 := Lib.hid (HF1.out.trans f2)
  clear own2 f2 c1
  generalize D.read a = R at *
  generalize D.there a = T at *
  go_wp2
  go_ret
  exact ⟨ret_bool (by simp), HP.out.same HF2.out⟩

set_option maxRecDepth 100000 in
set_option maxHeartbeats 2000000 in
theorem Do6 {w : World} {B g B' g' : Nat} {F W F' : Nat → Prop} {D : Dsk} (h : Pair w B g F B' g' W F' D) (a b : ByteArray) (n : Int) (dA kA : Option Addr) (dn dc kn kc : Nat) (kl : List Int) {G : Nat → Prop} (hn : n ≤ 9223372036854775807)
    (hkl : kl.length = kn) (hkr : Rd w G 1 kA kn (ivs kl)) (hkn : kn ≤ maxLen) (hG : ∀ k, G k → ¬ F k ∧ ¬ F' k) :
    Calls Tryz.prog 8 #[.pointer (some ⟨g, 0, none⟩), .pointer (some ⟨g', 0, none⟩), .agg #[.int .i64 6, .string a, .string b, .int .i64 n, .slice dA dn dc, .slice kA kn kc]] w (DoOut w B g F B' g' W F' (D.stop n).1) := by
  have hbx := Blk.new w 37 #[.int .i64 6, .string a, .string b, .int .i64 n, .slice dA dn dc, .slice kA kn kc]
  have HP := Lib.hid h
  have HB := Lib.hid hbx
  clear h hbx hkl hkr hG
  have K1 : Hid (∀ W1, Frm Nix (w.alloc (.cells #[.int .i64 6, .string a, .string b, .int .i64 n, .slice dA dn dc, .slice kA kn kc] 37)) W1 → Calls Tryz.prog 31 #[.pointer (some ⟨g, 0, none⟩), .int .i64 n] W1 fun e W' => e = .returned (.int .i64 (D.stop n).2) ∧ Mid w B g F B' g' W F' D (D.stop n).1 37 #[.int .i64 6, .string a, .string b, .int .i64 n, .slice dA dn dc, .slice kA kn kc] W' ∧ W'.cell? ⟨w.heap.size, 3, none⟩ = some (.int .i64 n)) := fun W1 h1 => by
    have hW : Frm Nix w W1 := ((Frm.refl Nix w).alloc _).trans h1
    refine (Stop_any B g F D n W1 (HP.out.d.nix hW) hn).mono ?_
    rintro e W' ⟨rfl, hd1, hf1⟩
    have hmid := Mid.mk HP.out HB.out h1 hd1 hf1 (fun _ hk => .inl hk)
    exact ⟨rfl, hmid, (hmid.blk.cell 3).trans rfl⟩
  have K2 : Hid (∀ W1, Mid w B g F B' g' W F' D (D.stop n).1 37 #[.int .i64 6, .string a, .string b, .int .i64 n, .slice dA dn dc, .slice kA kn kc] W1 → Calls Tryz.prog 32 #[.pointer (some ⟨g', 0, none⟩), .int .i64 n] W1 fun e W' => e = .returned (.int .i64 (D.stop n).2) ∧ PairGo w B g F B' g' W F' (D.stop n).1 W' ∧ W'.cell? ⟨w.heap.size, 3, none⟩ = some (.int .i64 n)) := fun W1 hm => by
    refine (rStop_any hm.x n hn).mono ?_
    rintro e W' ⟨rfl, hgo⟩
    have hb2 := hm.blk2 HP.out hgo
    exact ⟨rfl, hm.go HP.out hgo, (hb2.cell 3).trans rfl⟩
  generalize (D.stop n).1 = D1 at *
  generalize (D.stop n).2 = n1 at *
  go_enter Tryz.func8, Tryz.ntmps8
  go_wp2
  go_region_held3 (fun w' => w'.cell? ⟨w.heap.size, 3, none⟩ = some (.int .i64 n)) (first | go_keep | assumption)
    (first
      | (go_at_call 31; refine (K1.out _ (by first | exact (Frm.refl Nix _).drew | exact Frm.refl Nix _)).mono ?_; rintro e w1 ⟨rfl, hm1, _k3⟩; have HM1 := Lib.hid hm1; clear hm1)
      | (go_at_call 32; refine (K2.out _ HM1.out).mono ?_; rintro e w2 ⟨rfl, hg2, _j3⟩; have HG2 := Lib.hid hg2; clear hg2))
  go_wp2
  go_ret
  exact ⟨ret_bool (by simp), HG2.out⟩

set_option maxRecDepth 100000 in
set_option maxHeartbeats 2000000 in
theorem Do7 {w : World} {B g B' g' : Nat} {F W F' : Nat → Prop} {D : Dsk} (h : Pair w B g F B' g' W F' D) (a b : ByteArray) (n : Int) (dA kA : Option Addr) (dn dc kn kc : Nat) (kl : List Int) {G : Nat → Prop} (hn : n ≤ 9223372036854775807)
    (hkl : kl.length = kn) (hkr : Rd w G 1 kA kn (ivs kl)) (hkn : kn ≤ maxLen) (hG : ∀ k, G k → ¬ F k ∧ ¬ F' k) :
    Calls Tryz.prog 8 #[.pointer (some ⟨g, 0, none⟩), .pointer (some ⟨g', 0, none⟩), .agg #[.int .i64 7, .string a, .string b, .int .i64 n, .slice dA dn dc, .slice kA kn kc]] w (DoOut w B g F B' g' W F' (D.crash kl)) := by
  have hbx := Blk.new w 37 #[.int .i64 7, .string a, .string b, .int .i64 n, .slice dA dn dc, .slice kA kn kc]
  have HP := Lib.hid h
  have HB := Lib.hid hbx
  have HKr := Lib.hid hkr
  have HG := Lib.hid hG
  have HKl := Lib.hid hkl
  unfold maxLen at hkn
  have hW : Hid (Frm Nix w (w.alloc (.cells #[.int .i64 7, .string a, .string b, .int .i64 n, .slice dA dn dc, .slice kA kn kc] 37))) := (Frm.refl Nix w).alloc _
  clear h hbx hkr hG hkl
  go_enter Tryz.func8, Tryz.ntmps8
  go_wp2_with fail
  refine (Crash_any (HP.out.d.nix hW.out) kA kn kc kl HKl.out hkn G (HKr.out.frm hW.out fun _ _ => id) fun k hk => (HG.out k hk).1).mono ?_
  rintro e w1 ⟨rfl, F1, hd1, hf1, hn1⟩
  have hm := Mid.mk HP.out HB.out (Frm.refl Nix _) hd1 hf1 hn1
  have c5 := hm.blk.cell 5
  simp at c5
  have HM := Lib.hid hm
  clear hm hd1 hf1 hn1
  go_wp2_with fail
  refine (rCrash_any HM.out.x kA kn kc kl HKl.out hkn G (HM.out.rd HKr.out HG.out) fun k hk => (HG.out k hk).2).mono ?_
  rintro e w2 ⟨rfl, hgo⟩
  have HG2 := Lib.hid (HM.out.go HP.out hgo)
  clear hgo c5
  go_wp2
  go_ret
  exact ⟨rfl, HG2.out⟩

set_option maxRecDepth 100000 in
set_option maxHeartbeats 2000000 in
theorem Do0 {w : World} {B g B' g' : Nat} {F W F' : Nat → Prop} {D : Dsk} (h : Pair w B g F B' g' W F' D) (kk : Int) (a b : ByteArray) (n : Int) (dA kA : Option Addr) (dn dc kn kc : Nat)
    (h1 : ¬ kk = 1) (h2 : ¬ kk = 2) (h3 : ¬ kk = 3) (h4 : ¬ kk = 4) (h5 : ¬ kk = 5) (h6 : ¬ kk = 6) (h7 : ¬ kk = 7) :
    Calls Tryz.prog 8 #[.pointer (some ⟨g, 0, none⟩), .pointer (some ⟨g', 0, none⟩), .agg #[.int .i64 kk, .string a, .string b, .int .i64 n, .slice dA dn dc, .slice kA kn kc]] w (DoOut w B g F B' g' W F' D) := by
  have HP := Lib.hid h
  clear h
  go_enter Tryz.func8, Tryz.ntmps8
  go_wp2
  go_ret
  exact ⟨rfl, HP.out.same ((Frm.refl Nix w).alloc _)⟩

/-- ONE CALL OF BOTH. -/
theorem Do_any {w : World} {B g B' g' : Nat} {F W F' : Nat → Prop} {D : Dsk} (h : Pair w B g F B' g' W F' D) (o : OpV) {G : Nat → Prop} (ha : o.a.size ≤ maxLen) (hb : o.b.size ≤ maxLen) (hn : o.n ≤ 9223372036854775807)
    (hdl : o.dl.length = o.dn) (hdr : Rd w G 1 o.dA o.dn (bvs o.dl)) (hdn : o.dn ≤ 1000) (hkl : o.kl.length = o.kn) (hkr : Rd w G 1 o.kA o.kn (ivs o.kl)) (hkn : o.kn ≤ maxLen) (hG : ∀ k, G k → ¬ F k ∧ ¬ F' k) (hd : D.deeds < 4611686018427387904) :
    Calls Tryz.prog 8 #[.pointer (some ⟨g, 0, none⟩), .pointer (some ⟨g', 0, none⟩), .agg o.cells.toArray] w (DoOut w B g F B' g' W F' (D.op o)) := by
  obtain ⟨kk, a, b, n, dA, dn, dc, dl, kA, kn, kc, kl⟩ := o
  simp only [OpV.cells] at *
  by_cases k1 : kk = 1
  · subst k1
    exact Do1 h a b n dA kA dn dc kn kc dl kl ha hb hn hdl hdr hdn hkl hkr hkn hG hd
  by_cases k2 : kk = 2
  · subst k2
    exact Do2 h a b n dA kA dn dc kn kc dl kl ha hb hn hdl hdr hdn hkl hkr hkn hG hd
  by_cases k3 : kk = 3
  · subst k3
    exact Do3 h a b n dA kA dn dc kn kc dl kl ha hb hn hdl hdr hdn hkl hkr hkn hG hd
  by_cases k4 : kk = 4
  · subst k4
    exact Do4 h a b n dA kA dn dc kn kc dl kl ha hb hn hdl hdr hdn hkl hkr hkn hG hd
  by_cases k6 : kk = 6
  · subst k6
    exact Do6 h a b n dA kA dn dc kn kc kl hn hkl hkr hkn hG
  by_cases k7 : kk = 7
  · subst k7
    exact Do7 h a b n dA kA dn dc kn kc kl hn hkl hkr hkn hG
  have e : D.op ⟨kk, a, b, n, dA, dn, dc, dl, kA, kn, kc, kl⟩ = D := by simp [Dsk.op, k1, k2, k3, k4, k6, k7]
  rw [e]
  by_cases k5 : kk = 5
  · subst k5
    exact Do5 h a b n dA kA dn dc kn kc
  · exact Do0 h kk a b n dA kA dn dc kn kc k1 k2 k3 k4 k5 k6 k7
end Go.Proofs.YtdgpaddmheagoaaGreatDoor
