/-
  DiskClones: for every input the law 'a clone does the same as its disk, and neither changes the other' returns true, and its arguments read as they did. No condition.
-/
import Derived.Test.YthhkblogocoeeaaRows
import Derived.Test.YthhkblogocoeeaaOps
import Derived.Test.YthhkblogocoeeaaRefN
import Derived.OpenShut
import Derived.ShutString
import Derived.ChangeOld
namespace Go.Proofs.Ythhkblogocoeeaa
open Go.ChangeShapes Go.WideShapes Go.ChangeAt Go.RowKit

namespace diskClones

set_option maxRecDepth 100000 in
set_option maxHeartbeats 4000000 in
theorem walk (A : Option Addr) (n c : Nat) (l : List OpV) (A' : Option Addr) (n' c' : Nat) (l' : List OpV) (w : World)
    (hl : l.length = n ∧ Rd w (OldB w) 6 A n (l.flatMap OpV.cells) ∧ (∀ o ∈ l, o.Ok w) ∧ NilOk A n c ∧ n ≤ c ∧ c ≤ maxLen)
    (hl' : l'.length = n' ∧ Rd w (OldB w) 6 A' n' (l'.flatMap OpV.cells) ∧ (∀ o ∈ l', o.Ok w) ∧ NilOk A' n' c' ∧ n' ≤ c' ∧ c' ≤ maxLen) :
    Calls Try.prog 5 #[.slice A n c, .slice A' n' c'] w fun e w' => e = .returned (.bool true) ∧ Frm Nix w w' := by
  obtain ⟨hll, hrd, hok, -, hnc, hcm⟩ := hl
  obtain ⟨hll', hrd', hok', -, hnc', hcm'⟩ := hl'
  have HL := Lib.hid hll
  have HR := Lib.hid hrd
  have HO := Lib.hid hok
  have HL' := Lib.hid hll'
  have HR' := Lib.hid hrd'
  have HO' := Lib.hid hok'
  have KL : Hid (∀ W, Frm Nix w W → Calls Try.prog 11 #[.slice A n c] W fun e w' => e = .returned (.bool (largeB l)) ∧ W = w') := fun W hW =>
    Large_any A n c l (OldB w) W HL.out (HR.out.frm hW fun _ _ => id) (Nat.le_trans hnc hcm) fun o ho => ⟨(HO.out o ho).dm, (HO.out o ho).a, (HO.out o ho).b⟩
  have KL' : Hid (∀ W, Frm Nix w W → Calls Try.prog 11 #[.slice A' n' c'] W fun e w' => e = .returned (.bool (largeB l')) ∧ W = w') := fun W hW =>
    Large_any A' n' c' l' (OldB w) W HL'.out (HR'.out.frm hW fun _ _ => id) (Nat.le_trans hnc' hcm') fun o ho => ⟨(HO'.out o ho).dm, (HO'.out o ho).a, (HO'.out o ho).b⟩
  unfold maxLen at hcm hcm'
  clear hll hrd hok hll' hrd' hok'
  go_enter Try.func5, Try.ntmps5
  go_wp2_with fail
  refine (New_yes 500 w w.heap.size (Nat.le_refl _) (by omega) (by omega)).mono ?_
  rintro e wa ⟨g, F, rfl, hd, hfa, -⟩
  go_wp2_with fail
  refine (rNew_yes 500 wa w.heap.size hfa.size (by omega) (by omega)).mono ?_
  rintro e wb ⟨g', F', rfl, hx, hfb, hkb⟩
  have HX : Hid (∃ W F', RD wb w.heap.size g' W F' (dsk0 500) ∧ ∀ k, F' k → wa.heap.size ≤ k) := ⟨F', F', hx.rd rfl, hkb⟩
  have HD := Lib.hid hd
  have HFa := Lib.hid hfa
  have HFb := Lib.hid hfb
  clear hd hfa hx hfb hkb
  go_wp2_with fail
  refine (lives_any wb).mono ?_
  rintro e w1 ⟨rfl, hf1⟩
  have K1 := KL.out w1 ((HFa.out.trans HFb.out).trans hf1)
  have K2 := KL'.out w1 ((HFa.out.trans HFb.out).trans hf1)
  have HT : Hid (Two w w g g' 0 (dsk0 500) w1) := by
    obtain ⟨W, F2, h1, h2⟩ := HX.out
    exact Two.new HD.out HFa.out h1 HFb.out h2 rfl hf1
  clear hf1 HX HD HFa HFb
  cases hlb : largeB l with
  | true =>
    rw [hlb] at K1
    go_wp2_with fail
    refine K1.mono ?_
    rintro e w' ⟨rfl, rfl⟩
    go_wp2_with fail
    refine (lives_any w1).mono ?_
    rintro e w2 ⟨rfl, hf2⟩
    go_wp2
    go_ret
    exact ⟨rfl, HT.out.all.trans hf2⟩
  | false =>
    rw [hlb] at K1
    have HB := Lib.hid hlb
    clear hlb
    cases hlb : largeB l' with
    | true =>
      rw [hlb] at K2
      go_wp2_with fail
      refine K1.mono ?_
      rintro e w' ⟨rfl, rfl⟩
      go_wp2_with fail
      refine K2.mono ?_
      rintro e w' ⟨rfl, rfl⟩
      go_wp2_with fail
      refine (lives_any w1).mono ?_
      rintro e w2 ⟨rfl, hf2⟩
      go_wp2
      go_ret
      exact ⟨rfl, HT.out.all.trans hf2⟩
    | false =>
      rw [hlb] at K2
      have HB' := Lib.hid hlb
      have h150 := large_len HB.out
      rw [HL.out] at h150
      have h150' := large_len hlb
      rw [HL'.out] at h150'
      clear hlb
      go_wp2_with fail
      refine K1.mono ?_
      rintro e w' ⟨rfl, rfl⟩
      go_wp2_with fail
      refine K2.mono ?_
      rintro e w' ⟨rfl, rfl⟩
      clear K1 K2 KL KL'
      go_wp2
      go_loopw [8] (fun i wr => ∃ (k : Nat) (D : Dsk), k ≤ n ∧ i = .int .i64 k ∧ Two w w g g' k D wr) (fun i _ => n - (intOf i).toNat)
      case atStart => exact ⟨0, _, Nat.zero_le _, rfl, HT.out⟩
      case round =>
        obtain ⟨k, D, hk, rfl, ht⟩ := hrel
        have HT2 := Lib.hid ht
        clear ht HT
        by_cases hlt : k < n
        · have hkl : k < l.length := by rw [HL.out]; exact hlt
          obtain ⟨b, off, rfl, -, hbl, hcell⟩ := rd_ops HR.out HL.out (by omega)
          have hc := fun j u (hu : l[k].cells[j]? = some u) => (HT2.out.frm.cell (p := ⟨b, off + k * 6 + j, none⟩) hbl id).trans (hcell k hkl j u hu)
          have KD := Lib.hid (HT2.out.call l[k] (HO.out _ (List.getElem_mem hkl)) (OpV.Ok.small (W := w) HB.out (List.getElem_mem hkl)) (by omega))
          obtain ⟨o, ho⟩ : ∃ o, l[k] = o := ⟨_, rfl⟩
          simp only [ho] at hc
          rw [ho] at KD
          obtain ⟨kk, a, b', m, dA, dn, dc, dl, kA, kn, kc, kl⟩ := o
          have c0 := hc 0 _ rfl
          rw [Nat.add_zero] at c0
          have c1 := hc 1 _ rfl
          have c2 := hc 2 _ rfl
          have c3 := hc 3 _ rfl
          have c4 := hc 4 _ rfl
          have c5 := hc 5 _ rfl
          clear hc hcell ho hkl
          go_wp2_with fail
          refine KD.out.mono ?_
          rintro e w2 ⟨rfl, ht2⟩
          have HT3 := Lib.hid ht2
          clear ht2 c0 c1 c2 c3 c4 c5
          go_wp2
          go_roundw
          case rel => exact ⟨k + 1, _, by omega, by go_num, HT3.out⟩
          case measure => simp [intOf]; omega
        · obtain rfl : k = n := by omega
          obtain ⟨F, W, F', hp, -, -⟩ := HT2.out.at_
          have HP := Lib.hid hp
          clear hp
          go_wp2_with fail
          refine (Clone_any HP.out.d HT2.out.all.size).mono ?_
          rintro e w2 ⟨g2, F2, rfl, hd2, f2, n2⟩
          have H2 := Lib.hid (And.intro hd2 (And.intro f2 n2))
          clear hd2 f2 n2
          go_wp2_with fail
          refine (rClone_any (HP.out.x.nix H2.out.2.1)).mono ?_
          rintro e w3 ⟨g3, W3, F3, rfl, hx3, f3, n3, n4⟩
          have HC : Hid (Two w wr g2 g3 k D w3) := HT2.out.clone HP.out H2.out.1 H2.out.2.1 H2.out.2.2 hx3 f3 n3 n4
          clear hx3 f3 n3 n4 H2 HP
          go_wp2
          go_loopw [11] (fun i wx => ∃ (j : Nat) (D' : Dsk), j ≤ n' ∧ i = .int .i64 j ∧ Two w wr g2 g3 (k + j) D' wx) (fun i _ => n' - (intOf i).toNat)
          case atStart => exact ⟨0, _, Nat.zero_le _, rfl, HC.out⟩
          case round =>
            obtain ⟨j, D', hj, rfl, ht⟩ := hrel
            have HT3 := Lib.hid ht
            clear ht HC
            by_cases hlt : j < n'
            · have hkl : j < l'.length := by rw [HL'.out]; exact hlt
              obtain ⟨b, off, rfl, -, hbl, hcell⟩ := rd_ops HR'.out HL'.out (by omega)
              have hc := fun i u (hu : l'[j].cells[i]? = some u) => (HT3.out.all.cell (p := ⟨b, off + j * 6 + i, none⟩) hbl id).trans (hcell j hkl i u hu)
              have KD := Lib.hid (HT3.out.call l'[j] (HO'.out _ (List.getElem_mem hkl)) (OpV.Ok.small (W := w) HB'.out (List.getElem_mem hkl)) (by omega))
              obtain ⟨o, ho⟩ : ∃ o, l'[j] = o := ⟨_, rfl⟩
              simp only [ho] at hc
              rw [ho] at KD
              obtain ⟨kk, a, b', m, dA, dn, dc, dl, kA, kn, kc, kl⟩ := o
              have c0 := hc 0 _ rfl
              rw [Nat.add_zero] at c0
              have c1 := hc 1 _ rfl
              have c2 := hc 2 _ rfl
              have c3 := hc 3 _ rfl
              have c4 := hc 4 _ rfl
              have c5 := hc 5 _ rfl
              clear hc hcell ho hkl
              go_wp2_with fail
              refine KD.out.mono ?_
              rintro e w4 ⟨rfl, ht4⟩
              have HT4 := Lib.hid ht4
              clear ht4 c0 c1 c2 c3 c4 c5
              go_wp2
              go_roundw
              case rel => exact ⟨j + 1, _, by omega, by go_num, HT4.out⟩
              case measure => simp [intOf]; omega
            · obtain rfl : j = n' := by omega
              go_wp2_with fail
              refine HT3.out.alike.mono ?_
              rintro e w4 ⟨rfl, hf4⟩
              have HT5 := Lib.hid (HT2.out.nix (HT3.out.frm.trans hf4))
              clear hf4
              go_wp2_with fail
              refine HT5.out.alike.mono ?_
              rintro e w5 ⟨rfl, hf5⟩
              go_wp2
              go_ret
              exact ⟨rfl, HT5.out.all.trans hf5⟩
theorem own : ownKnob Try.prog.godebug = none := by kernel_rfl
theorem laidOut : laidOutB Try.prog = true := by kernel_rfl

set_option maxRecDepth 100000 in
theorem lifted (os : Os) (started : os.Started) (H : Type) (enc : TypeId × Value → H) :
    ReturnsInHanded {} Try.checked os 5 .any (Rows.diskClonesSpec.pre6 enc Try.prog Try.f5 Rows.diskClonesRow.domain false) (Rows.diskClonesSpec.post enc Try.prog Try.f5 false true false false) := by
  refine returnsInHanded_of_change (C := Try.checked) own started (by kernel_rfl) Try.func5
    (ChangeSpec.witness6 (enc := enc) (C := Try.checked) false ⟨#[], #[.slice none 0 0, .slice none 0 0], []⟩ 8 (by kernel_rfl) (by kernel_rfl) (by kernel_rfl) (by kernel_rfl)) ?_
  intro W base args ds gs before hval0 hW hcnd _
  have hval : ∀ (j : Nat) t v, Try.f5.params[j]? = some t → args[j]? = some v → Value.okWide Try.prog W .any base t v := hval0
  have hW' := hW
  obtain ⟨p, q, hA0, hV, rfl, hfz, hnd⟩ := hW
  have hA : DataW.TrodAll enc Try.prog W 0 (fun _ => true) true Try.f5.params.toList args.toList ds p := hA0
  rw [Try.params5] at hA hval
  obtain ⟨v0, vs0, d0, ds0, p0, q0, hargs, rfl, rfl, h0, r0⟩ := trodAll_cons hA
  obtain ⟨v1, vs1, d1, ds1, p1, q1, rfl, rfl, rfl, h1, r1⟩ := trodAll_cons r0
  obtain ⟨rfl, rfl, rfl⟩ := trodAll_nil r1
  obtain rfl : args = #[v0, v1] := by cases args; simp_all
  obtain ⟨rfl, rfl⟩ := trodVars_none hV
  have k0 := h0
  have lt0 : ∀ x ∈ p0, x.block < W.heap.size := by obtain ⟨m, hm⟩ := k0; exact DataW.trod_lt m _ _ _ hm
  obtain ⟨a0, n0, c0, l0, rfl, wx0⟩ : ∃ a n c, ∃ l : List OpV, v0 = .slice a n c ∧ l.length = n ∧ Rd W (OldB W) 6 a n (l.flatMap OpV.cells) ∧ (∀ o ∈ l, o.Ok W) ∧ NilOk a n c ∧ n ≤ c ∧ c ≤ maxLen := by
    obtain ⟨a, n, c, rfl⟩ := okWide_slice Try.underlying22 (hval 0 22 v0 rfl rfl)
    obtain ⟨fuel, hf⟩ := h0
    obtain ⟨A, n', c', l, e, hk⟩ := vOps hf
    simp [Value.cells] at e
    obtain ⟨rfl, rfl, rfl⟩ := e
    exact ⟨_, _, _, l, rfl, hk⟩
  have k1 := h1
  have lt1 : ∀ x ∈ p1, x.block < W.heap.size := by obtain ⟨m, hm⟩ := k1; exact DataW.trod_lt m _ _ _ hm
  obtain ⟨a1, n1, c1, l1, rfl, wx1⟩ : ∃ a n c, ∃ l : List OpV, v1 = .slice a n c ∧ l.length = n ∧ Rd W (OldB W) 6 a n (l.flatMap OpV.cells) ∧ (∀ o ∈ l, o.Ok W) ∧ NilOk a n c ∧ n ≤ c ∧ c ≤ maxLen := by
    obtain ⟨a, n, c, rfl⟩ := okWide_slice Try.underlying22 (hval 1 22 v1 rfl rfl)
    obtain ⟨fuel, hf⟩ := h1
    obtain ⟨A, n', c', l, e, hk⟩ := vOps hf
    simp [Value.cells] at e
    obtain ⟨rfl, rfl, rfl⟩ := e
    exact ⟨_, _, _, l, rfl, hk⟩
  clear hA0 hval0
  refine (walk a0 n0 c0 l0 a1 n1 c1 l1 W wx0 wx1).mono fun e W' ⟨he, hfr⟩ => ?_
  have bel : Below W.heap.size W W' := hfr.below (fun _ h => absurd h id) (Nat.le_refl _)
  subst he
  exact ⟨_, rfl, _, _, _, [], _, [], hW', trodAll_mk1 (shut_bool Try.underlying4 _), (trodAll_cons_mk (Below.trod laidOut (by kernel_rfl) (of_decide_eq_true (by kernel_rfl)) k0 bel lt0) (trodAll_cons_mk (Below.trod laidOut (by kernel_rfl) (of_decide_eq_true (by kernel_rfl)) k1 bel lt1) trodAll_mk0)), rfl, bel.frame _, fun h => by cases h⟩

theorem proved : Rows.DiskClonesSaid :=
  OpenClaim.holds_of_wide 5 Try.f5 rfl rfl rfl rfl rfl rfl rfl ⟨rfl, rfl, rfl, rfl, rfl⟩ rfl rfl rfl rfl rfl (by kernel_rfl) Try.func5 (by kernel_rfl)
    (of_decide_eq_true (by kernel_rfl)) (by unfold Func.isWrapper; first | (rw [if_pos (by decide +kernel)]; kernel_rfl) | (rw [if_neg (by decide +kernel)]; exact ⟨rfl, rfl⟩))
    (fun os started H enc _ => lifted os started H enc)
#print axioms proved
end diskClones
end Go.Proofs.Ythhkblogocoeeaa
