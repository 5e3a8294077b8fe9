/-
  Contracts: sets of words by the document (newsstandref06.Set).
-/
import Derived.Test.YtnnfgbnnodcepaaWK
import Derived.Test.YtnnfgbnnodcepaaWL
import Derived.ArgAppend
import Derived.Deep.RegionLaw
set_option linter.unusedVariables false
set_option linter.unusedSimpArgs false
namespace Go.Proofs.Ytnnfgbnnodcepaa
open Go.RowKit Go.Lib

def sv (x : List UInt8) : Value := .string (ofB x)
theorem sv_map (l : List (List UInt8)) : (l.map ofB).map Value.string = l.map sv := by rw [List.map_map]; rfl
theorem sv_one (l : List (List UInt8)) : ∀ u ∈ l.map sv, u.oneCell' = true := by
  intro u hu
  obtain ⟨x, -, rfl⟩ := List.mem_map.1 hu
  rfl
theorem insW_len (x : List UInt8) : ∀ l, (insW x l).length ≤ l.length + 1
  | [] => by simp [insW]
  | y :: t => by
    have := insW_len x t
    unfold insW
    split
    · simp; omega
    · split <;> simp
theorem setW_succ (l : List (List UInt8)) (k : Nat) (h : k < l.length) : setW (l.take (k + 1)) = insW l[k] (setW (l.take k)) := by
  unfold setW
  rw [List.take_succ_eq_append_getElem h, List.foldl_append]
  rfl
theorem setW_len (l : List (List UInt8)) : ∀ k, k ≤ l.length → (setW (l.take k)).length ≤ k
  | 0, _ => by simp [setW]
  | k + 1, h => by
    rw [setW_succ l k (by omega)]
    have := insW_len l[k] (setW (l.take k))
    have := setW_len l k (by omega)
    omega
theorem bytesLess_lt : ∀ a b : List UInt8, Op.bytesLess a b = decide (a < b)
  | [], [] => by simp [Op.bytesLess]
  | [], _ :: _ => by simp [Op.bytesLess]
  | _ :: _, [] => by simp [Op.bytesLess]
  | x :: a, y :: b => by
    rw [Bool.eq_iff_iff]
    simp only [Op.bytesLess, bytesLess_lt a b, Bool.or_eq_true, Bool.and_eq_true, beq_iff_eq, decide_eq_true_eq, List.cons_lt_cons_iff]
theorem less_of (a b : List UInt8) : Op.bytesLess (ofB a).toList (ofB b).toList = decide (a < b) := by
  rw [bytesLess_lt, ByteArray.toList_eq, ByteArray.toList_eq]
  rfl
theorem eql_of (a b : List UInt8) : ((ofB a).toList == (ofB b).toList) = decide (a = b) := by
  rw [ByteArray.toList_eq, ByteArray.toList_eq]
  show (a == b) = _
  rw [Bool.eq_iff_iff]
  simp

/-- 'append(v[:k:k], x)': a new row. -/
theorem RowIn.grow {P : Program} {t e : TypeId} {bytes : Nat} (E : ElemOk P t e bytes) {w0 w1 : World} (h0 : Frm Nix w0 w1) {G G' : Nat → Prop} {A : Option Addr} {k : Nat} {xs : List Value} (hr : Rd w1 G 1 A k xs) (h1 : ∀ u ∈ xs, u.oneCell' = true) (hA : A = none → k = 0) {b : Addr} {x : Value} (c : Nat) (hx : Rd w1 G' 1 (some b) 1 [x]) (h2 : x.oneCell' = true)
    (hn : k + 1 ≤ maxLen) (hb : (k + 1) * bytes ≤ 140737488355328) :
    ∃ v' w2, (∀ ty, (Builtin.append_ #[t, t] ty #[.slice A k k, .slice (some b) 1 c]).run P w1 = .ok v' w2) ∧ RowIn e w0 w2 v' (k + 1) (xs ++ [x]) ∧ Frm Nix w1 w2 ∧ ∀ i, v'.ownBlock = some i → w1.heap.size ≤ i := by
  rcases A with _ | ad
  · obtain rfl : k = 0 := hA rfl
    have hxs : xs = [] := List.eq_nil_of_length_eq_zero (by have := hr.1; omega)
    subst hxs
    obtain ⟨v', w2, r, h3, h4, h5⟩ := (RowIn.nil_ e h0).app E (ys := [x]) c hx (fun u hu => by simp at hu; subst hu; exact h2) (by omega) (by omega)
    refine ⟨v', w2, r, h3, h4.mono fun i hi => by simp [Value.ownBlock] at hi, fun i hi => ?_⟩
    rcases h5 with e1 | e1
    · rw [e1] at hi
      simp [Value.ownBlock] at hi
    · rw [e1] at hi
      injection hi with hi
      omega
  · obtain ⟨z, hi, hzs⟩ := E.i
    obtain ⟨i0, hi0, hz0, hz1, hz2⟩ := info_parts hi
    obtain ⟨b', e1, -, -, hxc⟩ := hx.2 (by omega)
    injection e1 with e1
    subst e1
    have holds : ∀ j u, xs[j]? = some u → w1.cell? (ad.add j) = some u := by
      intro j u hu
      obtain ⟨ad', e2, -, -, hc⟩ := hr.2 (by have := hr.1; have := (List.getElem?_eq_some_iff.1 hu).1; omega)
      injection e2 with e2
      subst e2
      exact hc j u hu
    have key : ∀ ty, ∃ v' w2, (Builtin.append_ #[t, t] ty #[.slice (some ad) k k, .slice (some b) 1 c]).run P w1 = .ok v' w2 ∧ w2.ownsRow w1.heap.size e 1 v' (k + 1) (xs ++ [x]) ∧ w1.grownBy w2 none := fun ty =>
      run_append_arg_grows (P := P) (w := w1) t ty e i0 z 1 bytes E.t hi0 hz0 hz1 hz2 hzs (by decide) ad k k xs (by have := hr.1; omega) holds b 1 c [x] rfl hxc (by omega) hn hb
    obtain ⟨v', w2, hrun, hown, hg⟩ := key 0
    have hf : Frm Nix w1 w2 := (Frm.refl Nix w1).grown hg fun _ h => by cases h
    refine ⟨v', w2, fun ty => ?_, ⟨own_base hown fun i hi => by have := (hown.lt i hi).1; have := h0.size; omega, h0.trans hf⟩, hf, fun i hi => (hown.lt i hi).1⟩
    rw [← hrun]
    rfl

/-- one word is put in at place p: the three appends. -/
theorem put_word {w1 wx : World} {oA : Option Addr} {oc : Nat} {O : List (List UInt8)} {x : List UInt8} {p : Nat} (h : RowIn 9 w1 wx (.slice oA O.length oc) O.length (O.map sv)) (hp : p ≤ O.length) (hO : O.length ≤ 1000000) (hoc : O.length ≤ oc) (hnil : oA = none → oc = 0) :
    ∃ A1 c1 wA, (∀ ty, (Builtin.append_ #[23, 23] ty #[.slice (some ⟨wx.heap.size, 0, none⟩) 0 0, .slice (if oc = p then oA else oA.map (·.add (p * 1))) (O.length - p) (oc - p)]).run Try.prog (wx.alloc (.cells #[] 9)) = .ok (.slice A1 (O.length - p) c1) wA) ∧ Frm Nix wx wA ∧
      ∃ v2 wB, (∀ ty, (Builtin.append_ #[23, 23] ty #[.slice oA p p, .slice (some ⟨wA.heap.size, 0, none⟩) 1 1]).run Try.prog (wA.alloc (.cells #[sv x] 9)).drew = .ok v2 wB) ∧
        ∃ A3 c3 wC, (∀ ty, (Builtin.append_ #[23, 23] ty #[v2, .slice A1 (O.length - p) c1]).run Try.prog wB = .ok (.slice A3 (O.length + 1) c3) wC) ∧
          RowIn 9 w1 wC (.slice A3 (O.length + 1) c3) (O.length + 1) ((O.take p ++ x :: O.drop p).map sv) := by
  have hone := sv_one O
  have E0 := RowIn.empty 9 (Frm.refl Nix wx)
  have hcut := (h.rd.cut (k := p) hp hoc).frm ((Frm.refl Nix wx).alloc (.cells #[] 9)) fun _ _ => id
  obtain ⟨v1, wA, r1, R1, -, -⟩ := E0.app elemS (oc - p) hcut (fun u hu => hone u (List.mem_of_mem_drop hu)) (by unfold maxLen; omega) (by omega)
  rw [Nat.zero_add, List.nil_append, Nat.mul_one, ← List.map_drop] at R1
  obtain ⟨A1, c1, rfl, -, -, -, -⟩ := R1.shape
  have hfd : Frm Nix wx (wA.alloc (.cells #[sv x] 9)).drew := (R1.frm.alloc _).drew
  have htk := (h.rd.take (k := p) hp).frm hfd fun _ _ => id
  rw [Nat.mul_one, ← List.map_take] at htk
  have hx : Rd (wA.alloc (.cells #[sv x] 9)).drew (fun k => k = wA.heap.size) 1 (some ⟨wA.heap.size, 0, none⟩) 1 [sv x] := (Rd.of_obj (heap_alloc_new wA (.cells #[sv x] 9)) 1 rfl).frm (Frm.refl Nix _).drew fun _ _ => id
  obtain ⟨v2, wB, r2, R2, f2, n2⟩ := RowIn.grow elemS (h.frm.trans hfd) htk (sv_one _) (fun e => by have := hnil e; omega) 1 hx rfl (by unfold maxLen; omega) (by omega)
  have hr1 := (R1.rd.frm ((Frm.refl Nix wA).alloc (.cells #[sv x] 9)).drew fun _ _ => id).frm f2 fun _ _ => id
  obtain ⟨v3, wC, r3, R3, -, -⟩ := R2.app elemS c1 hr1 (sv_one _) (by unfold maxLen; omega) (by omega)
  have e1 : p + 1 + (O.length - p) = O.length + 1 := by omega
  have e2 : (O.take p).map sv ++ [sv x] ++ (O.drop p).map sv = (O.take p ++ x :: O.drop p).map sv := by simp
  rw [e1, e2] at R3
  obtain ⟨A3, c3, rfl, -, -, -, -⟩ := R3.shape
  exact ⟨A1, c1, wA, r1, R1.frm, v2, wB, r2, A3, c3, wC, r3, R3⟩

set_option maxRecDepth 100000 in
set_option maxHeartbeats 4000000 in
theorem rSet_any (s : ByteArray) (w : World) (hs : s.size ≤ 200000) :
    Calls Try.prog 12 #[.string s] w (StrsOut w (setB s)) := by
  have KW := fun W => rWords_any s W hs
  rw [wordsB_ofB] at KW
  have hwl := (words_bound (bys s)).1
  rw [← size_bys] at hwl
  unfold setB
  generalize wordsL (bys s) = L at *
  have HK := Lib.hid KW
  have hln : L.length ≤ 200000 := by omega
  clear KW hwl
  go_enter Try.func12, Try.ntmps12
  go_wp2_with fail
  refine (HK.out _).mono ?_
  rintro e w1 ⟨A, c, rfl, hrow⟩
  rw [sv_map] at hrow
  simp only [List.length_map] at hrow ⊢
  have HL := Lib.hid hrow
  clear hrow
  go_wp2
  go_loopw [4, 5] (fun o i wr => ∃ k : Nat, k ≤ L.length ∧ i = .int .i64 k ∧ RowIn 9 w1 wr o (setW (L.take k)).length ((setW (L.take k)).map sv)) (fun _ i _ => L.length - (intOf i).toNat)
  case atStart => exact ⟨0, Nat.zero_le _, rfl, RowIn.nil_ _ (Frm.refl _ _)⟩
  case round =>
    obtain ⟨k, hk, rfl, hrowO⟩ := hrel
    by_cases hlt : k < L.length
    · obtain ⟨al, u, hAl, -, ll, hu, cl0⟩ := HL.out.rd.at_ hlt
      subst hAl
      rw [List.getElem?_map, List.getElem?_eq_getElem hlt] at hu
      injection hu with hu
      subst hu
      have cl1 := (hrowO.frm.cell (p := al.add k) (by rw [block_of_add]; exact ll) id).trans cl0
      have ll1 : (al.add k).block < wr.heap.size := by rw [block_of_add]; exact Nat.lt_of_lt_of_le ll hrowO.frm.size
      obtain ⟨oA, oc, rfl, hoN, hoc, -, -⟩ := hrowO.shape
      have hOl := setW_len L k hk
      have hsucc := setW_succ L k hlt
      obtain ⟨O, hO⟩ : ∃ O, setW (L.take k) = O := ⟨_, rfl⟩
      obtain ⟨x, hx⟩ : ∃ x, L[k] = x := ⟨_, rfl⟩
      rw [hO] at hrowO hoc hOl hsucc
      rw [hx] at cl1 hsucc
      rw [hO]
      have HS := Lib.hid hsucc
      have HRO := Lib.hid hrowO
      have hP := posW_le x O
      have HAhead := Lib.hid (posW_ahead x O)
      have HAt := Lib.hid (posW_at x O)
      have HThere := Lib.hid (insW_there x O)
      have HNew := Lib.hid (insW_new x O)
      generalize posW x O = p at *
      have hk0 : (0 : Int) ≤ (k : Int) := Int.natCast_nonneg _
      have hk1 : (k : Int) < (L.length : Int) := by omega
      have cl : wr.cell? (al.add k) = some (.string (ofB x)) := cl1
      have HNil := Lib.hid hoN
      clear hrowO hsucc hO hx cl0 cl1 hoN
      obtain ⟨wo, rfl⟩ : ∃ wo : World, wo = wr := ⟨_, rfl⟩
      go_wp2
      go_loopw [6] (fun kk wx => ∃ j : Nat, j ≤ p ∧ kk = .int .i64 j ∧ Frm Nix wo wx) (fun kk _ => O.length + 1 - (intOf kk).toNat)
      case atStart => exact ⟨0, Nat.zero_le _, rfl, Frm.refl _ _⟩
      case round =>
        obtain ⟨j, hj, rfl, hfx⟩ := hrel
        have HX := Lib.hid hfx
        have cx := (hfx.cell (p := al.add k) ll1 id).trans cl
        have llx : (al.add k).block < wr.heap.size := Nat.lt_of_lt_of_le ll1 hfx.size
        clear hfx
        have hj0 : (0 : Int) ≤ (j : Int) := Int.natCast_nonneg _
        by_cases hjP : j < p
        · have hjO : j < O.length := by omega
          obtain ⟨ao, u, hAo, -, lo, hu, co0⟩ := HRO.out.rd.at_ hjO
          subst hAo
          rw [List.getElem?_map, List.getElem?_eq_getElem hjO] at hu
          injection hu with hu
          subst hu
          have co : wr.cell? (ao.add j) = some (.string (ofB O[j])) := (HX.out.cell (p := ao.add j) (by rw [block_of_add]; exact lo) id).trans co0
          have hb : Op.bytesLess (ofB O[j]).toList (ofB x).toList = true := by rw [less_of]; exact decide_eq_true (HAhead.out j hjO hjP)
          have hj1 : (j : Int) < (O.length : Int) := by omega
          clear co0
          generalize ofB O[j] = Y at *
          go_wp2_with fail
          go_quiet (fail)
          go_wp2
          go_roundw
          case rel => exact ⟨j + 1, by omega, by go_num, HX.out.drewN _⟩
          case measure => simp [intOf]; omega
        · obtain rfl : j = p := by omega
          have gx : ∀ y : FW (Frm Nix wr), y.w.cell? (al.add k) = some (.string (ofB x)) := fun y => (y.h.cell llx id).trans cx
          by_cases hPO : j < O.length
          · obtain ⟨ao, u, hAo, -, lo, hu, co0⟩ := HRO.out.rd.at_ hPO
            subst hAo
            rw [List.getElem?_map, List.getElem?_eq_getElem hPO] at hu
            injection hu with hu
            subst hu
            have co : wr.cell? (ao.add j) = some (.string (ofB O[j])) := (HX.out.cell (p := ao.add j) (by rw [block_of_add]; exact lo) id).trans co0
            have lox : (ao.add j).block < wr.heap.size := by rw [block_of_add]; exact Nat.lt_of_lt_of_le lo HX.out.size
            have go : ∀ y : FW (Frm Nix wr), y.w.cell? (ao.add j) = some (.string (ofB O[j])) := fun y => (y.h.cell lox id).trans co
            have hb : Op.bytesLess (ofB O[j]).toList (ofB x).toList = false := by rw [less_of]; exact decide_eq_false (HAt.out hPO)
            have hj1 : (j : Int) < (O.length : Int) := by omega
            by_cases heq : O[j] = x
            · have hq : ((ofB O[j]).toList == (ofB x).toList) = true := by rw [eql_of]; exact decide_eq_true heq
              have HI := Lib.hid (HThere.out hPO heq)
              clear heq co0
              generalize ofB O[j] = Y at *
              go_wp2_with fail
              go_quiet (fail)
              go_wp2_with fail
              refine wp_region_class (Frm Nix wr) (((Frm.refl Nix wr).drewN _).drew) (by kernel_rfl) (by kernel_rfl) ?_
              repeat (go_big_quiet_step (fail))
              refine wpQuiet_nil ?_
              rintro w2 ⟨⟨_, hf2⟩, rfl⟩
              go_wp2
              go_roundw
              case rel =>
                refine ⟨k + 1, by omega, by go_num, ?_⟩
                rw [HS.out, HI.out]
                exact HRO.out.more (HX.out.trans hf2)
              case measure => simp [intOf]; omega
            · have hq : ((ofB O[j]).toList == (ofB x).toList) = false := by rw [eql_of]; exact decide_eq_false heq
              have HNE : Hid (∀ h : j < O.length, O[j] ≠ x) := fun _ => heq
              clear heq co0
              generalize ofB O[j] = Y at *
              go_wp2_with fail
              go_quiet (fail)
              go_wp2_with fail
              refine wp_region_class (Frm Nix wr) (((Frm.refl Nix wr).drewN _).drew) (by kernel_rfl) (by kernel_rfl) ?_
              repeat (go_big_quiet_step (fail))
              refine wpQuiet_nil ?_
              rintro w2 ⟨⟨_, hf2⟩, rfl⟩
              obtain ⟨A1, c1, wA, hrunA, fA, v2, wB, hrunB, A3, c3, wC, hrunC, hR⟩ := put_word (x := x) (HRO.out.more (HX.out.trans hf2)) hP (by omega) hoc (fun e => (HNil.out e))
              have HFin : Hid (RowIn 9 w1 wC (.slice A3 (O.length + 1) c3) (setW (L.take (k + 1))).length ((setW (L.take (k + 1))).map sv)) := by
                unfold Hid
                have e1 : (O.take j ++ x :: O.drop j).length = O.length + 1 := by simp; omega
                rw [HS.out, HNew.out HNE.out, e1]
                exact hR
              have cA : wA.cell? (al.add k) = some (.string (ofB x)) := ((HX.out.trans hf2).trans fA |>.cell (p := al.add k) ll1 id).trans cl
              have hp0 : (0 : Int) ≤ (j : Int) := Int.natCast_nonneg _
              have hp1 : (j : Int) ≤ (O.length : Int) := by omega
              have hp2 : (j : Int) ≤ (oc : Int) := by omega
              clear hR fA
              have hcj : ¬ oc = j := by omega
              simp only [if_neg hcj, Option.map_some, Nat.mul_one] at hrunA
              clear cl cx gx go co
              go_wp2_with (at_builtin; refine wpList_append_run hrunA rfl _ _ rfl rfl rfl ?_)
              go_region_law (first | (refine step_append_run hrunB (by rfl) _ _ (by rfl) (by rfl) (by rfl) ?_) | (refine step_append_run hrunC (by rfl) _ _ (by rfl) (by rfl) (by rfl) ?_))
              all_goals
                go_wp2
                go_roundw
                case rel => exact ⟨k + 1, by omega, by go_num, HFin.out⟩
                case measure => simp [intOf]; omega
          · have HNE : Hid (∀ h : j < O.length, O[j] ≠ x) := fun h => absurd h hPO
            have hjE : j = O.length := by omega
            have hjd : decide (j < O.length) = false := by simp; omega
            have hjd2 : decide ((j : Int) < (O.length : Int)) = false := by simp; omega
            go_wp2_with fail
            go_quiet (fail)
            go_wp2_with fail
            refine wp_region_class (Frm Nix wr) (((Frm.refl Nix wr).drewN _).drew) (by kernel_rfl) (by kernel_rfl) ?_
            repeat (go_big_quiet_step (fail))
            refine wpQuiet_nil ?_
            rintro w2 ⟨⟨_, hf2⟩, rfl⟩
            obtain ⟨A1, c1, wA, hrunA, fA, v2, wB, hrunB, A3, c3, wC, hrunC, hR⟩ := put_word (x := x) (HRO.out.more (HX.out.trans hf2)) hP (by omega) hoc (fun e => (HNil.out e))
            have HFin : Hid (RowIn 9 w1 wC (.slice A3 (O.length + 1) c3) (setW (L.take (k + 1))).length ((setW (L.take (k + 1))).map sv)) := by
              unfold Hid
              have e1 : (O.take j ++ x :: O.drop j).length = O.length + 1 := by simp; omega
              rw [HS.out, HNew.out HNE.out, e1]
              exact hR
            have cA : wA.cell? (al.add k) = some (.string (ofB x)) := ((HX.out.trans hf2).trans fA |>.cell (p := al.add k) ll1 id).trans cl
            have hp0 : (0 : Int) ≤ (j : Int) := Int.natCast_nonneg _
            have hp1 : (j : Int) ≤ (O.length : Int) := by omega
            have hp2 : (j : Int) ≤ (oc : Int) := by omega
            clear hR fA
            clear hjd hjd2 hjE
            by_cases hcj : oc = j
            · subst hcj
              have e0 : O.length - oc = 0 := by omega
              rw [e0] at hrunA hrunC
              clear e0
              simp only [if_true, Nat.sub_self] at hrunA
              clear cl cx gx
              go_wp2_with (at_builtin; refine wpList_append_run hrunA rfl _ _ rfl rfl rfl ?_)
              go_region_law (first | (refine step_append_run hrunB (by rfl) _ _ (by rfl) (by rfl) (by rfl) ?_) | (refine step_append_run hrunC (by rfl) _ _ (by rfl) (by rfl) (by rfl) ?_))
              all_goals
                go_wp2
                go_roundw
                case rel => exact ⟨k + 1, by omega, by go_num, HFin.out⟩
                case measure => simp [intOf]; omega
            · obtain ⟨ad, rfl⟩ : ∃ ad, oA = some ad := by
                rcases oA with _ | ad
                · have := HNil.out rfl
                  omega
                · exact ⟨ad, rfl⟩
              simp only [if_neg hcj, Option.map_some, Nat.mul_one] at hrunA
              clear cl cx gx
              go_wp2_with (at_builtin; refine wpList_append_run hrunA rfl _ _ rfl rfl rfl ?_)
              go_region_law (first | (refine step_append_run hrunB (by rfl) _ _ (by rfl) (by rfl) (by rfl) ?_) | (refine step_append_run hrunC (by rfl) _ _ (by rfl) (by rfl) (by rfl) ?_))
              all_goals
                go_wp2
                go_roundw
                case rel => exact ⟨k + 1, by omega, by go_num, HFin.out⟩
                case measure => simp [intOf]; omega
    · obtain rfl : k = L.length := by omega
      have he : L.take L.length = L := List.take_of_length_le (Nat.le_refl _)
      rw [he] at hrowO
      have HRO := Lib.hid hrowO
      obtain ⟨oA, oc, rfl, -, -, -, -⟩ := hrowO.shape
      clear hrowO
      have HF := Lib.hid HL.out.frm
      have HOut : Hid (RowIn 9 w wr (.slice oA (setW L).length oc) (setW L).length ((setW L).map sv)) := HRO.out.since HF.out
      obtain ⟨N, hN⟩ : ∃ N, (setW L).length = N := ⟨_, rfl⟩
      rw [hN] at HOut ⊢
      have HN := Lib.hid hN
      clear hN HRO he
      go_wp2
      go_ret
      refine ⟨oA, oc, ?_, ?_⟩
      · rw [List.length_map, HN.out]; rfl
      · rw [List.length_map, HN.out, sv_map]
        exact HOut.out
end Go.Proofs.Ytnnfgbnnodcepaa
