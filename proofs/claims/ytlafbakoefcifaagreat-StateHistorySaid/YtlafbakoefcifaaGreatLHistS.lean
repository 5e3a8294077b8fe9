/-
  StateHistory: for every input the law returns true (each state that may be is the fold of its history, of which each event fits), and its arguments read as they did. No condition.
-/
import Derived.Test.YtlafbakoefcifaaGreatRows
import Derived.Test.YtlafbakoefcifaaGreatGa59
import Derived.Test.YtlafbakoefcifaaGreatGa68
import Derived.OpenShut
import Derived.ShutString
import Derived.ChangeOld
set_option linter.unusedVariables false
set_option linter.unusedSimpArgs false
set_option maxRecDepth 100000
set_option maxHeartbeats 16000000
namespace Go.Proofs.YtlafbakoefcifaaGreat
open Go.ChangeShapes Go.WideShapes Go.ChangeAt Go.RowKit
namespace stateHistory
theorem walk(fo fe it se:Sl)(ts:List (Sl×Itm))(x:St)(W:World)(h:StIs W fo fe it se ts x):
  Calls Tryz.prog 4 #[stV fo fe it se x] W fun r w'=>r=.returned (.bool true)∧Frm Nix W w':=
 hist_walk h.st h.nums
theorem own:ownKnob Tryz.prog.godebug=none:=by kernel_rfl
theorem laidOut:laidOutB Tryz.prog=true:=by kernel_rfl
theorem lifted(os:Os)(started:os.Started)(H:Type)(enc:TypeId×Value→H):
  ReturnsInHanded {} Tryz.checked os 4 .any (Rows.stateHistorySpec.pre6 enc Tryz.prog Tryz.f4 Rows.stateHistoryRow.domain false) (Rows.stateHistorySpec.post enc Tryz.prog Tryz.f4 false true false false):=by
 refine returnsInHanded_of_change (C:=Tryz.checked) own started (by kernel_rfl) Tryz.func4
  (ChangeSpec.witness6 (enc:=enc) (C:=Tryz.checked) false ⟨#[],#[.agg #[.int .i64 0,.slice none 0 0,.slice none 0 0,.slice none 0 0,.slice none 0 0,.int .i64 0,.int .i64 0,.int .i64 0,.int .i64 0]],[]⟩ 8 (by kernel_rfl) (by kernel_rfl) (by kernel_rfl) (by kernel_rfl)) ?_
 intro W base args ds gs before hval0 hW hcnd _;have hval:∀ (j:Nat) t v,Tryz.f4.params[j]? =some t→args[j]? =some v→Value.okWide Tryz.prog W .any base t v:=hval0;have hW':=hW;obtain⟨p,q,hA0,hV,rfl,hfz,hnd⟩:=hW;have hA:DataW.TrodAll enc Tryz.prog W 0 (fun _=>true) true Tryz.f4.params.toList args.toList ds p:=hA0;rw[Tryz.params4] at hA hval;obtain⟨v0,vs0,d0,ds0,p0,q0,hargs,rfl,rfl,h0,r0⟩:=trodAll_cons hA;obtain⟨rfl,rfl,rfl⟩:=trodAll_nil r0;obtain rfl:args=#[v0]:=by cases args;simp_all
 obtain⟨rfl,rfl⟩:=trodVars_none hV;have k0:=h0;have lt0:∀ x ∈ p0,x.block<W.heap.size:=by obtain⟨m,hm⟩:=k0;exact DataW.trod_lt m _ _ _ hm
 obtain⟨fo0,fe0,it0,se0,ts0,x0,rfl,wx0⟩:∃ fo fe it se ts s,v0=stV fo fe it se s∧StIs W fo fe it se ts s:=by
  obtain⟨cs,rfl,-⟩:=okWide_struct Tryz.underlying30 (hval 0 30 v0 rfl rfl);obtain⟨fuel,hf⟩:=h0;obtain⟨fo,fe,it,se,ts,s,ho,hk⟩:=vSt hf;exact⟨fo,fe,it,se,ts,s,by rw[← ho];rfl,hk⟩
 clear hA0 hval0;refine(walk fo0 fe0 it0 se0 ts0 x0 W wx0).mono fun e W' ⟨he,hfr⟩=>?_
 have bel:Below W.heap.size W W':=hfr.below (fun _ h=>absurd h id) (Nat.le_refl _);subst he;exact⟨_,rfl,_,_,_,[],_,[],hW',trodAll_mk1 (shut_bool Tryz.underlying4 _),(trodAll_cons_mk (Below.trod laidOut (by kernel_rfl) (of_decide_eq_true (by kernel_rfl)) k0 bel lt0) trodAll_mk0),rfl,bel.frame _,fun h=>by cases h⟩
theorem proved:Rows.StateHistorySaid:=
 OpenClaim.holds_of_wide 4 Tryz.f4 rfl rfl rfl rfl rfl rfl rfl ⟨rfl,rfl,rfl,rfl,rfl⟩ rfl rfl rfl rfl rfl (by kernel_rfl) Tryz.func4 closed
  (of_decide_eq_true (by kernel_rfl)) (by unfold Func.isWrapper;first | (rw[if_pos (by decide+kernel)];kernel_rfl) | (rw[if_neg (by decide+kernel)];exact⟨rfl,rfl⟩))
  (fun os started H enc _=>lifted os started H enc)
#print axioms proved
end stateHistory
end Go.Proofs.YtlafbakoefcifaaGreat
