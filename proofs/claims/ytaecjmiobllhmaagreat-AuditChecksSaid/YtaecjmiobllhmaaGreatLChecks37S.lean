/-
  AuditChecks: for every input the law returns true (how far any moves can be: the document's answer), and its argument reads as it did. No condition.
-/
import Derived.Test.YtaecjmiobllhmaaGreatGr92
import Derived.Test.YtaecjmiobllhmaaGreatGr91
import Derived.OpenShut
import Derived.ShutString
import Derived.ChangeOld
set_option linter.unusedVariables false
set_option linter.unusedSimpArgs false
set_option maxRecDepth 100000
set_option maxHeartbeats 16000000
namespace Go.Proofs.YtaecjmiobllhmaaGreat
open Go.ChangeShapes Go.WideShapes Go.ChangeAt Go.RowKit
namespace auditChecks
theorem RJ(A:Option Addr)(n c:Nat)(l:List qD)(W:World)(h:l.length=n∧pI W (rL W) (A,c) l):
  Calls Tryz.prog 3 #[.slice A n c] W λr w'=>r=.returned (.bool true)∧aa ag W w':=xE h.1 h.2
theorem own:ownKnob Tryz.prog.godebug=none:=by kernel_rfl
theorem K6:laidOutB Tryz.prog=true:=by kernel_rfl
theorem Nq(os:Os)(started:os.Started)(H:Type)(enc:TypeId×Value→H):
  ReturnsInHanded {} Tryz.checked os 3 .any (Rows.auditChecksSpec.pre6 enc Tryz.prog Tryz.f3 Rows.auditChecksRow.domain false) (Rows.auditChecksSpec.post enc Tryz.prog Tryz.f3 false true false false):=by
 refine returnsInHanded_of_change (C:=Tryz.checked) own started (by kernel_rfl) Tryz.func3
  (ChangeSpec.witness6 (enc:=enc) (C:=Tryz.checked) false ⟨#[],#[.slice none 0 0],[]⟩ 8 (by kernel_rfl) (by kernel_rfl) (by kernel_rfl) (by kernel_rfl)) ?_
 intro W base args ds gs before LF hW hcnd _;have hval:∀(j:Nat) t v,Tryz.f3.params[j]? =some t→args[j]? =some v→Value.okWide Tryz.prog W .any base t v:=LF;have U4:=hW;obtain⟨p,q,SN,hV,rfl,hfz,Qq⟩:=hW;have hA:DataW.TrodAll enc Tryz.prog W 0 (λ_=>true) true Tryz.f3.params.toList args.toList ds p:=SN;rw[Tryz.params3] at hA hval;obtain⟨v0,VF,d0,VG,p0,q0,SQ,rfl,rfl,h0,r0⟩:=trodAll_cons hA;obtain⟨rfl,rfl,rfl⟩:=trodAll_nil r0;obtain rfl:args=#[v0]:=by cases args;simp_all
 obtain⟨rfl,rfl⟩:=trodVars_none hV;have k0:=h0;have U5:∀x∈p0,x.block<W.heap.size:=by obtain⟨m,hm⟩:=k0;exact DataW.trod_lt m _ _ _ hm
 obtain⟨a0,n0,c0,l0,rfl,U6⟩:∃a n c,∃l:List qD,v0=.slice a n c∧l.length=n∧pI W (rL W) (a,c) l:=by
  obtain⟨a,n,c,rfl⟩:=okWide_slice Tryz.underlying22 (hval 0 22 v0 rfl rfl);obtain⟨fuel,hf⟩:=h0;obtain⟨A,n',c',l,e,hk⟩:=RA hf;simp[Value.cells] at e;obtain⟨rfl,rfl,rfl⟩:=e;exact⟨_,_,_,l,rfl,hk⟩
 clear SN LF;refine(RJ a0 n0 c0 l0 W U6).mono λe W' ⟨he,hfr⟩=>?_
 have bel:Below W.heap.size W W':=hfr.below (λ_ h=>absurd h id) (Nat.le_refl _);subst he;exact⟨_,rfl,_,_,_,[],_,[],U4,trodAll_mk1 (shut_bool Tryz.underlying4 _),(trodAll_cons_mk (Below.trod K6 (by kernel_rfl) (of_decide_eq_true (by kernel_rfl)) k0 bel U5) trodAll_mk0),rfl,bel.frame _,λh=>by cases h⟩
theorem proved:Rows.AuditChecksSaid:=
 OpenClaim.holds_of_wide 3 Tryz.f3 rfl rfl rfl rfl rfl rfl rfl ⟨rfl,rfl,rfl,rfl,rfl⟩ rfl rfl rfl rfl rfl (by kernel_rfl) Tryz.func3 Np
  (of_decide_eq_true (by kernel_rfl)) (by unfold Func.isWrapper;first|(rw[if_pos (by decide+kernel)];kernel_rfl)|(rw[if_neg (by decide+kernel)];exact⟨rfl,rfl⟩))
  (λos started H enc _=>Nq os started H enc)
#print axioms proved
end auditChecks
end Go.Proofs.YtaecjmiobllhmaaGreat
