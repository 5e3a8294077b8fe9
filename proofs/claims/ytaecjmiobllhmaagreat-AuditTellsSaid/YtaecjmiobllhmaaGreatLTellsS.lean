/-
  AuditTells: for every input the law returns true (what was synced can not be gone; what was never put can not be there), and its arguments read as they did. No condition.
-/
import Derived.Test.YtaecjmiobllhmaaGreatRows
import Derived.Test.YtaecjmiobllhmaaGreatGp88
import Derived.Test.YtaecjmiobllhmaaGreatGp87
import Derived.Test.YtaecjmiobllhmaaGreatGp30
import Derived.OpenShut
import Derived.ShutString
import Derived.ChangeOld
set_option linter.unusedVariables false
set_option linter.unusedSimpArgs false
set_option maxRecDepth 100000
set_option maxHeartbeats 16000000
namespace Go.Proofs.YtaecjmiobllhmaaGreat
open Go.ChangeShapes Go.WideShapes Go.ChangeAt Go.RowKit
namespace auditTells
theorem evsIn{W:World}{A:Option Addr}{n c:Nat}{l:List Ev}(h:l.length=n∧Rd W (OldB W) 7 A n (l.flatMap Ev.cells)∧(∀o∈l,EvIs o)∧NilOk A n c∧n≤c∧c≤maxLen):EvsIn W (OldB W) (A,c) l:=by
 obtain⟨rfl,h1,h2,h3,h4,h5⟩:=h;exact⟨⟨h1,λe=>(h3 e).2,h4,h5⟩,λe he=>⟨(h2 e he).a,(h2 e he).b⟩⟩
theorem walk(A:Option Addr)(n c:Nat)(l:List Ev)(y last:Int)(fo fe it se:Sl)(ts:List (Sl×Itm))(x:St)(W:World)(h:l.length=n∧Rd W (OldB W) 7 A n (l.flatMap Ev.cells)∧(∀o∈l,EvIs o)∧NilOk A n c∧n≤c∧c≤maxLen)(_hy: -9223372036854775808≤y∧y≤9223372036854775807)(_hl: -9223372036854775808≤last∧last≤9223372036854775807)(hx:StIs W fo fe it se ts x):
  Calls Tryz.prog 4 #[.slice A n c,.int .i64 y,.int .i64 last,stV fo fe it se x] W λr w'=>r=.returned (.bool true)∧Frm Nix W w':=by
 have e1:=evsIn h;obtain⟨rfl,-⟩:=h;have q:=tells_walk (v:=(A,c)) e1 hx.st y last;exact q
theorem own:ownKnob Tryz.prog.godebug=none:=by kernel_rfl
theorem laidOut:laidOutB Tryz.prog=true:=by kernel_rfl
theorem lifted(os:Os)(started:os.Started)(H:Type)(enc:TypeId×Value→H):
  ReturnsInHanded {} Tryz.checked os 4 .any (Rows.auditTellsSpec.pre6 enc Tryz.prog Tryz.f4 Rows.auditTellsRow.domain false) (Rows.auditTellsSpec.post enc Tryz.prog Tryz.f4 false true false false):=by
 refine returnsInHanded_of_change (C:=Tryz.checked) own started (by kernel_rfl) Tryz.func4
  (ChangeSpec.witness6 (enc:=enc) (C:=Tryz.checked) false ⟨#[],#[.slice none 0 0,.int .i64 0,.int .i64 0,.agg #[.int .i64 0,.slice none 0 0,.slice none 0 0,.slice none 0 0,.slice none 0 0,.int .i64 0,.int .i64 0,.int .i64 0,.int .i64 0]],[]⟩ 8 (by kernel_rfl) (by kernel_rfl) (by kernel_rfl) (by kernel_rfl)) ?_
 intro W base args ds gs before hval0 hW hcnd _;have hval:∀(j:Nat) t v,Tryz.f4.params[j]? =some t→args[j]? =some v→Value.okWide Tryz.prog W .any base t v:=hval0;have hW':=hW;obtain⟨p,q,hA0,hV,rfl,hfz,hnd⟩:=hW;have hA:DataW.TrodAll enc Tryz.prog W 0 (λ_=>true) true Tryz.f4.params.toList args.toList ds p:=hA0;rw[Tryz.params4] at hA hval;obtain⟨v0,vs0,d0,ds0,p0,q0,hargs,rfl,rfl,h0,r0⟩:=trodAll_cons hA;obtain⟨v1,vs1,d1,ds1,p1,q1,rfl,rfl,rfl,h1,r1⟩:=trodAll_cons r0;obtain⟨v2,vs2,d2,ds2,p2,q2,rfl,rfl,rfl,h2,r2⟩:=trodAll_cons r1;obtain⟨v3,vs3,d3,ds3,p3,q3,rfl,rfl,rfl,h3,r3⟩:=trodAll_cons r2;obtain⟨rfl,rfl,rfl⟩:=trodAll_nil r3;obtain rfl:args=#[v0,v1,v2,v3]:=by cases args;simp_all
 obtain⟨rfl,rfl⟩:=trodVars_none hV;have k0:=h0;have lt0:∀x∈p0,x.block<W.heap.size:=by obtain⟨m,hm⟩:=k0;exact DataW.trod_lt m _ _ _ hm
 obtain⟨a0,n0,c0,l0,rfl,wx0⟩:∃a n c,∃l:List Ev,v0=.slice a n c∧l.length=n∧Rd W (OldB W) 7 a n (l.flatMap Ev.cells)∧(∀o∈l,EvIs o)∧NilOk a n c∧n≤c∧c≤maxLen:=by
  obtain⟨a,n,c,rfl⟩:=okWide_slice Tryz.underlying30 (hval 0 30 v0 rfl rfl);obtain⟨fuel,hf⟩:=h0;obtain⟨A,n',c',l,e,hk⟩:=vEvs hf;simp[Value.cells] at e;obtain⟨rfl,rfl,rfl⟩:=e;exact⟨_,_,_,l,rfl,hk⟩
 have k1:=h1;have lt1:∀x∈p1,x.block<W.heap.size:=by obtain⟨m,hm⟩:=k1;exact DataW.trod_lt m _ _ _ hm
 obtain⟨x1,rfl,rfl,rfl,wx1⟩:=open_int Tryz.underlying3 (hval 1 3 v1 rfl rfl) h1;have k2:=h2;have lt2:∀x∈p2,x.block<W.heap.size:=by obtain⟨m,hm⟩:=k2;exact DataW.trod_lt m _ _ _ hm
 obtain⟨x2,rfl,rfl,rfl,wx2⟩:=open_int Tryz.underlying3 (hval 2 3 v2 rfl rfl) h2;have k3:=h3;have lt3:∀x∈p3,x.block<W.heap.size:=by obtain⟨m,hm⟩:=k3;exact DataW.trod_lt m _ _ _ hm
 obtain⟨fo3,fe3,it3,se3,ts3,x3,rfl,wx3⟩:∃fo fe it se ts s,v3=stV fo fe it se s∧StIs W fo fe it se ts s:=by
  obtain⟨cs,rfl,-⟩:=okWide_struct Tryz.underlying36 (hval 3 36 v3 rfl rfl);obtain⟨fuel,hf⟩:=h3;obtain⟨fo,fe,it,se,ts,s,ho,hk⟩:=vSt hf;exact⟨fo,fe,it,se,ts,s,by rw[←ho];rfl,hk⟩
 clear hA0 hval0;refine(walk a0 n0 c0 l0 x1 x2 fo3 fe3 it3 se3 ts3 x3 W wx0 (wf_i64 wx1) (wf_i64 wx2) wx3).mono λe W' ⟨he,hfr⟩=>?_
 have bel:Below W.heap.size W W':=hfr.below (λ_ h=>absurd h id) (Nat.le_refl _);subst he;exact⟨_,rfl,_,_,_,[],_,[],hW',trodAll_mk1 (shut_bool Tryz.underlying4 _),(trodAll_cons_mk (Below.trod laidOut (by kernel_rfl) (of_decide_eq_true (by kernel_rfl)) k0 bel lt0) (trodAll_cons_mk (Below.trod laidOut (by kernel_rfl) (of_decide_eq_true (by kernel_rfl)) k1 bel lt1) (trodAll_cons_mk (Below.trod laidOut (by kernel_rfl) (of_decide_eq_true (by kernel_rfl)) k2 bel lt2) (trodAll_cons_mk (Below.trod laidOut (by kernel_rfl) (of_decide_eq_true (by kernel_rfl)) k3 bel lt3) trodAll_mk0)))),rfl,bel.frame _,λh=>by cases h⟩
theorem proved:Rows.AuditTellsSaid:=
 OpenClaim.holds_of_wide 4 Tryz.f4 rfl rfl rfl rfl rfl rfl rfl ⟨rfl,rfl,rfl,rfl,rfl⟩ rfl rfl rfl rfl rfl (by kernel_rfl) Tryz.func4 closed
  (of_decide_eq_true (by kernel_rfl)) (by unfold Func.isWrapper;first | (rw[if_pos (by decide+kernel)];kernel_rfl) | (rw[if_neg (by decide+kernel)];exact⟨rfl,rfl⟩))
  (λos started H enc _=>lifted os started H enc)
#print axioms proved
end auditTells
end Go.Proofs.YtaecjmiobllhmaaGreat
