/-
  CmdDoes: for every input the law returns true (any commands, one behind the other), and its arguments read as they did. No condition.
-/
import Derived.Test.YtaecjmiobllhmaaGreatGq101
import Derived.Test.YtaecjmiobllhmaaGreatGq99
import Derived.OpenShut
import Derived.ShutString
import Derived.ChangeOld
set_option linter.unusedVariables false
set_option linter.unusedSimpArgs false
set_option maxRecDepth 100000
set_option maxHeartbeats 16000000
namespace Go.Proofs.YtaecjmiobllhmaaGreat
open Go.ChangeShapes Go.WideShapes Go.ChangeAt Go.RowKit
namespace cmdDoes
theorem JW{W:World}{A:Option Addr}{n c:Nat}{l:List Ev}(h:l.length=n∧Rd W (sZ W) 7 A n (l.flatMap Ev.cells)∧(∀o∈l,xF o)∧wG A n c∧n≤c∧c≤maxLen):nd W (sZ W) (A,c) l:=by
 obtain⟨rfl,h1,h2,h3,h4,h5⟩:=h;exact⟨⟨h1,λe=>(h3 e).2,h4,h5⟩,λe he=>⟨(h2 e he).a,(h2 e he).b⟩⟩
theorem OL(A:Option Addr)(n c:Nat)(l:List Ev)(A2:Option Addr)(n2 c2:Nat)(l2:List Cm)(W:World)(h:l.length=n∧Rd W (sZ W) 7 A n (l.flatMap Ev.cells)∧(∀o∈l,xF o)∧wG A n c∧n≤c∧c≤maxLen)(hc:l2.length=n2∧aN W (sZ W) 6 (A2,c2) n2 (l2.flatMap Cm.cells)∧∀o∈l2,yz o):
  Calls Tryz.prog 6 #[.slice A n c,.slice A2 n2 c2] W λr w'=>r=.returned (.bool true)∧aa ac W w':=by
 have e1:=JW h;obtain⟨rfl,-⟩:=h;obtain⟨rfl,h2,h3⟩:=hc;have q:=Hg (v:=(A,c)) (vm:=(A2,c2)) e1 h2 λc hc=>⟨(h3 c hc).a,(h3 c hc).b,(h3 c hc).n⟩
 exact q
theorem own:ownKnob Tryz.prog.godebug=none:=by kernel_rfl
theorem tI:laidOutB Tryz.prog=true:=by kernel_rfl
theorem EI(os:Os)(started:os.Started)(H:Type)(enc:TypeId×Value→H):
  ReturnsInHanded {} Tryz.checked os 6 .any (Rows.cmdDoesSpec.pre6 enc Tryz.prog Tryz.f6 Rows.cmdDoesRow.domain false) (Rows.cmdDoesSpec.post enc Tryz.prog Tryz.f6 false true false false):=by
 refine returnsInHanded_of_change (C:=Tryz.checked) own started (by kernel_rfl) Tryz.func6
  (ChangeSpec.witness6 (enc:=enc) (C:=Tryz.checked) false ⟨#[],#[.slice none 0 0,.slice none 0 0],[]⟩ 8 (by kernel_rfl) (by kernel_rfl) (by kernel_rfl) (by kernel_rfl)) ?_
 intro W base args ds gs before Cu hW hcnd _;have hval:∀(j:Nat) t v,Tryz.f6.params[j]? =some t→args[j]? =some v→Value.okWide Tryz.prog W .any base t v:=Cu;have Ql:=hW;obtain⟨p,q,Q6,hV,rfl,hfz,Rk⟩:=hW;have hA:DataW.TrodAll enc Tryz.prog W 0 (λ_=>true) true Tryz.f6.params.toList args.toList ds p:=Q6;rw[Tryz.params6] at hA hval;obtain⟨v0,YG,d0,YH,p0,q0,Q7,rfl,rfl,h0,r0⟩:=trodAll_cons hA;obtain⟨v1,YI,d1,YJ,p1,q1,rfl,rfl,rfl,h1,r1⟩:=trodAll_cons r0;obtain⟨rfl,rfl,rfl⟩:=trodAll_nil r1;obtain rfl:args=#[v0,v1]:=by cases args;simp_all
 obtain⟨rfl,rfl⟩:=trodVars_none hV;have k0:=h0;have UC:∀x∈p0,x.block<W.heap.size:=by obtain⟨m,hm⟩:=k0;exact DataW.trod_lt m _ _ _ hm
 obtain⟨a0,n0,c0,l0,rfl,UD⟩:∃a n c,∃l:List Ev,v0=.slice a n c∧l.length=n∧Rd W (sZ W) 7 a n (l.flatMap Ev.cells)∧(∀o∈l,xF o)∧wG a n c∧n≤c∧c≤maxLen:=by
  obtain⟨a,n,c,rfl⟩:=okWide_slice Tryz.underlying30 (hval 0 30 v0 rfl rfl);obtain⟨fuel,hf⟩:=h0;obtain⟨A,n',c',l,e,hk⟩:=PZ hf;simp[Value.cells] at e;obtain⟨rfl,rfl,rfl⟩:=e;exact⟨_,_,_,l,rfl,hk⟩
 have k1:=h1;have UE:∀x∈p1,x.block<W.heap.size:=by obtain⟨m,hm⟩:=k1;exact DataW.trod_lt m _ _ _ hm
 obtain⟨a1,n1,c1,l1,rfl,wx1⟩:∃a n c,∃l:List Cm,v1=.slice a n c∧l.length=n∧aN W (sZ W) 6 (a,c) n (l.flatMap Cm.cells)∧∀o∈l,yz o:=by
  obtain⟨a,n,c,rfl⟩:=okWide_slice Tryz.underlying51 (hval 1 51 v1 rfl rfl);obtain⟨fuel,hf⟩:=h1;obtain⟨A,n',c',l,e,hk⟩:=UB hf;simp[Value.cells] at e;obtain⟨rfl,rfl,rfl⟩:=e;exact⟨_,_,_,l,rfl,hk⟩
 clear Q6 Cu;refine(OL a0 n0 c0 l0 a1 n1 c1 l1 W UD wx1).mono λe W' ⟨he,hfr⟩=>?_
 have bel:Below W.heap.size W W':=hfr.below (λ_ h=>absurd h id) (Nat.le_refl _);subst he;exact⟨_,rfl,_,_,_,[],_,[],Ql,trodAll_mk1 (shut_bool Tryz.underlying4 _),(trodAll_cons_mk (Below.trod tI (by kernel_rfl) (of_decide_eq_true (by kernel_rfl)) k0 bel UC) (trodAll_cons_mk (Below.trod tI (by kernel_rfl) (of_decide_eq_true (by kernel_rfl)) k1 bel UE) trodAll_mk0)),rfl,bel.frame _,λh=>by cases h⟩
theorem proved:Rows.CmdDoesSaid:=
 OpenClaim.holds_of_wide 6 Tryz.f6 rfl rfl rfl rfl rfl rfl rfl ⟨rfl,rfl,rfl,rfl,rfl⟩ rfl rfl rfl rfl rfl (by kernel_rfl) Tryz.func6 Dd
  (of_decide_eq_true (by kernel_rfl)) (by unfold Func.isWrapper;first|(rw[if_pos (by decide+kernel)];kernel_rfl)|(rw[if_neg (by decide+kernel)];exact⟨rfl,rfl⟩))
  (λos started H enc _=>EI os started H enc)
#print axioms proved
end cmdDoes
end Go.Proofs.YtaecjmiobllhmaaGreat
