/-
  StateClones: for every input the law returns true (a clone does the same as what it was made of, and neither changes the other), and its arguments read as they did. No condition.
-/
import Derived.Test.YtlafbakoefcifaaGreatRows
import Derived.Test.YtlafbakoefcifaaGreatGa64
import Derived.Test.YtlafbakoefcifaaGreatGa63
import Derived.Test.YtlafbakoefcifaaGreatGa59
import Derived.OpenShut
import Derived.ShutString
import Derived.ChangeOld
set_option linter.unusedVariables false
set_option linter.unusedSimpArgs false
set_option maxRecDepth 100000
set_option maxHeartbeats 16000000
namespace Go.Proofs.YtlafbakoefcifaaGreat
open Go.ChangeShapes Go.WideShapes Go.ChangeAt Go.RowKit
namespace stateClones
theorem evsIn {W:World} {A:Option Addr} {n c:Nat} {l:List Ev} (h:l.length=n∧Rd W (OldB W) 7 A n (l.flatMap Ev.cells)∧(∀ o ∈ l,EvIs o)∧NilOk A n c∧n≤c∧c≤maxLen):EvsIn W (OldB W) (A,c) l:=by
 obtain⟨rfl,h1,h2,h3,h4,h5⟩:=h
 exact⟨⟨h1,fun e=>(h3 e).2,h4,h5⟩,fun e he=>⟨(h2 e he).a,(h2 e he).b⟩⟩
theorem walk (A:Option Addr) (n c:Nat) (l:List Ev) (B:Option Addr) (m d:Nat) (l':List Ev) (C:Option Addr) (n3 c3:Nat) (l3:List Ev) (W:World) (h:l.length=n∧Rd W (OldB W) 7 A n (l.flatMap Ev.cells)∧(∀ o ∈ l,EvIs o)∧NilOk A n c∧n≤c∧c≤maxLen) (h':l'.length=m∧Rd W (OldB W) 7 B m (l'.flatMap Ev.cells)∧(∀ o ∈ l',EvIs o)∧NilOk B m d∧m≤d∧d≤maxLen) (h3:l3.length=n3∧Rd W (OldB W) 7 C n3 (l3.flatMap Ev.cells)∧(∀ o ∈ l3,EvIs o)∧NilOk C n3 c3∧n3≤c3∧c3≤maxLen):
  Calls Tryz.prog 5 #[.slice A n c,.slice B m d,.slice C n3 c3] W fun r w'=>r=.returned (.bool true)∧Frm Nix W w':=by
 have e1:=evsIn h
 have e2:=evsIn h'
 have e3:=evsIn h3
 obtain⟨rfl,-⟩:=h
 obtain⟨rfl,-⟩:=h'
 obtain⟨rfl,-⟩:=h3
 exact clones_walk (v1:=(A,c)) (v2:=(B,d)) (v3:=(C,c3)) e1 e2 e3 (fun k hk=>hk) (fun k hk=>hk)
theorem own:ownKnob Tryz.prog.godebug=none:=by kernel_rfl
theorem laidOut:laidOutB Tryz.prog=true:=by kernel_rfl
theorem lifted (os:Os) (started:os.Started) (H:Type) (enc:TypeId×Value→H):
  ReturnsInHanded {} Tryz.checked os 5 .any (Rows.stateClonesSpec.pre6 enc Tryz.prog Tryz.f5 Rows.stateClonesRow.domain false) (Rows.stateClonesSpec.post enc Tryz.prog Tryz.f5 false true false false):=by
 refine returnsInHanded_of_change (C:=Tryz.checked) own started (by kernel_rfl) Tryz.func5
  (ChangeSpec.witness6 (enc:=enc) (C:=Tryz.checked) false ⟨#[],#[.slice none 0 0,.slice none 0 0,.slice none 0 0],[]⟩ 8 (by kernel_rfl) (by kernel_rfl) (by kernel_rfl) (by kernel_rfl)) ?_
 intro W base args ds gs before hval0 hW hcnd _
 have hval:∀ (j:Nat) t v,Tryz.f5.params[j]? =some t→args[j]? =some v→Value.okWide Tryz.prog W .any base t v:=hval0
 have hW':=hW
 obtain⟨p,q,hA0,hV,rfl,hfz,hnd⟩:=hW
 have hA:DataW.TrodAll enc Tryz.prog W 0 (fun _=>true) true Tryz.f5.params.toList args.toList ds p:=hA0
 rw[Tryz.params5] at hA hval
 obtain⟨v0,vs0,d0,ds0,p0,q0,hargs,rfl,rfl,h0,r0⟩:=trodAll_cons hA
 obtain⟨v1,vs1,d1,ds1,p1,q1,rfl,rfl,rfl,h1,r1⟩:=trodAll_cons r0
 obtain⟨v2,vs2,d2,ds2,p2,q2,rfl,rfl,rfl,h2,r2⟩:=trodAll_cons r1
 obtain⟨rfl,rfl,rfl⟩:=trodAll_nil r2
 obtain rfl:args=#[v0,v1,v2]:=by cases args;simp_all
 obtain⟨rfl,rfl⟩:=trodVars_none hV
 have k0:=h0
 have lt0:∀ x ∈ p0,x.block<W.heap.size:=by obtain⟨m,hm⟩:=k0;exact DataW.trod_lt m _ _ _ hm
 obtain⟨a0,n0,c0,l0,rfl,wx0⟩:∃ a n c,∃ l:List Ev,v0=.slice a n c∧l.length=n∧Rd W (OldB W) 7 a n (l.flatMap Ev.cells)∧(∀ o ∈ l,EvIs o)∧NilOk a n c∧n≤c∧c≤maxLen:=by
  obtain⟨a,n,c,rfl⟩:=okWide_slice Tryz.underlying22 (hval 0 22 v0 rfl rfl)
  obtain⟨fuel,hf⟩:=h0
  obtain⟨A,n',c',l,e,hk⟩:=vEvs hf
  simp[Value.cells] at e
  obtain⟨rfl,rfl,rfl⟩:=e
  exact⟨_,_,_,l,rfl,hk⟩
 have k1:=h1
 have lt1:∀ x ∈ p1,x.block<W.heap.size:=by obtain⟨m,hm⟩:=k1;exact DataW.trod_lt m _ _ _ hm
 obtain⟨a1,n1,c1,l1,rfl,wx1⟩:∃ a n c,∃ l:List Ev,v1=.slice a n c∧l.length=n∧Rd W (OldB W) 7 a n (l.flatMap Ev.cells)∧(∀ o ∈ l,EvIs o)∧NilOk a n c∧n≤c∧c≤maxLen:=by
  obtain⟨a,n,c,rfl⟩:=okWide_slice Tryz.underlying22 (hval 1 22 v1 rfl rfl)
  obtain⟨fuel,hf⟩:=h1
  obtain⟨A,n',c',l,e,hk⟩:=vEvs hf
  simp[Value.cells] at e
  obtain⟨rfl,rfl,rfl⟩:=e
  exact⟨_,_,_,l,rfl,hk⟩
 have k2:=h2
 have lt2:∀ x ∈ p2,x.block<W.heap.size:=by obtain⟨m,hm⟩:=k2;exact DataW.trod_lt m _ _ _ hm
 obtain⟨a2,n2,c2,l2,rfl,wx2⟩:∃ a n c,∃ l:List Ev,v2=.slice a n c∧l.length=n∧Rd W (OldB W) 7 a n (l.flatMap Ev.cells)∧(∀ o ∈ l,EvIs o)∧NilOk a n c∧n≤c∧c≤maxLen:=by
  obtain⟨a,n,c,rfl⟩:=okWide_slice Tryz.underlying22 (hval 2 22 v2 rfl rfl)
  obtain⟨fuel,hf⟩:=h2
  obtain⟨A,n',c',l,e,hk⟩:=vEvs hf
  simp[Value.cells] at e
  obtain⟨rfl,rfl,rfl⟩:=e
  exact⟨_,_,_,l,rfl,hk⟩
 clear hA0 hval0
 refine(walk a0 n0 c0 l0 a1 n1 c1 l1 a2 n2 c2 l2 W wx0 wx1 wx2).mono fun e W' ⟨he,hfr⟩=>?_
 have bel:Below W.heap.size W W':=hfr.below (fun _ h=>absurd h id) (Nat.le_refl _)
 subst he
 exact⟨_,rfl,_,_,_,[],_,[],hW',trodAll_mk1 (shut_bool Tryz.underlying4 _),(trodAll_cons_mk (Below.trod laidOut (by kernel_rfl) (of_decide_eq_true (by kernel_rfl)) k0 bel lt0) (trodAll_cons_mk (Below.trod laidOut (by kernel_rfl) (of_decide_eq_true (by kernel_rfl)) k1 bel lt1) (trodAll_cons_mk (Below.trod laidOut (by kernel_rfl) (of_decide_eq_true (by kernel_rfl)) k2 bel lt2) trodAll_mk0))),rfl,bel.frame _,fun h=>by cases h⟩
theorem proved:Rows.StateClonesSaid:=
 OpenClaim.holds_of_wide 5 Tryz.f5 rfl rfl rfl rfl rfl rfl rfl ⟨rfl,rfl,rfl,rfl,rfl⟩ rfl rfl rfl rfl rfl (by kernel_rfl) Tryz.func5 closed
  (of_decide_eq_true (by kernel_rfl)) (by unfold Func.isWrapper;first | (rw[if_pos (by decide+kernel)];kernel_rfl) | (rw[if_neg (by decide+kernel)];exact⟨rfl,rfl⟩))
  (fun os started H enc _=>lifted os started H enc)
#print axioms proved
end stateClones
end Go.Proofs.YtlafbakoefcifaaGreat
