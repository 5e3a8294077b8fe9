/- Words. -/
import Derived.Test.YtaecjmiobllhmaaGreatGr89
set_option linter.unusedVariables false
set_option linter.unusedSimpArgs false
set_option maxRecDepth 100000
set_option maxHeartbeats 16000000
namespace Go.Proofs.YtaecjmiobllhmaaGreat
open Go.Value renaming int→I,string→V,slice→U
open Go.IntKind renaming i64→J
open Tryz renaming prog→pQ
open Go.RowKit Go.Lib
variable {w:World}{G Gm:Nat→Prop}{vw:Sl}{d:WD}{m:Mv}{fo fe it se:Sl}{ts:List (Sl×aR)}{w1:World}{G7:Nat→Prop}{wb:World}{Q:Exit→Act→World→Prop}{wr:World}{An At:Option Addr}{nn cn nt ct j bt ot:Nat}{nl:List qK}{t:qK}{u0 u1 u2 u3 u4 u5 u7 u11 u12 u13 u14 u15 u16 cG cH cI cR cS cT u23 u24 cN u26 dc u28 dm dp dr u32 u33 df dg u36 dt u38 dB dC dO dP dQ u44 u45 dI dJ dK dL dD dE dF dR dS dT dM dG dH dw dx dy dz dA u64 dh di dl cU cX fA fB fF fG fw:Value}{Gt:Nat→Prop}{u10:Value}
theorem F9(hv:aF w G 7 vw d.all.length (d.all.flatMap Ev.cells))(hl:d.last≤d.all.length)(hn:d.all.length≤10000)(hm:jE w Gm fo fe it se ts m)(hk:m.kind=1):
  Calls pQ 28 #[.agg #[I J d.mode,U vw.1 d.all.length vw.2,I J d.last,I J d.sure,I J d.snap],.agg #[I J m.kind,I J m.ev.kind,I J m.ev.a,I J m.ev.b,I J m.ev.n,V m.ev.s,V m.ev.t,V m.ev.u,I J m.err,I J m.last,I J m.snap,I J m.st.clock,U fo.1 m.st.fols.length fo.2,U fe.1 m.st.fees.length fe.2,U it.1 m.st.itms.length it.2,U se.1 m.st.seas.length se.2,I J m.st.tFol,I J m.st.tFee,I J m.st.tItm,I J m.st.tSea]] w (bJ w G (bz m d)):=by
 obtain⟨W0,hW0⟩:∃W0,W0=(w.alloc (.cells #[I J d.mode,U vw.1 d.all.length vw.2,I J d.last,I J d.sure,I J d.snap] 74)).alloc (.cells #[I J m.kind,I J m.ev.kind,I J m.ev.a,I J m.ev.b,I J m.ev.n,V m.ev.s,V m.ev.t,V m.ev.u,I J m.err,I J m.last,I J m.snap,I J m.st.clock,U fo.1 m.st.fols.length fo.2,U fe.1 m.st.fees.length fe.2,U it.1 m.st.itms.length it.2,U se.1 m.st.seas.length se.2,I J m.st.tFol,I J m.st.tFee,I J m.st.tItm,I J m.st.tSea] 44):=⟨_,rfl⟩;have bI:Hid (aa ag w W0):=by unfold Hid;rw[hW0];exact((fR w).alloc _).alloc _
 have HBw:Hid (aj W0 w.heap.size 74 #[I J d.mode,U vw.1 d.all.length vw.2,I J d.last,I J d.sure,I J d.snap]):=by unfold Hid;rw[hW0];exact(aj.new w _ _).alloc _
 have HBm:Hid (aj W0 (w.heap.size+1) 44 #[I J m.kind,I J m.ev.kind,I J m.ev.a,I J m.ev.b,I J m.ev.n,V m.ev.s,V m.ev.t,V m.ev.u,I J m.err,I J m.last,I J m.snap,I J m.st.clock,U fo.1 m.st.fols.length fo.2,U fe.1 m.st.fees.length fe.2,U it.1 m.st.itms.length it.2,U se.1 m.st.seas.length se.2,I J m.st.tFol,I J m.st.tFee,I J m.st.tItm,I J m.st.tSea]):=by
  unfold Hid;rw[hW0];have q:=aj.new (w.alloc (.cells #[I J d.mode,U vw.1 d.all.length vw.2,I J d.last,I J d.sure,I J d.snap] 74)) 44 #[I J m.kind,I J m.ev.kind,I J m.ev.a,I J m.ev.b,I J m.ev.n,V m.ev.s,V m.ev.t,V m.ev.u,I J m.err,I J m.last,I J m.snap,I J m.st.clock,U fo.1 m.st.fols.length fo.2,U fe.1 m.st.fees.length fe.2,U it.1 m.st.itms.length it.2,U se.1 m.st.seas.length se.2,I J m.st.tFol,I J m.st.tFee,I J m.st.tItm,I J m.st.tSea];rw[show (w.alloc (.cells #[I J d.mode,U vw.1 d.all.length vw.2,I J d.last,I J d.sure,I J d.snap] 74)).heap.size=w.heap.size+1 by simp] at q;exact q
 have HW:=h_ hW0;have HV:Hid (∀W,aa ag w W→aF W (λk=>G k∨w.heap.size≤k) 7 vw d.all.length (d.all.flatMap Ev.cells)):=λW hW=>(hv.nix hW).mono λ_=>.inl
 have HV0:Hid (∀W,aa ag w W→aF W G 7 vw d.all.length (d.all.flatMap Ev.cells)):=λW hW=>hv.nix hW
 have I6:Hid (W0.heap.size=w.heap.size+2):=by unfold Hid;rw[hW0];simp
 have HMC:Hid (∀F W,¬F (w.heap.size+1)→aa F W0 W→W.cell? ⟨w.heap.size+1,8,none⟩=some (I J m.err)∧W.cell? ⟨w.heap.size+1,9,none⟩=some (I J m.last)∧W.cell? ⟨w.heap.size+1,10,none⟩=some (I J m.snap)):=λF W hn hW=>by
  have q:=HBm.out.frm hW hn;exact⟨(q.cell 8).trans rfl,(q.cell 9).trans rfl,(q.cell 10).trans rfl⟩
 have hg:pQ.eqGuardType pQ.depth 42=false:=by kernel_rfl
 obtain⟨b0,b1,b2,b3,b4⟩:=bP HBw.out;obtain⟨m1,m2,m3,m4,m5,m6,m7,m8,m9⟩:=mZ HBm.out;have m0:W0.cell? ⟨w.heap.size+1,0,none⟩=some (I J m.kind):=(HBm.out.cell 0).trans rfl;have KO:Hid (∀W,aa ag w W→Calls pQ 66 #[.agg #[I J d.mode,U vw.1 d.all.length vw.2,I J d.last,I J d.sure,I J d.snap],.agg #[I J m.kind,I J m.ev.kind,I J m.ev.a,I J m.ev.b,I J m.ev.n,V m.ev.s,V m.ev.t,V m.ev.u,I J m.err,I J m.last,I J m.snap,I J m.st.clock,U fo.1 m.st.fols.length fo.2,U fe.1 m.st.fees.length fe.2,U it.1 m.st.itms.length it.2,U se.1 m.st.seas.length se.2,I J m.st.tFol,I J m.st.tFee,I J m.st.tItm,I J m.st.tSea]] W (bJ W G (iB d m))):=λW hW=>D5 (hv.nix hW) hl hn (hm.nix hW)
 have HE:Hid (bz m d=iB d m):=by unfold Hid bz;rw[if_pos hk]
 rw[HE.out];have k1:(m.kind==1)=true:=beq_iff_eq.2 hk;obtain⟨nb,pT⟩:∃nb,decide (m.ev=mh)=nb:=⟨_,rfl⟩
 have IQ:∀W,(binOp .eql 42 (.agg #[I J m.ev.kind,I J m.ev.a,I J m.ev.b,I J m.ev.n,V m.ev.s,V m.ev.t,V m.ev.u]) (.agg #[I J 0,I J 0,I J 0,I J 0,V ⟨#[]⟩,V ⟨#[]⟩,V ⟨#[]⟩])).run pQ W=.ok (.bool nb) W:=λW=>by
  have q:=qU m.ev mh W;rw[pT] at q;exact q
 clear HE hk pT hW0 hv hl hn hm;go_enter Tryz.func28,Tryz.ntmps28;show Code.wp pQ (ai 0 (ae Tryz.f28)) _ _ _
 refine aC (k':=1) λK hK=>?_
 conv in aD _=>whnf
 go_wp2;rw[←HW.out];simp only[ai,ae,Tryz.f28];go_wp2_with (first|(refine bj (l:=[I J m.kind,I J m.ev.kind,I J m.ev.a,I J m.ev.b,I J m.ev.n,V m.ev.s,V m.ev.t,V m.ev.u,I J m.err,I J m.last,I J m.snap,I J m.st.clock,U fo.1 m.st.fols.length fo.2,U fe.1 m.st.fees.length fe.2,U it.1 m.st.itms.length it.2,U se.1 m.st.seas.length se.2,I J m.st.tFol,I J m.st.tFee,I J m.st.tItm,I J m.st.tSea]) HBm.out rfl _ rfl rfl rfl ?_)|(go_at_call 66;refine(KO.out _ (bI.out)).mono ?_;rintro e w2 ⟨v,l,rfl,hx⟩;have HX:Hid (bJ w G (iB d m) (.returned (U v.1 (iB d m).length v.2)) w2):=bJ.up (bI.out) ⟨v,l,rfl,hx⟩;clear hx)|fail);go_ret;exact HX.out
theorem Ga(hv:aF w G 7 vw d.all.length (d.all.flatMap Ev.cells))(hl:d.last≤d.all.length)(hn:d.all.length≤10000)(hm:jE w Gm fo fe it se ts m)(hk:m.kind=2):
  Calls pQ 28 #[.agg #[I J d.mode,U vw.1 d.all.length vw.2,I J d.last,I J d.sure,I J d.snap],.agg #[I J m.kind,I J m.ev.kind,I J m.ev.a,I J m.ev.b,I J m.ev.n,V m.ev.s,V m.ev.t,V m.ev.u,I J m.err,I J m.last,I J m.snap,I J m.st.clock,U fo.1 m.st.fols.length fo.2,U fe.1 m.st.fees.length fe.2,U it.1 m.st.itms.length it.2,U se.1 m.st.seas.length se.2,I J m.st.tFol,I J m.st.tFee,I J m.st.tItm,I J m.st.tSea]] w (bJ w G (bz m d)):=by
 obtain⟨W0,hW0⟩:∃W0,W0=(w.alloc (.cells #[I J d.mode,U vw.1 d.all.length vw.2,I J d.last,I J d.sure,I J d.snap] 74)).alloc (.cells #[I J m.kind,I J m.ev.kind,I J m.ev.a,I J m.ev.b,I J m.ev.n,V m.ev.s,V m.ev.t,V m.ev.u,I J m.err,I J m.last,I J m.snap,I J m.st.clock,U fo.1 m.st.fols.length fo.2,U fe.1 m.st.fees.length fe.2,U it.1 m.st.itms.length it.2,U se.1 m.st.seas.length se.2,I J m.st.tFol,I J m.st.tFee,I J m.st.tItm,I J m.st.tSea] 44):=⟨_,rfl⟩;have bI:Hid (aa ag w W0):=by unfold Hid;rw[hW0];exact((fR w).alloc _).alloc _
 have HBw:Hid (aj W0 w.heap.size 74 #[I J d.mode,U vw.1 d.all.length vw.2,I J d.last,I J d.sure,I J d.snap]):=by unfold Hid;rw[hW0];exact(aj.new w _ _).alloc _
 have HBm:Hid (aj W0 (w.heap.size+1) 44 #[I J m.kind,I J m.ev.kind,I J m.ev.a,I J m.ev.b,I J m.ev.n,V m.ev.s,V m.ev.t,V m.ev.u,I J m.err,I J m.last,I J m.snap,I J m.st.clock,U fo.1 m.st.fols.length fo.2,U fe.1 m.st.fees.length fe.2,U it.1 m.st.itms.length it.2,U se.1 m.st.seas.length se.2,I J m.st.tFol,I J m.st.tFee,I J m.st.tItm,I J m.st.tSea]):=by
  unfold Hid;rw[hW0];have q:=aj.new (w.alloc (.cells #[I J d.mode,U vw.1 d.all.length vw.2,I J d.last,I J d.sure,I J d.snap] 74)) 44 #[I J m.kind,I J m.ev.kind,I J m.ev.a,I J m.ev.b,I J m.ev.n,V m.ev.s,V m.ev.t,V m.ev.u,I J m.err,I J m.last,I J m.snap,I J m.st.clock,U fo.1 m.st.fols.length fo.2,U fe.1 m.st.fees.length fe.2,U it.1 m.st.itms.length it.2,U se.1 m.st.seas.length se.2,I J m.st.tFol,I J m.st.tFee,I J m.st.tItm,I J m.st.tSea];rw[show (w.alloc (.cells #[I J d.mode,U vw.1 d.all.length vw.2,I J d.last,I J d.sure,I J d.snap] 74)).heap.size=w.heap.size+1 by simp] at q;exact q
 have HW:=h_ hW0;have HV:Hid (∀W,aa ag w W→aF W (λk=>G k∨w.heap.size≤k) 7 vw d.all.length (d.all.flatMap Ev.cells)):=λW hW=>(hv.nix hW).mono λ_=>.inl
 have HV0:Hid (∀W,aa ag w W→aF W G 7 vw d.all.length (d.all.flatMap Ev.cells)):=λW hW=>hv.nix hW
 have I6:Hid (W0.heap.size=w.heap.size+2):=by unfold Hid;rw[hW0];simp
 have HMC:Hid (∀F W,¬F (w.heap.size+1)→aa F W0 W→W.cell? ⟨w.heap.size+1,8,none⟩=some (I J m.err)∧W.cell? ⟨w.heap.size+1,9,none⟩=some (I J m.last)∧W.cell? ⟨w.heap.size+1,10,none⟩=some (I J m.snap)):=λF W hn hW=>by
  have q:=HBm.out.frm hW hn;exact⟨(q.cell 8).trans rfl,(q.cell 9).trans rfl,(q.cell 10).trans rfl⟩
 have hg:pQ.eqGuardType pQ.depth 42=false:=by kernel_rfl
 obtain⟨b0,b1,b2,b3,b4⟩:=bP HBw.out;obtain⟨m1,m2,m3,m4,m5,m6,m7,m8,m9⟩:=mZ HBm.out;have m0:W0.cell? ⟨w.heap.size+1,0,none⟩=some (I J m.kind):=(HBm.out.cell 0).trans rfl;have KO:Hid (∀W,aa ag w W→Calls pQ 68 #[.agg #[I J d.mode,U vw.1 d.all.length vw.2,I J d.last,I J d.sure,I J d.snap],.agg #[I J m.kind,I J m.ev.kind,I J m.ev.a,I J m.ev.b,I J m.ev.n,V m.ev.s,V m.ev.t,V m.ev.u,I J m.err,I J m.last,I J m.snap,I J m.st.clock,U fo.1 m.st.fols.length fo.2,U fe.1 m.st.fees.length fe.2,U it.1 m.st.itms.length it.2,U se.1 m.st.seas.length se.2,I J m.st.tFol,I J m.st.tFee,I J m.st.tItm,I J m.st.tSea]] W (bJ W G (jM d m))):=λW hW=>B9 (hv.nix hW) hl hn (hm.nix hW)
 have HMm:=h_ hm;have k1:(m.kind==1)=false:=beq_eq_false_iff_ne.2 (by omega);have k2:(m.kind==2)=true:=beq_iff_eq.2 hk;obtain⟨nb,pT⟩:∃nb,decide (m.ev=mh)=nb:=⟨_,rfl⟩
 have IQ:∀W,(binOp .eql 42 (.agg #[I J m.ev.kind,I J m.ev.a,I J m.ev.b,I J m.ev.n,V m.ev.s,V m.ev.t,V m.ev.u]) (.agg #[I J 0,I J 0,I J 0,I J 0,V ⟨#[]⟩,V ⟨#[]⟩,V ⟨#[]⟩])).run pQ W=.ok (.bool nb) W:=λW=>by
  have q:=qU m.ev mh W;rw[pT] at q;exact q
 clear hW0 hv hl hn hm
 cases nb with
 | false=>
   have uh:¬m.ev=mh:=of_decide_eq_false pT;have HE:Hid (bz m d=[]):=by unfold Hid bz;rw[if_neg (by omega),if_pos hk,if_neg (λe=>uh e.1)]
   rw[HE.out];clear HE hk pT uh KO;go_enter Tryz.func28,Tryz.ntmps28;show Code.wp pQ (ai 0 (ae Tryz.f28)) _ _ _
   refine aC (k':=1) λK hK=>?_
   conv in aD _=>whnf
   go_wp2;rw[←HW.out];simp only[ai,ae,Tryz.f28];go_wp2_with (first|(refine bj (l:=[I J m.kind,I J m.ev.kind,I J m.ev.a,I J m.ev.b,I J m.ev.n,V m.ev.s,V m.ev.t,V m.ev.u,I J m.err,I J m.last,I J m.snap,I J m.st.clock,U fo.1 m.st.fols.length fo.2,U fe.1 m.st.fees.length fe.2,U it.1 m.st.itms.length it.2,U se.1 m.st.seas.length se.2,I J m.st.tFol,I J m.st.tFee,I J m.st.tItm,I J m.st.tSea]) HBm.out rfl _ rfl rfl rfl ?_)|fail);go_ret
   exact gD bI.out
 | true=>
   have uh:m.ev=mh:=of_decide_eq_true pT
   cases cp:aN m with
   | false=>
     have KP:Hid (∀W,aa ag w W→Calls pQ 67 #[.agg #[I J m.kind,I J m.ev.kind,I J m.ev.a,I J m.ev.b,I J m.ev.n,V m.ev.s,V m.ev.t,V m.ev.u,I J m.err,I J m.last,I J m.snap,I J m.st.clock,U fo.1 m.st.fols.length fo.2,U fe.1 m.st.fees.length fe.2,U it.1 m.st.itms.length it.2,U se.1 m.st.seas.length se.2,I J m.st.tFol,I J m.st.tFee,I J m.st.tItm,I J m.st.tSea]] W λe w'=>e=.returned (.bool false)∧aa ag W w'):=λW hW=>by
      have q:=d7 (HMm.out.nix hW);rw[cp] at q;exact q
     have HE:Hid (bz m d=[]):=by unfold Hid bz;rw[if_neg (by omega),if_pos hk,if_neg (λe=>by rw[cp] at e;exact absurd e.2.1 (by simp))]
     rw[HE.out];clear HE hk pT uh KO cp;go_enter Tryz.func28,Tryz.ntmps28;show Code.wp pQ (ai 0 (ae Tryz.f28)) _ _ _
     refine aC (k':=1) λK hK=>?_
     conv in aD _=>whnf
     go_wp2;rw[←HW.out];simp only[ai,ae,Tryz.f28];go_wp2_with (first|(refine bj (l:=[I J m.kind,I J m.ev.kind,I J m.ev.a,I J m.ev.b,I J m.ev.n,V m.ev.s,V m.ev.t,V m.ev.u,I J m.err,I J m.last,I J m.snap,I J m.st.clock,U fo.1 m.st.fols.length fo.2,U fe.1 m.st.fees.length fe.2,U it.1 m.st.itms.length it.2,U se.1 m.st.seas.length se.2,I J m.st.tFol,I J m.st.tFee,I J m.st.tItm,I J m.st.tSea]) HBm.out rfl _ rfl rfl rfl ?_)|(refine bj (l:=[I J m.kind,I J m.ev.kind,I J m.ev.a,I J m.ev.b,I J m.ev.n,V m.ev.s,V m.ev.t,V m.ev.u,I J m.err,I J m.last,I J m.snap,I J m.st.clock,U fo.1 m.st.fols.length fo.2,U fe.1 m.st.fees.length fe.2,U it.1 m.st.itms.length it.2,U se.1 m.st.seas.length se.2,I J m.st.tFol,I J m.st.tFee,I J m.st.tItm,I J m.st.tSea]) HM1.out rfl _ rfl rfl rfl ?_)|(go_at_call 67;refine(KP.out _ bI.out).mono ?_;rintro e w1 ⟨rfl,hf⟩;have Y1:Hid (aa ag W0 w1):=hf;have HM1:=h_ (HBm.out.frm hf id);obtain⟨m1,m2,m3,m4,m5,m6,m7,m8,m9⟩:=mZ HM1.out;obtain⟨b0,b1,b2,b3,b4⟩:=bP (HBw.out.frm hf id);clear hf)|fail);go_ret
     exact gD (bI.out.trans Y1.out)
   | true=>
     have KP:Hid (∀W,aa ag w W→Calls pQ 67 #[.agg #[I J m.kind,I J m.ev.kind,I J m.ev.a,I J m.ev.b,I J m.ev.n,V m.ev.s,V m.ev.t,V m.ev.u,I J m.err,I J m.last,I J m.snap,I J m.st.clock,U fo.1 m.st.fols.length fo.2,U fe.1 m.st.fees.length fe.2,U it.1 m.st.itms.length it.2,U se.1 m.st.seas.length se.2,I J m.st.tFol,I J m.st.tFee,I J m.st.tItm,I J m.st.tSea]] W λe w'=>e=.returned (.bool true)∧aa ag W w'):=λW hW=>by
      have q:=d7 (HMm.out.nix hW);rw[cp] at q;exact q
     by_cases h0:m.last=0
     ·have e0:(m.last==0)=true:=beq_iff_eq.2 h0
      have HE:Hid (bz m d=jM d m):=by unfold Hid bz;rw[if_neg (by omega),if_pos hk,if_pos ⟨uh,cp,h0⟩]
      rw[HE.out];clear HE hk pT uh cp h0;go_enter Tryz.func28,Tryz.ntmps28;show Code.wp pQ (ai 0 (ae Tryz.f28)) _ _ _
      refine aC (k':=1) λK hK=>?_
      conv in aD _=>whnf
      go_wp2;rw[←HW.out];simp only[ai,ae,Tryz.f28];go_wp2_with (first|(refine bj (l:=[I J m.kind,I J m.ev.kind,I J m.ev.a,I J m.ev.b,I J m.ev.n,V m.ev.s,V m.ev.t,V m.ev.u,I J m.err,I J m.last,I J m.snap,I J m.st.clock,U fo.1 m.st.fols.length fo.2,U fe.1 m.st.fees.length fe.2,U it.1 m.st.itms.length it.2,U se.1 m.st.seas.length se.2,I J m.st.tFol,I J m.st.tFee,I J m.st.tItm,I J m.st.tSea]) HBm.out rfl _ rfl rfl rfl ?_)|(refine bj (l:=[I J m.kind,I J m.ev.kind,I J m.ev.a,I J m.ev.b,I J m.ev.n,V m.ev.s,V m.ev.t,V m.ev.u,I J m.err,I J m.last,I J m.snap,I J m.st.clock,U fo.1 m.st.fols.length fo.2,U fe.1 m.st.fees.length fe.2,U it.1 m.st.itms.length it.2,U se.1 m.st.seas.length se.2,I J m.st.tFol,I J m.st.tFee,I J m.st.tItm,I J m.st.tSea]) HM1.out rfl _ rfl rfl rfl ?_)|(go_at_call 67;refine(KP.out _ bI.out).mono ?_;rintro e w1 ⟨rfl,hf⟩;have Y1:Hid (aa ag W0 w1):=hf;have HM1:=h_ (HBm.out.frm hf id);obtain⟨m1,m2,m3,m4,m5,m6,m7,m8,m9⟩:=mZ HM1.out;obtain⟨b0,b1,b2,b3,b4⟩:=bP (HBw.out.frm hf id);clear hf)|(go_at_call 68;refine(KO.out _ (bI.out.trans Y1.out)).mono ?_;rintro e w2 ⟨v,l,rfl,hx⟩;have HX:Hid (bJ w G (jM d m) (.returned (U v.1 (jM d m).length v.2)) w2):=bJ.up (bI.out.trans Y1.out) ⟨v,l,rfl,hx⟩;clear hx)|fail);go_ret;exact HX.out
     ·have e0:(m.last==0)=false:=beq_eq_false_iff_ne.2 h0
      have HE:Hid (bz m d=[]):=by unfold Hid bz;rw[if_neg (by omega),if_pos hk,if_neg (λe=>h0 e.2.2)]
      rw[HE.out];clear HE hk pT uh KO cp h0;go_enter Tryz.func28,Tryz.ntmps28;show Code.wp pQ (ai 0 (ae Tryz.f28)) _ _ _
      refine aC (k':=1) λK hK=>?_
      conv in aD _=>whnf
      go_wp2;rw[←HW.out];simp only[ai,ae,Tryz.f28];go_wp2_with (first|(refine bj (l:=[I J m.kind,I J m.ev.kind,I J m.ev.a,I J m.ev.b,I J m.ev.n,V m.ev.s,V m.ev.t,V m.ev.u,I J m.err,I J m.last,I J m.snap,I J m.st.clock,U fo.1 m.st.fols.length fo.2,U fe.1 m.st.fees.length fe.2,U it.1 m.st.itms.length it.2,U se.1 m.st.seas.length se.2,I J m.st.tFol,I J m.st.tFee,I J m.st.tItm,I J m.st.tSea]) HBm.out rfl _ rfl rfl rfl ?_)|(refine bj (l:=[I J m.kind,I J m.ev.kind,I J m.ev.a,I J m.ev.b,I J m.ev.n,V m.ev.s,V m.ev.t,V m.ev.u,I J m.err,I J m.last,I J m.snap,I J m.st.clock,U fo.1 m.st.fols.length fo.2,U fe.1 m.st.fees.length fe.2,U it.1 m.st.itms.length it.2,U se.1 m.st.seas.length se.2,I J m.st.tFol,I J m.st.tFee,I J m.st.tItm,I J m.st.tSea]) HM1.out rfl _ rfl rfl rfl ?_)|(go_at_call 67;refine(KP.out _ bI.out).mono ?_;rintro e w1 ⟨rfl,hf⟩;have Y1:Hid (aa ag W0 w1):=hf;have HM1:=h_ (HBm.out.frm hf id);obtain⟨m1,m2,m3,m4,m5,m6,m7,m8,m9⟩:=mZ HM1.out;obtain⟨b0,b1,b2,b3,b4⟩:=bP (HBw.out.frm hf id);clear hf)|fail);go_ret;exact gD (bI.out.trans Y1.out)
theorem Gb(hv:aF w G 7 vw d.all.length (d.all.flatMap Ev.cells))(hl:d.last≤d.all.length)(hn:d.all.length≤10000)(hm:jE w Gm fo fe it se ts m)(hk:m.kind=3):
  Calls pQ 28 #[.agg #[I J d.mode,U vw.1 d.all.length vw.2,I J d.last,I J d.sure,I J d.snap],.agg #[I J m.kind,I J m.ev.kind,I J m.ev.a,I J m.ev.b,I J m.ev.n,V m.ev.s,V m.ev.t,V m.ev.u,I J m.err,I J m.last,I J m.snap,I J m.st.clock,U fo.1 m.st.fols.length fo.2,U fe.1 m.st.fees.length fe.2,U it.1 m.st.itms.length it.2,U se.1 m.st.seas.length se.2,I J m.st.tFol,I J m.st.tFee,I J m.st.tItm,I J m.st.tSea]] w (bJ w G (bz m d)):=by
 obtain⟨W0,hW0⟩:∃W0,W0=(w.alloc (.cells #[I J d.mode,U vw.1 d.all.length vw.2,I J d.last,I J d.sure,I J d.snap] 74)).alloc (.cells #[I J m.kind,I J m.ev.kind,I J m.ev.a,I J m.ev.b,I J m.ev.n,V m.ev.s,V m.ev.t,V m.ev.u,I J m.err,I J m.last,I J m.snap,I J m.st.clock,U fo.1 m.st.fols.length fo.2,U fe.1 m.st.fees.length fe.2,U it.1 m.st.itms.length it.2,U se.1 m.st.seas.length se.2,I J m.st.tFol,I J m.st.tFee,I J m.st.tItm,I J m.st.tSea] 44):=⟨_,rfl⟩;have bI:Hid (aa ag w W0):=by unfold Hid;rw[hW0];exact((fR w).alloc _).alloc _
 have HBw:Hid (aj W0 w.heap.size 74 #[I J d.mode,U vw.1 d.all.length vw.2,I J d.last,I J d.sure,I J d.snap]):=by unfold Hid;rw[hW0];exact(aj.new w _ _).alloc _
 have HBm:Hid (aj W0 (w.heap.size+1) 44 #[I J m.kind,I J m.ev.kind,I J m.ev.a,I J m.ev.b,I J m.ev.n,V m.ev.s,V m.ev.t,V m.ev.u,I J m.err,I J m.last,I J m.snap,I J m.st.clock,U fo.1 m.st.fols.length fo.2,U fe.1 m.st.fees.length fe.2,U it.1 m.st.itms.length it.2,U se.1 m.st.seas.length se.2,I J m.st.tFol,I J m.st.tFee,I J m.st.tItm,I J m.st.tSea]):=by
  unfold Hid;rw[hW0];have q:=aj.new (w.alloc (.cells #[I J d.mode,U vw.1 d.all.length vw.2,I J d.last,I J d.sure,I J d.snap] 74)) 44 #[I J m.kind,I J m.ev.kind,I J m.ev.a,I J m.ev.b,I J m.ev.n,V m.ev.s,V m.ev.t,V m.ev.u,I J m.err,I J m.last,I J m.snap,I J m.st.clock,U fo.1 m.st.fols.length fo.2,U fe.1 m.st.fees.length fe.2,U it.1 m.st.itms.length it.2,U se.1 m.st.seas.length se.2,I J m.st.tFol,I J m.st.tFee,I J m.st.tItm,I J m.st.tSea];rw[show (w.alloc (.cells #[I J d.mode,U vw.1 d.all.length vw.2,I J d.last,I J d.sure,I J d.snap] 74)).heap.size=w.heap.size+1 by simp] at q;exact q
 have HW:=h_ hW0;have HV:Hid (∀W,aa ag w W→aF W (λk=>G k∨w.heap.size≤k) 7 vw d.all.length (d.all.flatMap Ev.cells)):=λW hW=>(hv.nix hW).mono λ_=>.inl
 have HV0:Hid (∀W,aa ag w W→aF W G 7 vw d.all.length (d.all.flatMap Ev.cells)):=λW hW=>hv.nix hW
 have I6:Hid (W0.heap.size=w.heap.size+2):=by unfold Hid;rw[hW0];simp
 have HMC:Hid (∀F W,¬F (w.heap.size+1)→aa F W0 W→W.cell? ⟨w.heap.size+1,8,none⟩=some (I J m.err)∧W.cell? ⟨w.heap.size+1,9,none⟩=some (I J m.last)∧W.cell? ⟨w.heap.size+1,10,none⟩=some (I J m.snap)):=λF W hn hW=>by
  have q:=HBm.out.frm hW hn;exact⟨(q.cell 8).trans rfl,(q.cell 9).trans rfl,(q.cell 10).trans rfl⟩
 have hg:pQ.eqGuardType pQ.depth 42=false:=by kernel_rfl
 obtain⟨b0,b1,b2,b3,b4⟩:=bP HBw.out;obtain⟨m1,m2,m3,m4,m5,m6,m7,m8,m9⟩:=mZ HBm.out;have m0:W0.cell? ⟨w.heap.size+1,0,none⟩=some (I J m.kind):=(HBm.out.cell 0).trans rfl;have KO:Hid (∀W,aa ag w W→Calls pQ 69 #[.agg #[I J d.mode,U vw.1 d.all.length vw.2,I J d.last,I J d.sure,I J d.snap],.agg #[I J m.kind,I J m.ev.kind,I J m.ev.a,I J m.ev.b,I J m.ev.n,V m.ev.s,V m.ev.t,V m.ev.u,I J m.err,I J m.last,I J m.snap,I J m.st.clock,U fo.1 m.st.fols.length fo.2,U fe.1 m.st.fees.length fe.2,U it.1 m.st.itms.length it.2,U se.1 m.st.seas.length se.2,I J m.st.tFol,I J m.st.tFee,I J m.st.tItm,I J m.st.tSea]] W (bJ W G (gJ d m))):=λW hW=>Ca (hv.nix hW) hl hn (hm.nix hW)
 have HMm:=h_ hm;have k1:(m.kind==1)=false:=beq_eq_false_iff_ne.2 (by omega);have k2:(m.kind==2)=false:=beq_eq_false_iff_ne.2 (by omega);have k3:(m.kind==3)=true:=beq_iff_eq.2 hk;obtain⟨nb,pT⟩:∃nb,decide (m.ev=mh)=nb:=⟨_,rfl⟩
 have IQ:∀W,(binOp .eql 42 (.agg #[I J m.ev.kind,I J m.ev.a,I J m.ev.b,I J m.ev.n,V m.ev.s,V m.ev.t,V m.ev.u]) (.agg #[I J 0,I J 0,I J 0,I J 0,V ⟨#[]⟩,V ⟨#[]⟩,V ⟨#[]⟩])).run pQ W=.ok (.bool nb) W:=λW=>by
  have q:=qU m.ev mh W;rw[pT] at q;exact q
 clear hW0 hv hl hn hm
 cases nb with
 | false=>
   have uh:¬m.ev=mh:=of_decide_eq_false pT;have HE:Hid (bz m d=[]):=by unfold Hid bz;rw[if_neg (by omega),if_neg (by omega),if_pos hk,if_neg (λe=>uh e.1)]
   rw[HE.out];clear HE hk pT uh KO;go_enter Tryz.func28,Tryz.ntmps28;show Code.wp pQ (ai 0 (ae Tryz.f28)) _ _ _
   refine aC (k':=1) λK hK=>?_
   conv in aD _=>whnf
   go_wp2;rw[←HW.out];simp only[ai,ae,Tryz.f28];go_wp2_with (first|(refine bj (l:=[I J m.kind,I J m.ev.kind,I J m.ev.a,I J m.ev.b,I J m.ev.n,V m.ev.s,V m.ev.t,V m.ev.u,I J m.err,I J m.last,I J m.snap,I J m.st.clock,U fo.1 m.st.fols.length fo.2,U fe.1 m.st.fees.length fe.2,U it.1 m.st.itms.length it.2,U se.1 m.st.seas.length se.2,I J m.st.tFol,I J m.st.tFee,I J m.st.tItm,I J m.st.tSea]) HBm.out rfl _ rfl rfl rfl ?_)|fail);go_ret
   exact gD bI.out
 | true=>
   have uh:m.ev=mh:=of_decide_eq_true pT
   cases cp:aN m with
   | false=>
     have KP:Hid (∀W,aa ag w W→Calls pQ 67 #[.agg #[I J m.kind,I J m.ev.kind,I J m.ev.a,I J m.ev.b,I J m.ev.n,V m.ev.s,V m.ev.t,V m.ev.u,I J m.err,I J m.last,I J m.snap,I J m.st.clock,U fo.1 m.st.fols.length fo.2,U fe.1 m.st.fees.length fe.2,U it.1 m.st.itms.length it.2,U se.1 m.st.seas.length se.2,I J m.st.tFol,I J m.st.tFee,I J m.st.tItm,I J m.st.tSea]] W λe w'=>e=.returned (.bool false)∧aa ag W w'):=λW hW=>by
      have q:=d7 (HMm.out.nix hW);rw[cp] at q;exact q
     have HE:Hid (bz m d=[]):=by unfold Hid bz;rw[if_neg (by omega),if_neg (by omega),if_pos hk,if_neg (λe=>by rw[cp] at e;exact absurd e.2.1 (by simp))]
     rw[HE.out];clear HE hk pT uh KO cp;go_enter Tryz.func28,Tryz.ntmps28;show Code.wp pQ (ai 0 (ae Tryz.f28)) _ _ _
     refine aC (k':=1) λK hK=>?_
     conv in aD _=>whnf
     go_wp2;rw[←HW.out];simp only[ai,ae,Tryz.f28];go_wp2_with (first|(refine bj (l:=[I J m.kind,I J m.ev.kind,I J m.ev.a,I J m.ev.b,I J m.ev.n,V m.ev.s,V m.ev.t,V m.ev.u,I J m.err,I J m.last,I J m.snap,I J m.st.clock,U fo.1 m.st.fols.length fo.2,U fe.1 m.st.fees.length fe.2,U it.1 m.st.itms.length it.2,U se.1 m.st.seas.length se.2,I J m.st.tFol,I J m.st.tFee,I J m.st.tItm,I J m.st.tSea]) HBm.out rfl _ rfl rfl rfl ?_)|(refine bj (l:=[I J m.kind,I J m.ev.kind,I J m.ev.a,I J m.ev.b,I J m.ev.n,V m.ev.s,V m.ev.t,V m.ev.u,I J m.err,I J m.last,I J m.snap,I J m.st.clock,U fo.1 m.st.fols.length fo.2,U fe.1 m.st.fees.length fe.2,U it.1 m.st.itms.length it.2,U se.1 m.st.seas.length se.2,I J m.st.tFol,I J m.st.tFee,I J m.st.tItm,I J m.st.tSea]) HM1.out rfl _ rfl rfl rfl ?_)|(go_at_call 67;refine(KP.out _ bI.out).mono ?_;rintro e w1 ⟨rfl,hf⟩;have Y1:Hid (aa ag W0 w1):=hf;have HM1:=h_ (HBm.out.frm hf id);obtain⟨m1,m2,m3,m4,m5,m6,m7,m8,m9⟩:=mZ HM1.out;obtain⟨b0,b1,b2,b3,b4⟩:=bP (HBw.out.frm hf id);clear hf)|fail);go_ret
     exact gD (bI.out.trans Y1.out)
   | true=>
     have KP:Hid (∀W,aa ag w W→Calls pQ 67 #[.agg #[I J m.kind,I J m.ev.kind,I J m.ev.a,I J m.ev.b,I J m.ev.n,V m.ev.s,V m.ev.t,V m.ev.u,I J m.err,I J m.last,I J m.snap,I J m.st.clock,U fo.1 m.st.fols.length fo.2,U fe.1 m.st.fees.length fe.2,U it.1 m.st.itms.length it.2,U se.1 m.st.seas.length se.2,I J m.st.tFol,I J m.st.tFee,I J m.st.tItm,I J m.st.tSea]] W λe w'=>e=.returned (.bool true)∧aa ag W w'):=λW hW=>by
      have q:=d7 (HMm.out.nix hW);rw[cp] at q;exact q
     by_cases h0:m.last=0
     ·have e0:(m.last==0)=true:=beq_iff_eq.2 h0
      have HE:Hid (bz m d=gJ d m):=by unfold Hid bz;rw[if_neg (by omega),if_neg (by omega),if_pos hk,if_pos ⟨uh,cp,h0⟩]
      rw[HE.out];clear HE hk pT uh cp h0;go_enter Tryz.func28,Tryz.ntmps28;show Code.wp pQ (ai 0 (ae Tryz.f28)) _ _ _
      refine aC (k':=1) λK hK=>?_
      conv in aD _=>whnf
      go_wp2;rw[←HW.out];simp only[ai,ae,Tryz.f28];go_wp2_with (first|(refine bj (l:=[I J m.kind,I J m.ev.kind,I J m.ev.a,I J m.ev.b,I J m.ev.n,V m.ev.s,V m.ev.t,V m.ev.u,I J m.err,I J m.last,I J m.snap,I J m.st.clock,U fo.1 m.st.fols.length fo.2,U fe.1 m.st.fees.length fe.2,U it.1 m.st.itms.length it.2,U se.1 m.st.seas.length se.2,I J m.st.tFol,I J m.st.tFee,I J m.st.tItm,I J m.st.tSea]) HBm.out rfl _ rfl rfl rfl ?_)|(refine bj (l:=[I J m.kind,I J m.ev.kind,I J m.ev.a,I J m.ev.b,I J m.ev.n,V m.ev.s,V m.ev.t,V m.ev.u,I J m.err,I J m.last,I J m.snap,I J m.st.clock,U fo.1 m.st.fols.length fo.2,U fe.1 m.st.fees.length fe.2,U it.1 m.st.itms.length it.2,U se.1 m.st.seas.length se.2,I J m.st.tFol,I J m.st.tFee,I J m.st.tItm,I J m.st.tSea]) HM1.out rfl _ rfl rfl rfl ?_)|(go_at_call 67;refine(KP.out _ bI.out).mono ?_;rintro e w1 ⟨rfl,hf⟩;have Y1:Hid (aa ag W0 w1):=hf;have HM1:=h_ (HBm.out.frm hf id);obtain⟨m1,m2,m3,m4,m5,m6,m7,m8,m9⟩:=mZ HM1.out;obtain⟨b0,b1,b2,b3,b4⟩:=bP (HBw.out.frm hf id);clear hf)|(go_at_call 69;refine(KO.out _ (bI.out.trans Y1.out)).mono ?_;rintro e w2 ⟨v,l,rfl,hx⟩;have HX:Hid (bJ w G (gJ d m) (.returned (U v.1 (gJ d m).length v.2)) w2):=bJ.up (bI.out.trans Y1.out) ⟨v,l,rfl,hx⟩;clear hx)|fail);go_ret;exact HX.out
     ·have e0:(m.last==0)=false:=beq_eq_false_iff_ne.2 h0
      have HE:Hid (bz m d=[]):=by unfold Hid bz;rw[if_neg (by omega),if_neg (by omega),if_pos hk,if_neg (λe=>h0 e.2.2)]
      rw[HE.out];clear HE hk pT uh KO cp h0;go_enter Tryz.func28,Tryz.ntmps28;show Code.wp pQ (ai 0 (ae Tryz.f28)) _ _ _
      refine aC (k':=1) λK hK=>?_
      conv in aD _=>whnf
      go_wp2;rw[←HW.out];simp only[ai,ae,Tryz.f28];go_wp2_with (first|(refine bj (l:=[I J m.kind,I J m.ev.kind,I J m.ev.a,I J m.ev.b,I J m.ev.n,V m.ev.s,V m.ev.t,V m.ev.u,I J m.err,I J m.last,I J m.snap,I J m.st.clock,U fo.1 m.st.fols.length fo.2,U fe.1 m.st.fees.length fe.2,U it.1 m.st.itms.length it.2,U se.1 m.st.seas.length se.2,I J m.st.tFol,I J m.st.tFee,I J m.st.tItm,I J m.st.tSea]) HBm.out rfl _ rfl rfl rfl ?_)|(refine bj (l:=[I J m.kind,I J m.ev.kind,I J m.ev.a,I J m.ev.b,I J m.ev.n,V m.ev.s,V m.ev.t,V m.ev.u,I J m.err,I J m.last,I J m.snap,I J m.st.clock,U fo.1 m.st.fols.length fo.2,U fe.1 m.st.fees.length fe.2,U it.1 m.st.itms.length it.2,U se.1 m.st.seas.length se.2,I J m.st.tFol,I J m.st.tFee,I J m.st.tItm,I J m.st.tSea]) HM1.out rfl _ rfl rfl rfl ?_)|(go_at_call 67;refine(KP.out _ bI.out).mono ?_;rintro e w1 ⟨rfl,hf⟩;have Y1:Hid (aa ag W0 w1):=hf;have HM1:=h_ (HBm.out.frm hf id);obtain⟨m1,m2,m3,m4,m5,m6,m7,m8,m9⟩:=mZ HM1.out;obtain⟨b0,b1,b2,b3,b4⟩:=bP (HBw.out.frm hf id);clear hf)|fail);go_ret;exact gD (bI.out.trans Y1.out)
theorem Gc(hv:aF w G 7 vw d.all.length (d.all.flatMap Ev.cells))(hl:d.last≤d.all.length)(hn:d.all.length≤10000)(hm:jE w Gm fo fe it se ts m)(hsu:0≤d.sure)(hk:m.kind=4):
  Calls pQ 28 #[.agg #[I J d.mode,U vw.1 d.all.length vw.2,I J d.last,I J d.sure,I J d.snap],.agg #[I J m.kind,I J m.ev.kind,I J m.ev.a,I J m.ev.b,I J m.ev.n,V m.ev.s,V m.ev.t,V m.ev.u,I J m.err,I J m.last,I J m.snap,I J m.st.clock,U fo.1 m.st.fols.length fo.2,U fe.1 m.st.fees.length fe.2,U it.1 m.st.itms.length it.2,U se.1 m.st.seas.length se.2,I J m.st.tFol,I J m.st.tFee,I J m.st.tItm,I J m.st.tSea]] w (bJ w G (bz m d)):=by
 obtain⟨W0,hW0⟩:∃W0,W0=(w.alloc (.cells #[I J d.mode,U vw.1 d.all.length vw.2,I J d.last,I J d.sure,I J d.snap] 74)).alloc (.cells #[I J m.kind,I J m.ev.kind,I J m.ev.a,I J m.ev.b,I J m.ev.n,V m.ev.s,V m.ev.t,V m.ev.u,I J m.err,I J m.last,I J m.snap,I J m.st.clock,U fo.1 m.st.fols.length fo.2,U fe.1 m.st.fees.length fe.2,U it.1 m.st.itms.length it.2,U se.1 m.st.seas.length se.2,I J m.st.tFol,I J m.st.tFee,I J m.st.tItm,I J m.st.tSea] 44):=⟨_,rfl⟩;have bI:Hid (aa ag w W0):=by unfold Hid;rw[hW0];exact((fR w).alloc _).alloc _
 have HBw:Hid (aj W0 w.heap.size 74 #[I J d.mode,U vw.1 d.all.length vw.2,I J d.last,I J d.sure,I J d.snap]):=by unfold Hid;rw[hW0];exact(aj.new w _ _).alloc _
 have HBm:Hid (aj W0 (w.heap.size+1) 44 #[I J m.kind,I J m.ev.kind,I J m.ev.a,I J m.ev.b,I J m.ev.n,V m.ev.s,V m.ev.t,V m.ev.u,I J m.err,I J m.last,I J m.snap,I J m.st.clock,U fo.1 m.st.fols.length fo.2,U fe.1 m.st.fees.length fe.2,U it.1 m.st.itms.length it.2,U se.1 m.st.seas.length se.2,I J m.st.tFol,I J m.st.tFee,I J m.st.tItm,I J m.st.tSea]):=by
  unfold Hid;rw[hW0];have q:=aj.new (w.alloc (.cells #[I J d.mode,U vw.1 d.all.length vw.2,I J d.last,I J d.sure,I J d.snap] 74)) 44 #[I J m.kind,I J m.ev.kind,I J m.ev.a,I J m.ev.b,I J m.ev.n,V m.ev.s,V m.ev.t,V m.ev.u,I J m.err,I J m.last,I J m.snap,I J m.st.clock,U fo.1 m.st.fols.length fo.2,U fe.1 m.st.fees.length fe.2,U it.1 m.st.itms.length it.2,U se.1 m.st.seas.length se.2,I J m.st.tFol,I J m.st.tFee,I J m.st.tItm,I J m.st.tSea];rw[show (w.alloc (.cells #[I J d.mode,U vw.1 d.all.length vw.2,I J d.last,I J d.sure,I J d.snap] 74)).heap.size=w.heap.size+1 by simp] at q;exact q
 have HW:=h_ hW0;have HV:Hid (∀W,aa ag w W→aF W (λk=>G k∨w.heap.size≤k) 7 vw d.all.length (d.all.flatMap Ev.cells)):=λW hW=>(hv.nix hW).mono λ_=>.inl
 have HV0:Hid (∀W,aa ag w W→aF W G 7 vw d.all.length (d.all.flatMap Ev.cells)):=λW hW=>hv.nix hW
 have I6:Hid (W0.heap.size=w.heap.size+2):=by unfold Hid;rw[hW0];simp
 have HMC:Hid (∀F W,¬F (w.heap.size+1)→aa F W0 W→W.cell? ⟨w.heap.size+1,8,none⟩=some (I J m.err)∧W.cell? ⟨w.heap.size+1,9,none⟩=some (I J m.last)∧W.cell? ⟨w.heap.size+1,10,none⟩=some (I J m.snap)):=λF W hn hW=>by
  have q:=HBm.out.frm hW hn;exact⟨(q.cell 8).trans rfl,(q.cell 9).trans rfl,(q.cell 10).trans rfl⟩
 have hg:pQ.eqGuardType pQ.depth 42=false:=by kernel_rfl
 obtain⟨b0,b1,b2,b3,b4⟩:=bP HBw.out;obtain⟨m1,m2,m3,m4,m5,m6,m7,m8,m9⟩:=mZ HBm.out;have m0:W0.cell? ⟨w.heap.size+1,0,none⟩=some (I J m.kind):=(HBm.out.cell 0).trans rfl;have KO:Hid (∀W,aa ag w W→Calls pQ 70 #[.agg #[I J d.mode,U vw.1 d.all.length vw.2,I J d.last,I J d.sure,I J d.snap],.agg #[I J m.kind,I J m.ev.kind,I J m.ev.a,I J m.ev.b,I J m.ev.n,V m.ev.s,V m.ev.t,V m.ev.u,I J m.err,I J m.last,I J m.snap,I J m.st.clock,U fo.1 m.st.fols.length fo.2,U fe.1 m.st.fees.length fe.2,U it.1 m.st.itms.length it.2,U se.1 m.st.seas.length se.2,I J m.st.tFol,I J m.st.tFee,I J m.st.tItm,I J m.st.tSea]] W (bJ W G (gm d m))):=λW hW=>Cb (hv.nix hW) hl hn (hm.nix hW) hsu
 have k1:(m.kind==1)=false:=beq_eq_false_iff_ne.2 (by omega);have k2:(m.kind==2)=false:=beq_eq_false_iff_ne.2 (by omega);have k3:(m.kind==3)=false:=beq_eq_false_iff_ne.2 (by omega);have k4:(m.kind==4)=true:=beq_iff_eq.2 hk;obtain⟨nb,pT⟩:∃nb,decide (m.ev=mh)=nb:=⟨_,rfl⟩
 have IQ:∀W,(binOp .eql 42 (.agg #[I J m.ev.kind,I J m.ev.a,I J m.ev.b,I J m.ev.n,V m.ev.s,V m.ev.t,V m.ev.u]) (.agg #[I J 0,I J 0,I J 0,I J 0,V ⟨#[]⟩,V ⟨#[]⟩,V ⟨#[]⟩])).run pQ W=.ok (.bool nb) W:=λW=>by
  have q:=qU m.ev mh W;rw[pT] at q;exact q
 clear hW0 hv hl hn hm hsu
 cases nb with
 | false=>
   have uh:¬m.ev=mh:=of_decide_eq_false pT;have HE:Hid (bz m d=[]):=by unfold Hid bz;rw[if_neg (by omega),if_neg (by omega),if_neg (by omega),if_pos hk,if_neg uh]
   rw[HE.out];clear HE hk pT uh KO;go_enter Tryz.func28,Tryz.ntmps28;show Code.wp pQ (ai 0 (ae Tryz.f28)) _ _ _
   refine aC (k':=1) λK hK=>?_
   conv in aD _=>whnf
   go_wp2;rw[←HW.out];simp only[ai,ae,Tryz.f28];go_wp2_with (first|(refine bj (l:=[I J m.kind,I J m.ev.kind,I J m.ev.a,I J m.ev.b,I J m.ev.n,V m.ev.s,V m.ev.t,V m.ev.u,I J m.err,I J m.last,I J m.snap,I J m.st.clock,U fo.1 m.st.fols.length fo.2,U fe.1 m.st.fees.length fe.2,U it.1 m.st.itms.length it.2,U se.1 m.st.seas.length se.2,I J m.st.tFol,I J m.st.tFee,I J m.st.tItm,I J m.st.tSea]) HBm.out rfl _ rfl rfl rfl ?_)|fail);go_ret
   exact gD bI.out
 | true=>
   have uh:m.ev=mh:=of_decide_eq_true pT;have HE:Hid (bz m d=gm d m):=by unfold Hid bz;rw[if_neg (by omega),if_neg (by omega),if_neg (by omega),if_pos hk,if_pos uh]
   rw[HE.out];clear HE hk pT uh;go_enter Tryz.func28,Tryz.ntmps28;show Code.wp pQ (ai 0 (ae Tryz.f28)) _ _ _
   refine aC (k':=1) λK hK=>?_
   conv in aD _=>whnf
   go_wp2;rw[←HW.out];simp only[ai,ae,Tryz.f28];go_wp2_with (first|(refine bj (l:=[I J m.kind,I J m.ev.kind,I J m.ev.a,I J m.ev.b,I J m.ev.n,V m.ev.s,V m.ev.t,V m.ev.u,I J m.err,I J m.last,I J m.snap,I J m.st.clock,U fo.1 m.st.fols.length fo.2,U fe.1 m.st.fees.length fe.2,U it.1 m.st.itms.length it.2,U se.1 m.st.seas.length se.2,I J m.st.tFol,I J m.st.tFee,I J m.st.tItm,I J m.st.tSea]) HBm.out rfl _ rfl rfl rfl ?_)|(go_at_call 70;refine(KO.out _ (bI.out)).mono ?_;rintro e w2 ⟨v,l,rfl,hx⟩;have HX:Hid (bJ w G (gm d m) (.returned (U v.1 (gm d m).length v.2)) w2):=bJ.up (bI.out) ⟨v,l,rfl,hx⟩;clear hx)|fail);go_ret;exact HX.out
theorem Gd(hv:aF w G 7 vw d.all.length (d.all.flatMap Ev.cells))(hl:d.last≤d.all.length)(hn:d.all.length≤10000)(hm:jE w Gm fo fe it se ts m)(hk:¬m.kind=1∧¬m.kind=2∧¬m.kind=3∧¬m.kind=4):
  Calls pQ 28 #[.agg #[I J d.mode,U vw.1 d.all.length vw.2,I J d.last,I J d.sure,I J d.snap],.agg #[I J m.kind,I J m.ev.kind,I J m.ev.a,I J m.ev.b,I J m.ev.n,V m.ev.s,V m.ev.t,V m.ev.u,I J m.err,I J m.last,I J m.snap,I J m.st.clock,U fo.1 m.st.fols.length fo.2,U fe.1 m.st.fees.length fe.2,U it.1 m.st.itms.length it.2,U se.1 m.st.seas.length se.2,I J m.st.tFol,I J m.st.tFee,I J m.st.tItm,I J m.st.tSea]] w (bJ w G (bz m d)):=by
 obtain⟨W0,hW0⟩:∃W0,W0=(w.alloc (.cells #[I J d.mode,U vw.1 d.all.length vw.2,I J d.last,I J d.sure,I J d.snap] 74)).alloc (.cells #[I J m.kind,I J m.ev.kind,I J m.ev.a,I J m.ev.b,I J m.ev.n,V m.ev.s,V m.ev.t,V m.ev.u,I J m.err,I J m.last,I J m.snap,I J m.st.clock,U fo.1 m.st.fols.length fo.2,U fe.1 m.st.fees.length fe.2,U it.1 m.st.itms.length it.2,U se.1 m.st.seas.length se.2,I J m.st.tFol,I J m.st.tFee,I J m.st.tItm,I J m.st.tSea] 44):=⟨_,rfl⟩;have bI:Hid (aa ag w W0):=by unfold Hid;rw[hW0];exact((fR w).alloc _).alloc _
 have HBw:Hid (aj W0 w.heap.size 74 #[I J d.mode,U vw.1 d.all.length vw.2,I J d.last,I J d.sure,I J d.snap]):=by unfold Hid;rw[hW0];exact(aj.new w _ _).alloc _
 have HBm:Hid (aj W0 (w.heap.size+1) 44 #[I J m.kind,I J m.ev.kind,I J m.ev.a,I J m.ev.b,I J m.ev.n,V m.ev.s,V m.ev.t,V m.ev.u,I J m.err,I J m.last,I J m.snap,I J m.st.clock,U fo.1 m.st.fols.length fo.2,U fe.1 m.st.fees.length fe.2,U it.1 m.st.itms.length it.2,U se.1 m.st.seas.length se.2,I J m.st.tFol,I J m.st.tFee,I J m.st.tItm,I J m.st.tSea]):=by
  unfold Hid;rw[hW0];have q:=aj.new (w.alloc (.cells #[I J d.mode,U vw.1 d.all.length vw.2,I J d.last,I J d.sure,I J d.snap] 74)) 44 #[I J m.kind,I J m.ev.kind,I J m.ev.a,I J m.ev.b,I J m.ev.n,V m.ev.s,V m.ev.t,V m.ev.u,I J m.err,I J m.last,I J m.snap,I J m.st.clock,U fo.1 m.st.fols.length fo.2,U fe.1 m.st.fees.length fe.2,U it.1 m.st.itms.length it.2,U se.1 m.st.seas.length se.2,I J m.st.tFol,I J m.st.tFee,I J m.st.tItm,I J m.st.tSea];rw[show (w.alloc (.cells #[I J d.mode,U vw.1 d.all.length vw.2,I J d.last,I J d.sure,I J d.snap] 74)).heap.size=w.heap.size+1 by simp] at q;exact q
 have HW:=h_ hW0;have HV:Hid (∀W,aa ag w W→aF W (λk=>G k∨w.heap.size≤k) 7 vw d.all.length (d.all.flatMap Ev.cells)):=λW hW=>(hv.nix hW).mono λ_=>.inl
 have HV0:Hid (∀W,aa ag w W→aF W G 7 vw d.all.length (d.all.flatMap Ev.cells)):=λW hW=>hv.nix hW
 have I6:Hid (W0.heap.size=w.heap.size+2):=by unfold Hid;rw[hW0];simp
 have HMC:Hid (∀F W,¬F (w.heap.size+1)→aa F W0 W→W.cell? ⟨w.heap.size+1,8,none⟩=some (I J m.err)∧W.cell? ⟨w.heap.size+1,9,none⟩=some (I J m.last)∧W.cell? ⟨w.heap.size+1,10,none⟩=some (I J m.snap)):=λF W hn hW=>by
  have q:=HBm.out.frm hW hn;exact⟨(q.cell 8).trans rfl,(q.cell 9).trans rfl,(q.cell 10).trans rfl⟩
 have hg:pQ.eqGuardType pQ.depth 42=false:=by kernel_rfl
 obtain⟨b0,b1,b2,b3,b4⟩:=bP HBw.out;obtain⟨m1,m2,m3,m4,m5,m6,m7,m8,m9⟩:=mZ HBm.out;have m0:W0.cell? ⟨w.heap.size+1,0,none⟩=some (I J m.kind):=(HBm.out.cell 0).trans rfl;obtain⟨n1,n2,n3,n4⟩:=hk;have k1:(m.kind==1)=false:=beq_eq_false_iff_ne.2 (by omega);have k2:(m.kind==2)=false:=beq_eq_false_iff_ne.2 (by omega);have k3:(m.kind==3)=false:=beq_eq_false_iff_ne.2 (by omega);have k4:(m.kind==4)=false:=beq_eq_false_iff_ne.2 (by omega);obtain⟨nb,pT⟩:∃nb,decide (m.ev=mh)=nb:=⟨_,rfl⟩
 have IQ:∀W,(binOp .eql 42 (.agg #[I J m.ev.kind,I J m.ev.a,I J m.ev.b,I J m.ev.n,V m.ev.s,V m.ev.t,V m.ev.u]) (.agg #[I J 0,I J 0,I J 0,I J 0,V ⟨#[]⟩,V ⟨#[]⟩,V ⟨#[]⟩])).run pQ W=.ok (.bool nb) W:=λW=>by
  have q:=qU m.ev mh W;rw[pT] at q;exact q
 have HE:Hid (bz m d=[]):=by unfold Hid bz;rw[if_neg n1,if_neg n2,if_neg n3,if_neg n4]
 rw[HE.out];clear HE n1 n2 n3 n4 pT hW0 hv hl hn hm;go_enter Tryz.func28,Tryz.ntmps28;show Code.wp pQ (ai 0 (ae Tryz.f28)) _ _ _
 refine aC (k':=1) λK hK=>?_
 conv in aD _=>whnf
 go_wp2;rw[←HW.out];simp only[ai,ae,Tryz.f28];go_wp2_with (first|(refine bj (l:=[I J m.kind,I J m.ev.kind,I J m.ev.a,I J m.ev.b,I J m.ev.n,V m.ev.s,V m.ev.t,V m.ev.u,I J m.err,I J m.last,I J m.snap,I J m.st.clock,U fo.1 m.st.fols.length fo.2,U fe.1 m.st.fees.length fe.2,U it.1 m.st.itms.length it.2,U se.1 m.st.seas.length se.2,I J m.st.tFol,I J m.st.tFee,I J m.st.tItm,I J m.st.tSea]) HBm.out rfl _ rfl rfl rfl ?_)|fail);go_ret;exact gD bI.out
theorem Cc(hv:aF w G 7 vw d.all.length (d.all.flatMap Ev.cells))(hl:d.last≤d.all.length)(hn:d.all.length≤10000)(hm:jE w Gm fo fe it se ts m)(hsu:0≤d.sure):
  Calls pQ 28 #[.agg #[I J d.mode,U vw.1 d.all.length vw.2,I J d.last,I J d.sure,I J d.snap],.agg #[I J m.kind,I J m.ev.kind,I J m.ev.a,I J m.ev.b,I J m.ev.n,V m.ev.s,V m.ev.t,V m.ev.u,I J m.err,I J m.last,I J m.snap,I J m.st.clock,U fo.1 m.st.fols.length fo.2,U fe.1 m.st.fees.length fe.2,U it.1 m.st.itms.length it.2,U se.1 m.st.seas.length se.2,I J m.st.tFol,I J m.st.tFee,I J m.st.tItm,I J m.st.tSea]] w (bJ w G (bz m d)):=by
 by_cases h1:m.kind=1
 ·exact F9 hv hl hn hm h1
 by_cases h2:m.kind=2
 ·exact Ga hv hl hn hm h2
 by_cases h3:m.kind=3
 ·exact Gb hv hl hn hm h3
 by_cases h4:m.kind=4
 ·exact Gc hv hl hn hm hsu h4
 exact Gd hv hl hn hm ⟨h1,h2,h3,h4⟩
theorem Nl:mJ pQ 75 74 5 56:=⟨Tryz.underlying75,⟨.agg #[.int .i64 0,.slice none 0 0,.int .i64 0,.int .i64 0,I J 0],by kernel_rfl,rfl⟩,by decide⟩
theorem Nn{b off:Nat}{p:qK}(h:∀(j:Nat) (u:Value),p.cells[j]? =some u→w.cell? ⟨b,off+j,none⟩=some u):
  w.cell? ⟨b,off,none⟩=some (I J p.d.mode)∧w.cell? ⟨b,off+1,none⟩=some (U p.v.1 p.d.all.length p.v.2)∧w.cell? ⟨b,off+2,none⟩=some (I J p.d.last)∧w.cell? ⟨b,off+3,none⟩=some (I J p.d.sure)∧w.cell? ⟨b,off+4,none⟩=some (I J p.d.snap):=
 ⟨h 0 _ rfl,h 1 _ rfl,h 2 _ rfl,h 3 _ rfl,h 4 _ rfl⟩
structure qL(w:World)(G G7:Nat→Prop)(v:Sl)(l:List qK):Prop where
 sl:aF w G 5 v l.length (l.flatMap qK.cells)
 ev:∀p∈l,aF w G7 7 p.v p.d.all.length (p.d.all.flatMap Ev.cells)
theorem qL.nix{v:Sl}{l:List qK}(h:qL w G G7 v l)(hf:aa ag w w1):qL w1 G G7 v l:=⟨h.sl.nix hf,λp hp=>(h.ev p hp).nix hf⟩
theorem qL.frm{G G7 F:Nat→Prop}{v:Sl}{l:List qK}(h:qL w G G7 v l)(hf:aa F w w1)(h1:∀k,G k→¬F k)(h2:∀k,G7 k→¬F k):qL w1 G G7 v l:=⟨h.sl.frm hf h1,λp hp=>(h.ev p hp).frm hf h2⟩
structure ru(wb w:World)(v:Value)(l:List qK):Prop where
 row:aI 74 5 wb w v l.length (l.flatMap qK.cells)
 ev:∀p∈l,aF w (λb=>¬v.ownBlock=some b) 7 p.v p.d.all.length (p.d.all.flatMap Ev.cells)
theorem ru.more{v:Value}{l:List qK}(h:ru wb w v l)(hf:aa ag w w1):ru wb w1 v l:=⟨h.row.more hf,λp hp=>(h.ev p hp).nix hf⟩
theorem Ky(m:Mv)(ws:List WD)(k:Nat)(h:k<ws.length):xw m (ws.take (k+1))=(bz m ws[k]).foldl ny (xw m (ws.take k)):=by
 unfold xw;rw[List.take_succ_eq_append_getElem h,List.flatMap_append,List.foldl_append];simp
theorem D6(l acc:List WD)(k:Nat)(h:k<l.length):(l.take (k+1)).foldl ny acc=ny ((l.take k).foldl ny acc) l[k]:=by
 rw[List.take_succ_eq_append_getElem h,List.foldl_append];rfl
theorem xD(l:List WD)(y:WD)(k:Nat)(h:k<l.length):decide (y∈l.take (k+1))=(decide (y∈l.take k)||decide (l[k]=y)):=by
 rw[List.take_succ_eq_append_getElem h];simp only[List.mem_append,List.mem_singleton]
 by_cases h1:y∈l.take k
 ·simp[h1]
 ·by_cases h2:l[k]=y
  ·simp[h2]
  ·have:¬y=l[k]:=λe=>h2 e.symm
   simp[h1,h2,this]
theorem Kz(p:qK):∀u∈([I J p.d.mode,U p.v.1 p.d.all.length p.v.2,I J p.d.last,I J p.d.sure,I J p.d.snap]:List Value),u.oneCell'=true:=p.one
theorem Pk{Gn Gp Gt:Nat→Prop}(B6:nl.length=nn)(hn:qL wr Gn Gp (An,cn) nl)(Ns:nn≤10000)(RH:At=some ⟨bt,ot,none⟩)(hj:j<nt)(PY:nt≤10000)
  (ht:∀W,aa ag wr W→W.cell? ⟨bt,ot+j * 5,none⟩=some (I J t.d.mode)∧W.cell? ⟨bt,ot+j * 5+1,none⟩=some (U t.v.1 t.d.all.length t.v.2)∧W.cell? ⟨bt,ot+j * 5+2,none⟩=some (I J t.d.last)∧W.cell? ⟨bt,ot+j * 5+3,none⟩=some (I J t.d.sure)∧W.cell? ⟨bt,ot+j * 5+4,none⟩=some (I J t.d.snap)) (J9:aF wr Gt 7 t.v t.d.all.length (t.d.all.flatMap Ev.cells))
  (hQ:∀(ye z41 xt xu z44 zh z46 zi zj z49 z50 z51 z52 z53 z54 z55 z56 z57 z58:Value) (W':World),aa ag wr W'→Q .normal ⟨#[u0,u1,u2,u3,u4,u5,U An nn cn,u7,U At nt ct,I J j,.bool (decide (t.d∈nl.map (·.d))),ye,u12,u13,u14,u15,u16,cG,cH,cI,cR,cS,cT,u23,u24,cN,u26,dc,u28,dm,dp,dr,u32,u33,df,dg,u36,dt,u38,dB,dC,z41,xt,xu,z44,zh,z46,zi,zj,z49,z50,z51,z52,z53,z54,z55,z56,z57,z58,dw,dx,dy,dz,dA,u64,dh,di,dl,cU,cX,fA,fB,fF,fG,fw],[]⟩ W'):
  Code.wp pQ (aD (ap (bM (aD (ap (bC (bM (ap (ap (bM (aD (ap (bC (bM (ap (aD (ap (bM (aD (ap (bC (bM (ap (aD (ai 2 (ae Tryz.f10)))))))))))))))))))))))))) Q ⟨#[u0,u1,u2,u3,u4,u5,U An nn cn,u7,U At nt ct,I J j,.bool false,u11,u12,u13,u14,u15,u16,cG,cH,cI,cR,cS,cT,u23,u24,cN,u26,dc,u28,dm,dp,dr,u32,u33,df,dg,u36,dt,u38,dB,dC,dO,dP,dQ,u44,u45,dI,dJ,dK,dL,dD,dE,dF,dR,dS,dT,dM,dG,dH,dw,dx,dy,dz,dA,u64,dh,di,dl,cU,cX,fA,fB,fF,fG,fw],[]⟩ wr:=by
 subst RH;have HL:=h_ B6;have HN:=h_ hn;have HT:=h_ ht;have HTv:=h_ J9;have HQ:=h_ hQ;have U2:(j:Int)<(nt:Int):=by omega
 have hj0:(0:Int)≤(j:Int):=by omega
 clear B6 hn ht J9 hQ;obtain⟨w0,rfl⟩:∃w0,w0=wr:=⟨_,rfl⟩;simp only[bH,ap,aT,bM,bC,aD,ai,ae,Tryz.f10];go_wp2
 go_loopw [10,11] (λkv nv W=>∃n:Nat,n≤nn∧nv=I J n∧kv=.bool (decide (t.d∈(nl.map (·.d)).take n))∧aa ag w0 W) (λ_ nv _=>nn-(intOf nv).toNat)
 case atStart=>exact⟨0,by omega,rfl,by simp,aa.refl _ _⟩
 case round=>
  obtain⟨n,hn,rfl,rfl,hf⟩:=hrel;have HF:=h_ hf;clear hf;obtain⟨wo,rfl⟩:∃wo,wo=wr:=⟨_,rfl⟩
  by_cases hlt:n<nn
  ·have hnl:n<nl.length:=by rw[HL.out];exact hlt
   obtain⟨bb,off,hA,-,hbl,hcell⟩:=(HN.out.sl.nix HF.out).at_ qK.clen (by decide) (by omega);dsimp only at hA;subst hA;obtain⟨p,hp⟩:∃p,nl[n]=p:=⟨_,rfl⟩;have hpv:=HN.out.ev nl[n] (List.getElem_mem hnl);have hST:=xD (nl.map (·.d)) t.d n (by simpa using hnl);rw[List.getElem_map] at hST;have Lb:=hcell n hnl;rw[hp] at hpv hST Lb;have zp:=λy:FW (aa ag wo)=>(show y.w.cell? ⟨bb,off+n * 5,none⟩=some (I J p.d.mode)∧y.w.cell? ⟨bb,off+n * 5+1,none⟩=some (U p.v.1 p.d.all.length p.v.2)∧y.w.cell? ⟨bb,off+n * 5+2,none⟩=some (I J p.d.last)∧y.w.cell? ⟨bb,off+n * 5+3,none⟩=some (I J p.d.sure)∧y.w.cell? ⟨bb,off+n * 5+4,none⟩=some (I J p.d.snap) from Nn λjj u h=>(y.h.cell (p:=⟨bb,off+n * 5+jj,none⟩) hbl id).trans (Lb jj u h))
   have zt:=λy:FW (aa ag wo)=>HT.out y.w (HF.out.trans y.h)
   have KSm:=λy:FW (aa ag wo)=>(show Calls pQ 29 (#[.agg #[I J p.d.mode,U p.v.1 p.d.all.length p.v.2,I J p.d.last,I J p.d.sure,I J p.d.snap],.agg #[I J t.d.mode,U t.v.1 t.d.all.length t.v.2,I J t.d.last,I J t.d.sure,I J t.d.snap]]) y.w λe w'=>e=.returned (.bool (decide (p.d=t.d)))∧aa ag y.w w' from B7 (hpv.nix (HF.out.trans y.h)) (HTv.out.nix (HF.out.trans y.h)))
   obtain⟨kb,hkb⟩:∃kb,decide (t.d∈(nl.map (·.d)).take n)=kb:=⟨_,rfl⟩;obtain⟨sb,hsb⟩:∃sb,decide (p.d=t.d)=sb:=⟨_,rfl⟩;rw[hkb,hsb] at hST;rw[hkb];simp only[hsb] at KSm;have HST:=h_ hST;have wJ:(n:Int)<(nn:Int):=by omega
   have GK:(0:Int)≤(n:Int):=by omega
   clear hcell hp hpv hST Lb hkb hsb hnl
   cases kb with
   | true=>
     go_wp2_with fail;refine ak (aa ag wo) ((fR wo).drew) (by kernel_rfl) (by kernel_rfl) ?_
     repeat (go_big_quiet_step (fail))
     refine wpQuiet_nil ?_;rintro w5 ⟨⟨_,rq⟩,rfl⟩;go_wp2;go_roundw
     case rel=>exact⟨n+1,by omega,by go_num,by rw[HST.out];rfl,HF.out.trans rq⟩
     case measure=>simp[intOf];omega
   | false=>
     go_wp2_with fail;refine ak (aa ag wo) ((fR wo).drew) (by kernel_rfl) (by kernel_rfl) ?_
     repeat (go_big_quiet_step (first|(rename_i y;go_at_call 29;refine y.call (KSm y) ?_;exact λw' hf=>y.h.trans hf)|fail))
     refine wpQuiet_nil ?_;rintro w5 ⟨⟨_,rq⟩,rfl⟩;go_wp2;go_roundw
     case rel=>exact⟨n+1,by omega,by go_num,by rw[HST.out];rfl,HF.out.trans rq⟩
     case measure=>simp[intOf];omega
  ·obtain rfl:n=nn:=by omega
   have za:Hid ((nl.map (·.d)).take n=nl.map (·.d)):=List.take_of_length_le (by rw[List.length_map,HL.out];exact Nat.le_refl _);rw[za.out];clear za;generalize decide (t.d∈nl.map (·.d))=R at *;go_wp2;exact HQ.out _ _ _ _ _ _ _ _ _ _ _ _ _ _ _ _ _ _ _ _ HF.out
theorem Pm(B6:nl.length=nn)(hr:ru wb wr (U An nn cn) nl)(Ns:nn≤1000)(RH:At=some ⟨bt,ot,none⟩)(hj:j<nt)(PY:nt≤10000)
  (ht:∀W,aa ag wr W→W.cell? ⟨bt,ot+j * 5,none⟩=some (I J t.d.mode)∧W.cell? ⟨bt,ot+j * 5+1,none⟩=some (U t.v.1 t.d.all.length t.v.2)∧W.cell? ⟨bt,ot+j * 5+2,none⟩=some (I J t.d.last)∧W.cell? ⟨bt,ot+j * 5+3,none⟩=some (I J t.d.sure)∧W.cell? ⟨bt,ot+j * 5+4,none⟩=some (I J t.d.snap)) (J9:aF wr Gt 7 t.v t.d.all.length (t.d.all.flatMap Ev.cells)) (hGt:∀k,Gt k→¬(Value.slice An nn cn).ownBlock=some k)
  (hQ:∀(zl ye z41 xt xu z44 zh z46 zi zj z49 z50 z51 z52 z53 z54 z55 z56 z57 z58 z59 z60 z61 z62 z63 z64 z65 z66 z67:Value) (W':World) (A':Option Addr) (c':Nat) (nl':List qK),nl'.map (·.d)=ny (nl.map (·.d)) t.d→ru wb W' (U A' nl'.length c') nl'→aa (λk=>(Value.slice An nn cn).ownBlock=some k) wr W'→((Value.slice A' nl'.length c').ownBlock=(Value.slice An nn cn).ownBlock∨∃b,(Value.slice A' nl'.length c').ownBlock=some b∧wr.heap.size≤b)→Q .normal ⟨#[u0,u1,u2,u3,u4,u5,U A' nl'.length c',u7,U At nt ct,I J j,zl,ye,u12,u13,u14,u15,u16,cG,cH,cI,cR,cS,cT,u23,u24,cN,u26,dc,u28,dm,dp,dr,u32,u33,df,dg,u36,dt,u38,dB,dC,z41,xt,xu,z44,zh,z46,zi,zj,z49,z50,z51,z52,z53,z54,z55,z56,z57,z58,z59,z60,z61,z62,z63,z64,z65,z66,z67,cU,cX,fA,fB,fF,fG,fw],[]⟩ W'):
  Code.wp pQ (bM (aD (ap (bC (bM (ap (ap (bM (aD (ap (bC (bM (ap (aD (ap (bM (aD (ap (bC (bM (ap (aD (ai 2 (ae Tryz.f10)))))))))))))))))))))))) Q ⟨#[u0,u1,u2,u3,u4,u5,U An nn cn,u7,U At nt ct,I J j,u10,u11,u12,u13,u14,u15,u16,cG,cH,cI,cR,cS,cT,u23,u24,cN,u26,dc,u28,dm,dp,dr,u32,u33,df,dg,u36,dt,u38,dB,dC,dO,dP,dQ,u44,u45,dI,dJ,dK,dL,dD,dE,dF,dR,dS,dT,dM,dG,dH,dw,dx,dy,dz,dA,u64,dh,di,dl,cU,cX,fA,fB,fF,fG,fw],[]⟩ wr:=by
 subst RH
 have Gh:aF wr (λk=>wb.heap.size≤k) 5 (An,cn) nl.length (nl.flatMap qK.cells):=by
  have q:=hr.row;rw[B6] at q ⊢;exact q.sl
 have HN:Hid (qL wr (λk=>wb.heap.size≤k) (λb=>¬(Value.slice An nn cn).ownBlock=some b) (An,cn) nl):=⟨Gh,hr.ev⟩;have e1:(bM (aD (ap (bC (bM (ap (ap (bM (aD (ap (bC (bM (ap (aD (ap (bM (aD (ap (bC (bM (ap (aD (ai 2 (ae Tryz.f10))))))))))))))))))))))))=.seq (aD (bM (aD (ap (bC (bM (ap (ap (bM (aD (ap (bC (bM (ap (aD (ap (bM (aD (ap (bC (bM (ap (aD (ai 2 (ae Tryz.f10))))))))))))))))))))))))) (.seq (aD (ap (bM (aD (ap (bC (bM (ap (ap (bM (aD (ap (bC (bM (ap (aD (ap (bM (aD (ap (bC (bM (ap (aD (ai 2 (ae Tryz.f10)))))))))))))))))))))))))) (ap (ap (bM (aD (ap (bC (bM (ap (ap (bM (aD (ap (bC (bM (ap (aD (ap (bM (aD (ap (bC (bM (ap (aD (ai 2 (ae Tryz.f10))))))))))))))))))))))))))):=by kernel_rfl
 rw[e1];clear e1;refine wp_seq_k λK hK=>?_
 conv in aD (bM _)=>whnf
 have HR:=h_ hr;have HT:=h_ ht;have HTv:=h_ J9;have HGt:=h_ hGt;have HQ:=h_ hQ;have HL:=h_ B6;have HK:=h_ hK;clear hr ht J9 hGt hQ Gh B6 hK;go_wp2;refine HK.out _ _ ?_;clear HK K;refine wp_seq_k λK2 hK2=>?_
 refine Pk HL.out HN.out (by omega) rfl hj PY HT.out HTv.out ?_;intro ye z41 xt xu z44 zh z46 zi zj z49 z50 z51 z52 z53 z54 z55 z56 z57 z58 W1 h1;show K2 _ _
 refine hK2 _ _ ?_;clear hK2 K2;have pG:=h_ h1;obtain⟨t0,t1,t2,t3,t4⟩:=HT.out W1 h1;have U2:(j:Int)<(nt:Int):=by omega
 have hj0:(0:Int)≤(j:Int):=by omega
 clear h1
 by_cases hm:t.d∈nl.map (·.d)
 ·have HA:Hid (nl.map (·.d)=ny (nl.map (·.d)) t.d):=(if_pos hm).symm
  rw[decide_eq_true hm];clear hm;simp only[bH,ap,aT,bM,bC,aD,ai,ae,Tryz.f10];go_wp2;obtain rfl:=HL.out;exact HQ.out _ _ _ _ _ _ _ _ _ _ _ _ _ _ _ _ _ _ _ _ _ _ _ _ _ _ _ _ _ W1 An cn nl HA.out (HR.out.more pG.out) (pG.out.mono λ_ h=>h.elim) (.inl rfl)
 ·have HA:Hid ((nl++[t]).map (·.d)=ny (nl.map (·.d)) t.d):=by unfold Hid ny;rw[if_neg hm,List.map_append];rfl
  rw[decide_eq_false hm];clear hm;obtain⟨v4,w4,qZ,hr4,uD,tx⟩:=(HR.out.row.more pG.out).push Nl [I J t.d.mode,U t.v.1 t.d.all.length t.v.2,I J t.d.last,I J t.d.sure,I J t.d.snap] rfl (Kz t) (by rw[HL.out];unfold maxLen;omega) (by rw[HL.out];omega)
  have hX:∃A' c',v4=U A' (nl++[t]).length c'∧ru wb w4 v4 (nl++[t]):=by
   have hr5:aI 74 5 wb w4 v4 (nl++[t]).length ((nl++[t]).flatMap qK.cells):=by
    rw[List.length_append,List.flatMap_append,List.flatMap_singleton];exact hr4
   obtain⟨A',c',e,-⟩:=hr5.shape;refine⟨A',c',e,hr5,λp hp=>?_⟩;have hA1:aa ag W1 (W1.alloc (.cells #[I J t.d.mode,U t.v.1 t.d.all.length t.v.2,I J t.d.last,I J t.d.sure,I J t.d.snap] 74)):=(fR W1).alloc _;have hsz:=pG.out.size
   have key:aF w4 (λb=>¬(Value.slice An nn cn).ownBlock=some b∧b<wr.heap.size) 7 p.v p.d.all.length (p.d.all.flatMap Ev.cells):=by
    rcases List.mem_append.1 hp with hp|hp
    ·exact((HR.out.ev p hp).cOld.nix (pG.out.trans hA1)).frm uD λk hk=>hk.1
    ·rw[List.mem_singleton.1 hp]
     exact((HTv.out.cOld.nix (pG.out.trans hA1)).frm uD λk hk=>HGt.out k hk.1).mono λk hk=>⟨HGt.out k hk.1,hk.2⟩
   refine key.mono λk hk e=>?_
   rcases tx with q|q
   ·rw[q] at e
    exact hk.1 e
   ·rw[q] at e
    injection e with e;have:=hk.2;omega
  obtain⟨A',c',rfl,hrow⟩:=hX;have eh:=h_ hrow
  have HF4:Hid (aa (λk=>(Value.slice An nn cn).ownBlock=some k) wr w4):=by
   have hA1:aa ag W1 (W1.alloc (.cells #[I J t.d.mode,U t.v.1 t.d.all.length t.v.2,I J t.d.last,I J t.d.sure,I J t.d.snap] 74)):=(fR W1).alloc _;exact((pG.out.trans hA1).mono λ_ h=>h.elim).trans uD
  have HO:Hid ((Value.slice A' (nl++[t]).length c').ownBlock=(Value.slice An nn cn).ownBlock∨∃b,(Value.slice A' (nl++[t]).length c').ownBlock=some b∧wr.heap.size≤b):=by
   rcases tx with q|q
   ·exact .inl q
   ·exact .inr ⟨_,q,by have:=pG.out.size;omega⟩
  clear hr4 uD tx hrow;simp only[bH,ap,aT,bM,bC,aD,ai,ae,Tryz.f10];generalize hq:(nl++[t]).length=q at *;go_wp2_with (first|(at_builtin;refine aq qZ rfl _ _ rfl rfl rfl ?_)|fail);subst hq;exact HQ.out _ _ _ _ _ _ _ _ _ _ _ _ _ _ _ _ _ _ _ _ _ _ _ _ _ _ _ _ _ w4 A' c' (nl++[t]) HA.out eh.out HF4.out HO.out
theorem Pn{wo wk w1:World}{nl tl:List qK}(hwk:wk.heap.size≤w1.heap.size)(B6:nl.length=nn)(hr:ru wo w1 (U An nn cn) nl)(Ns:nn≤100)(hown:∀b,(Value.slice An nn cn).ownBlock=some b→b<wk.heap.size)(PY:tl.length=nt)(hnt2:nt≤100)
  (ht:qL w1 (λb=>wk.heap.size≤b∧b<w1.heap.size) (λb=>b<wo.heap.size∨(wk.heap.size≤b∧b<w1.heap.size)) (At,ct) tl) {u0 u1 u2 u3 u4 u5 u7 u9 u10 u11 u12 u13 u14 u15 u16 cG cH cI cR cS cT u23 u24 cN u26 dc u28 dm dp dr u32 u33 df dg u36 dt u38 dB dC dO dP dQ u44 u45 dI dJ dK dL dD dE dF dR dS dT dM dG dH dw dx dy dz dA u64 dh di dl cU cX fA fB fF fG fw:Value}
  (hQ:∀(z9 zl ye z35 z36 z37 Dh z39 z40 z41 xt xu z44 zh z46 zi zj z49 z50 z51 z52 z53 z54 z55 z56 z57 z58 z59 z60 z61 z62 z63 z64 z65 z66 z67:Value) (W':World) (A':Option Addr) (c':Nat) (nl':List qK),nl'.map (·.d)=(tl.map (·.d)).foldl ny (nl.map (·.d))→ru wo W' (U A' nl'.length c') nl'→Q .normal ⟨#[u0,u1,u2,u3,u4,u5,U A' nl'.length c',u7,U At nt ct,z9,zl,ye,u12,u13,u14,u15,u16,cG,cH,cI,cR,cS,cT,u23,u24,cN,u26,dc,u28,dm,dp,dr,u32,u33,df,z35,z36,z37,Dh,z39,z40,z41,xt,xu,z44,zh,z46,zi,zj,z49,z50,z51,z52,z53,z54,z55,z56,z57,z58,z59,z60,z61,z62,z63,z64,z65,z66,z67,cU,cX,fA,fB,fF,fG,fw],[]⟩ W'):
  Code.wp pQ (ap (bM (aD (ap (bC (bM (ap (aD (ap (bM (aD (ap (bC (bM (ap (aD (ai 2 (ae Tryz.f10)))))))))))))))))) Q ⟨#[u0,u1,u2,u3,u4,u5,U An nn cn,u7,U At nt ct,u9,u10,u11,u12,u13,u14,u15,u16,cG,cH,cI,cR,cS,cT,u23,u24,cN,u26,dc,u28,dm,dp,dr,u32,u33,df,dg,u36,dt,u38,dB,dC,dO,dP,dQ,u44,u45,dI,dJ,dK,dL,dD,dE,dF,dR,dS,dT,dM,dG,dH,dw,dx,dy,dz,dA,u64,dh,di,dl,cU,cX,fA,fB,fF,fG,fw],[]⟩ w1:=by
 have HR:=h_ hr;have HT:=h_ ht;have HQ:=h_ hQ;have HL:=h_ B6;have yb:=h_ PY;have HO:=h_ hown;clear hr ht hQ B6 hown;simp only[bH,ap,aT,bM,bC,aD,ai,ae,Tryz.f10];go_wp2
 go_loopw [6,9] (λov jv W=>∃(j:Nat) (nl':List qK),j≤nt∧jv=I J j∧nl'.map (·.d)=((tl.map (·.d)).take j).foldl ny (nl.map (·.d))∧nl'.length≤100+j∧ru wo W ov nl'∧qL W (λb=>wk.heap.size≤b∧b<w1.heap.size) (λb=>b<wo.heap.size∨(wk.heap.size≤b∧b<w1.heap.size)) (At,ct) tl∧w1.heap.size≤W.heap.size∧∀b,ov.ownBlock=some b→wo.heap.size≤b∧(b<wk.heap.size∨w1.heap.size≤b)) (λ_ jv _=>nt-(intOf jv).toNat)
 case atStart=>exact⟨0,nl,by omega,rfl,by simp,by rw[HL.out];omega,HR.out,HT.out,Nat.le_refl _,λb hb=>⟨(HR.out.row.own.lt b hb).1,.inl (HO.out b hb)⟩⟩
 case round=>
  show Code.wp pQ (.seq (.seq (aD (aD (bC (bM (ap (ap (bM (aD (ap (bC (bM (ap (aD (ap (bM (aD (ap (bC (bM (ap (aD (ai 2 (ae Tryz.f10))))))))))))))))))))))) (.cond (.tmp 38) .skip (.exit 4))) (.seq (.block 5 (bM (aD (ap (bC (bM (ap (ap (bM (aD (ap (bC (bM (ap (aD (ap (bM (aD (ap (bC (bM (ap (aD (ai 2 (ae Tryz.f10))))))))))))))))))))))))) (ap (ap (bC (bM (ap (ap (bM (aD (ap (bC (bM (ap (aD (ap (bM (aD (ap (bC (bM (ap (aD (ai 2 (ae Tryz.f10))))))))))))))))))))))))) _ _ _
  obtain⟨j,nl',hj,rfl,hmap,hlen,hrow,xi,hsz,hap⟩:=hrel;obtain⟨A1,c1,rfl,-,-,-,-⟩:=hrow.row.shape;obtain⟨wq,rfl⟩:∃wq,wq=wr:=⟨_,rfl⟩;have HM:=h_ hmap;have eh:=h_ hrow;have RI:=h_ xi;have HAp:=h_ hap;clear hmap hrow xi hap
  conv in aD (aD _)=>whnf
  by_cases hlt:j<nt
  ·have uO:j<tl.length:=by rw[yb.out];exact hlt
   obtain⟨bt,ot,hA,-,hbl,hcell⟩:=RI.out.sl.at_ qK.clen (by decide) (by omega);dsimp only at hA;have xl:=hcell j uO;have hev:=RI.out.ev tl[j] (List.getElem_mem uO);have hst:=D6 (tl.map (·.d)) (nl.map (·.d)) j (by simpa using uO);rw[List.getElem_map] at hst;obtain⟨t,ht⟩:∃t,tl[j]=t:=⟨_,rfl⟩;rw[ht] at xl hev hst;rw[←HM.out] at hst;have HST:=h_ hst;have HEv:=h_ hev;have HCt:Hid (∀W,aa ag wq W→W.cell? ⟨bt,ot+j * 5,none⟩=some (I J t.d.mode)∧W.cell? ⟨bt,ot+j * 5+1,none⟩=some (U t.v.1 t.d.all.length t.v.2)∧W.cell? ⟨bt,ot+j * 5+2,none⟩=some (I J t.d.last)∧W.cell? ⟨bt,ot+j * 5+3,none⟩=some (I J t.d.sure)∧W.cell? ⟨bt,ot+j * 5+4,none⟩=some (I J t.d.snap)):=λW hW=>Nn λjj u h=>(hW.cell (p:=⟨bt,ot+j * 5+jj,none⟩) hbl id).trans (xl jj u h)
   have HJ:=h_ hlen;clear hcell xl hev hst ht hbl;obtain⟨q,hq⟩:∃q,nl'.length=q:=⟨_,rfl⟩;rw[hq] at hlen;have MT:=h_ hq;rw[hq];rw[hq] at eh HAp;clear hq;subst hA;go_wp2;refine Pm (wb:=wo) MT.out eh.out (by omega) rfl hlt (by omega) HCt.out HEv.out (λk hk e=>?_) ?_
   ·have:=HAp.out k e
    rcases hk with hk|hk<;>omega
   intro zl ye z41 xt xu z44 zh z46 zi zj z49 z50 z51 z52 z53 z54 z55 z56 z57 z58 z59 z60 z61 z62 z63 z64 z65 z66 z67 W' A' c' nl2 Jt hr2 hf2 ho2;go_wp2
   conv in ap (ap (bC _))=>whnf
   have ND:=h_ Jt;have gF:=h_ hr2;have kX:=h_ hf2;have uW:=h_ ho2;clear Jt hr2 hf2 ho2;go_wp2;go_roundw
   case rel=>
    have hz:=kX.out.size;refine⟨j+1,nl2,by omega,by go_num,by rw[ND.out,HST.out],?_,gF.out,RI.out.frm kX.out (λk hk e=>?_) (λk hk e=>?_),by omega,λb hb=>?_⟩
    ·have h1:=congrArg List.length ND.out
     rw[List.length_map] at h1;have h2:(ny (nl'.map (·.d)) t.d).length≤(nl'.map (·.d)).length+1:=by unfold ny;split<;>simp
     rw[List.length_map,MT.out] at h2;omega
    ·have:=HAp.out k e
     omega
    ·have:=HAp.out k e
     rcases hk with hk|hk<;>omega
    ·rcases uW.out with h|⟨b2,h,h3⟩
     ·exact HAp.out b (h ▸ hb)
     ·rw[h] at hb
      injection hb with hb;have:=eh.out.row.frm.size;exact⟨by omega,.inr (by omega)⟩
   case measure=>simp[intOf];omega
  ·obtain rfl:j=nt:=by omega
   have za:Hid ((tl.map (·.d)).take j=tl.map (·.d)):=List.take_of_length_le (by rw[List.length_map,yb.out];exact Nat.le_refl _);have ND:Hid (nl'.map (·.d)=(tl.map (·.d)).foldl ny (nl.map (·.d))):=by unfold Hid;rw[HM.out,za.out]
   have HRow2:=eh;generalize hq:nl'.length=q at *;go_wp2;subst hq;exact HQ.out _ _ _ _ _ _ _ _ _ _ _ _ _ _ _ _ _ _ _ _ _ _ _ _ _ _ _ _ _ _ _ _ _ _ _ _ _ A1 c1 nl' ND.out HRow2.out
end Go.Proofs.YtaecjmiobllhmaaGreat
