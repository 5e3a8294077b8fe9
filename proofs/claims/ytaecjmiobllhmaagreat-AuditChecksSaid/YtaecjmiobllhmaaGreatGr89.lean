/- Words. -/
import Derived.Test.YtaecjmiobllhmaaGreatGr88
set_option linter.unusedVariables false
set_option linter.unusedSimpArgs false
set_option maxRecDepth 100000
set_option maxHeartbeats 16000000
namespace Go.Proofs.YtaecjmiobllhmaaGreat
open Go.Value renaming int→I,string→V,slice→U,pointer→O
open Go.IntKind renaming i64→J
open Tryz renaming prog→pQ
open Go.RowKit Go.Lib
variable {w:World}{G Gm:Nat→Prop}{vw:Sl}{d:WD}{m:Mv}{fo fe it se:Sl}{ts:List (Sl×aR)}{W:World}{b:Nat}{K:Act→World→Prop}{bm:Nat}{u0 u1 u4 u5 u6 u7 u8 u9 u10 u11 u12 u13 u14 u15 u16 cG cH cI cR cS cT u23 u24 cN u26 dc u28 dm dp dr u32 u33 df dg u36 dt u38 dB dC dO dP dQ u44 u45 dI dJ dK dL dD dE dF dR dS dT dM dG dH dw dx dy dz dA u64 dh di dl cU cX:Value}
theorem F8(hv:aF w G 7 vw d.all.length (d.all.flatMap Ev.cells))(hl:d.last≤d.all.length)(hn:d.all.length≤10000)(hm:jE w Gm fo fe it se ts m)(c1:aN m=false∨(m.err≠0∧m.last≠0)):
  Calls pQ 66 #[.agg #[I J d.mode,U vw.1 d.all.length vw.2,I J d.last,I J d.sure,I J d.snap],.agg #[I J m.kind,I J m.ev.kind,I J m.ev.a,I J m.ev.b,I J m.ev.n,V m.ev.s,V m.ev.t,V m.ev.u,I J m.err,I J m.last,I J m.snap,I J m.st.clock,U fo.1 m.st.fols.length fo.2,U fe.1 m.st.fees.length fe.2,U it.1 m.st.itms.length it.2,U se.1 m.st.seas.length se.2,I J m.st.tFol,I J m.st.tFee,I J m.st.tItm,I J m.st.tSea]] w (bJ w G (iB d m)):=by
 obtain⟨W0,hW0⟩:∃W0,W0=(w.alloc (.cells #[I J d.mode,U vw.1 d.all.length vw.2,I J d.last,I J d.sure,I J d.snap] 74)).alloc (.cells #[I J m.kind,I J m.ev.kind,I J m.ev.a,I J m.ev.b,I J m.ev.n,V m.ev.s,V m.ev.t,V m.ev.u,I J m.err,I J m.last,I J m.snap,I J m.st.clock,U fo.1 m.st.fols.length fo.2,U fe.1 m.st.fees.length fe.2,U it.1 m.st.itms.length it.2,U se.1 m.st.seas.length se.2,I J m.st.tFol,I J m.st.tFee,I J m.st.tItm,I J m.st.tSea] 44):=⟨_,rfl⟩;have bI:Hid (aa ag w W0):=by unfold Hid;rw[hW0];exact((fR w).alloc _).alloc _
 have HBw:Hid (aj W0 w.heap.size 74 #[I J d.mode,U vw.1 d.all.length vw.2,I J d.last,I J d.sure,I J d.snap]):=by unfold Hid;rw[hW0];exact(aj.new w _ _).alloc _
 have HBm:Hid (aj W0 (w.heap.size+1) 44 #[I J m.kind,I J m.ev.kind,I J m.ev.a,I J m.ev.b,I J m.ev.n,V m.ev.s,V m.ev.t,V m.ev.u,I J m.err,I J m.last,I J m.snap,I J m.st.clock,U fo.1 m.st.fols.length fo.2,U fe.1 m.st.fees.length fe.2,U it.1 m.st.itms.length it.2,U se.1 m.st.seas.length se.2,I J m.st.tFol,I J m.st.tFee,I J m.st.tItm,I J m.st.tSea]):=by
  unfold Hid;rw[hW0];have q:=aj.new (w.alloc (.cells #[I J d.mode,U vw.1 d.all.length vw.2,I J d.last,I J d.sure,I J d.snap] 74)) 44 #[I J m.kind,I J m.ev.kind,I J m.ev.a,I J m.ev.b,I J m.ev.n,V m.ev.s,V m.ev.t,V m.ev.u,I J m.err,I J m.last,I J m.snap,I J m.st.clock,U fo.1 m.st.fols.length fo.2,U fe.1 m.st.fees.length fe.2,U it.1 m.st.itms.length it.2,U se.1 m.st.seas.length se.2,I J m.st.tFol,I J m.st.tFee,I J m.st.tItm,I J m.st.tSea];rw[show (w.alloc (.cells #[I J d.mode,U vw.1 d.all.length vw.2,I J d.last,I J d.sure,I J d.snap] 74)).heap.size=w.heap.size+1 by simp] at q;exact q
 have HW:=h_ hW0;have HV:Hid (∀W,aa ag w W→aF W (λk=>G k∨w.heap.size≤k) 7 vw d.all.length (d.all.flatMap Ev.cells)):=λW hW=>(hv.nix hW).mono λ_=>.inl
 have HV0:Hid (∀W,aa ag w W→aF W G 7 vw d.all.length (d.all.flatMap Ev.cells)):=λW hW=>hv.nix hW
 have I6:Hid (W0.heap.size=w.heap.size+2):=by unfold Hid;rw[hW0];simp
 have HMC:Hid (∀F W,¬F (w.heap.size+1)→aa F W0 W→W.cell? ⟨w.heap.size+1,8,none⟩=some (I J m.err)∧W.cell? ⟨w.heap.size+1,9,none⟩=some (I J m.last)∧W.cell? ⟨w.heap.size+1,10,none⟩=some (I J m.snap)):=λF W hn hW=>by
  have q:=HBm.out.frm hW hn;exact⟨(q.cell 8).trans rfl,(q.cell 9).trans rfl,(q.cell 10).trans rfl⟩
 have HE:Hid (iB d m=[]):=by unfold Hid iB;rw[if_pos c1]
 rw[HE.out];clear HE
 cases cp:aN m with
 | false=>
   have KP:Hid (∀W,aa ag w W→Calls pQ 67 #[.agg #[I J m.kind,I J m.ev.kind,I J m.ev.a,I J m.ev.b,I J m.ev.n,V m.ev.s,V m.ev.t,V m.ev.u,I J m.err,I J m.last,I J m.snap,I J m.st.clock,U fo.1 m.st.fols.length fo.2,U fe.1 m.st.fees.length fe.2,U it.1 m.st.itms.length it.2,U se.1 m.st.seas.length se.2,I J m.st.tFol,I J m.st.tFee,I J m.st.tItm,I J m.st.tSea]] W λe w'=>e=.returned (.bool false)∧aa ag W w'):=λW hW=>by
    have q:=d7 (hm.nix hW);rw[cp] at q;exact q
   clear hW0 hv hl hn hm c1 cp;go_enter Tryz.func66,Tryz.ntmps66;show Code.wp pQ (ai 0 (ae Tryz.f66)) _ _ _
   refine aC (k':=1) λK hK=>?_
   conv in aD _=>whnf
   go_wp2;rw[←HW.out];simp only[ai,ae,Tryz.f66];go_wp2_with (first|(refine bj (l:=[I J m.kind,I J m.ev.kind,I J m.ev.a,I J m.ev.b,I J m.ev.n,V m.ev.s,V m.ev.t,V m.ev.u,I J m.err,I J m.last,I J m.snap,I J m.st.clock,U fo.1 m.st.fols.length fo.2,U fe.1 m.st.fees.length fe.2,U it.1 m.st.itms.length it.2,U se.1 m.st.seas.length se.2,I J m.st.tFol,I J m.st.tFee,I J m.st.tItm,I J m.st.tSea]) HBm.out rfl _ rfl rfl rfl ?_)|(go_at_call 67;refine(KP.out _ bI.out).mono ?_;rintro e w1 ⟨rfl,hf⟩;have Y1:Hid (aa ag W0 w1):=hf;have HM1:=h_ (HBm.out.frm hf id);obtain⟨m1,m2,m3,m4,m5,m6,m7,m8,m9⟩:=mZ HM1.out;clear hf)|fail);go_ret
   exact gD (bI.out.trans Y1.out)
 | true=>
   have KP:Hid (∀W,aa ag w W→Calls pQ 67 #[.agg #[I J m.kind,I J m.ev.kind,I J m.ev.a,I J m.ev.b,I J m.ev.n,V m.ev.s,V m.ev.t,V m.ev.u,I J m.err,I J m.last,I J m.snap,I J m.st.clock,U fo.1 m.st.fols.length fo.2,U fe.1 m.st.fees.length fe.2,U it.1 m.st.itms.length it.2,U se.1 m.st.seas.length se.2,I J m.st.tFol,I J m.st.tFee,I J m.st.tItm,I J m.st.tSea]] W λe w'=>e=.returned (.bool true)∧aa ag W w'):=λW hW=>by
    have q:=d7 (hm.nix hW);rw[cp] at q;exact q
   have c2:m.err≠0∧m.last≠0:=by
    rcases c1 with c1|c1
    ·rw[cp] at c1;cases c1
    ·exact c1
   have e8:(m.err !=0)=true:=bne_iff_ne.2 c2.1;have e9:(m.last !=0)=true:=bne_iff_ne.2 c2.2;clear hW0 hv hl hn hm c1 cp c2;go_enter Tryz.func66,Tryz.ntmps66;show Code.wp pQ (ai 0 (ae Tryz.f66)) _ _ _
   refine aC (k':=1) λK hK=>?_
   conv in aD _=>whnf
   go_wp2;rw[←HW.out];simp only[ai,ae,Tryz.f66];go_wp2_with (first|(refine bj (l:=[I J m.kind,I J m.ev.kind,I J m.ev.a,I J m.ev.b,I J m.ev.n,V m.ev.s,V m.ev.t,V m.ev.u,I J m.err,I J m.last,I J m.snap,I J m.st.clock,U fo.1 m.st.fols.length fo.2,U fe.1 m.st.fees.length fe.2,U it.1 m.st.itms.length it.2,U se.1 m.st.seas.length se.2,I J m.st.tFol,I J m.st.tFee,I J m.st.tItm,I J m.st.tSea]) HBm.out rfl _ rfl rfl rfl ?_)|(go_at_call 67;refine(KP.out _ bI.out).mono ?_;rintro e w1 ⟨rfl,hf⟩;have Y1:Hid (aa ag W0 w1):=hf;have HM1:=h_ (HBm.out.frm hf id);obtain⟨m1,m2,m3,m4,m5,m6,m7,m8,m9⟩:=mZ HM1.out;clear hf)|fail);go_ret;exact gD (bI.out.trans Y1.out)
theorem D5(hv:aF w G 7 vw d.all.length (d.all.flatMap Ev.cells))(hl:d.last≤d.all.length)(hn:d.all.length≤10000)(hm:jE w Gm fo fe it se ts m):
  Calls pQ 66 #[.agg #[I J d.mode,U vw.1 d.all.length vw.2,I J d.last,I J d.sure,I J d.snap],.agg #[I J m.kind,I J m.ev.kind,I J m.ev.a,I J m.ev.b,I J m.ev.n,V m.ev.s,V m.ev.t,V m.ev.u,I J m.err,I J m.last,I J m.snap,I J m.st.clock,U fo.1 m.st.fols.length fo.2,U fe.1 m.st.fees.length fe.2,U it.1 m.st.itms.length it.2,U se.1 m.st.seas.length se.2,I J m.st.tFol,I J m.st.tFee,I J m.st.tItm,I J m.st.tSea]] w (bJ w G (iB d m)):=by
 obtain⟨W0,hW0⟩:∃W0,W0=(w.alloc (.cells #[I J d.mode,U vw.1 d.all.length vw.2,I J d.last,I J d.sure,I J d.snap] 74)).alloc (.cells #[I J m.kind,I J m.ev.kind,I J m.ev.a,I J m.ev.b,I J m.ev.n,V m.ev.s,V m.ev.t,V m.ev.u,I J m.err,I J m.last,I J m.snap,I J m.st.clock,U fo.1 m.st.fols.length fo.2,U fe.1 m.st.fees.length fe.2,U it.1 m.st.itms.length it.2,U se.1 m.st.seas.length se.2,I J m.st.tFol,I J m.st.tFee,I J m.st.tItm,I J m.st.tSea] 44):=⟨_,rfl⟩;have bI:Hid (aa ag w W0):=by unfold Hid;rw[hW0];exact((fR w).alloc _).alloc _
 have HBw:Hid (aj W0 w.heap.size 74 #[I J d.mode,U vw.1 d.all.length vw.2,I J d.last,I J d.sure,I J d.snap]):=by unfold Hid;rw[hW0];exact(aj.new w _ _).alloc _
 have HBm:Hid (aj W0 (w.heap.size+1) 44 #[I J m.kind,I J m.ev.kind,I J m.ev.a,I J m.ev.b,I J m.ev.n,V m.ev.s,V m.ev.t,V m.ev.u,I J m.err,I J m.last,I J m.snap,I J m.st.clock,U fo.1 m.st.fols.length fo.2,U fe.1 m.st.fees.length fe.2,U it.1 m.st.itms.length it.2,U se.1 m.st.seas.length se.2,I J m.st.tFol,I J m.st.tFee,I J m.st.tItm,I J m.st.tSea]):=by
  unfold Hid;rw[hW0];have q:=aj.new (w.alloc (.cells #[I J d.mode,U vw.1 d.all.length vw.2,I J d.last,I J d.sure,I J d.snap] 74)) 44 #[I J m.kind,I J m.ev.kind,I J m.ev.a,I J m.ev.b,I J m.ev.n,V m.ev.s,V m.ev.t,V m.ev.u,I J m.err,I J m.last,I J m.snap,I J m.st.clock,U fo.1 m.st.fols.length fo.2,U fe.1 m.st.fees.length fe.2,U it.1 m.st.itms.length it.2,U se.1 m.st.seas.length se.2,I J m.st.tFol,I J m.st.tFee,I J m.st.tItm,I J m.st.tSea];rw[show (w.alloc (.cells #[I J d.mode,U vw.1 d.all.length vw.2,I J d.last,I J d.sure,I J d.snap] 74)).heap.size=w.heap.size+1 by simp] at q;exact q
 have HW:=h_ hW0;have HV:Hid (∀W,aa ag w W→aF W (λk=>G k∨w.heap.size≤k) 7 vw d.all.length (d.all.flatMap Ev.cells)):=λW hW=>(hv.nix hW).mono λ_=>.inl
 have HV0:Hid (∀W,aa ag w W→aF W G 7 vw d.all.length (d.all.flatMap Ev.cells)):=λW hW=>hv.nix hW
 have I6:Hid (W0.heap.size=w.heap.size+2):=by unfold Hid;rw[hW0];simp
 have HMC:Hid (∀F W,¬F (w.heap.size+1)→aa F W0 W→W.cell? ⟨w.heap.size+1,8,none⟩=some (I J m.err)∧W.cell? ⟨w.heap.size+1,9,none⟩=some (I J m.last)∧W.cell? ⟨w.heap.size+1,10,none⟩=some (I J m.snap)):=λF W hn hW=>by
  have q:=HBm.out.frm hW hn;exact⟨(q.cell 8).trans rfl,(q.cell 9).trans rfl,(q.cell 10).trans rfl⟩
 by_cases c1:aN m=false∨(m.err≠0∧m.last≠0)
 ·exact F8 hv hl hn hm c1
 have HVv:=h_ hv;have HMm:=h_ hm;have HLl:=h_ hl;have HNn:=h_ hn;clear hW0 hv hl hn hm;go_enter Tryz.func66,Tryz.ntmps66;show Code.wp pQ (ai 0 (ae Tryz.f66)) _ _ _
 refine aC (k':=1) λK hK=>?_
 conv in aD _=>whnf
 go_wp2;rw[←HW.out];refine aC (k':=2) λK hK=>?_
 have e2:aD (ai 1 (ae Tryz.f66))=.block 0 (bM (aD (ai 1 (ae Tryz.f66)))):=by kernel_rfl
 rw[e2];clear e2;refine wp_block ?_;refine O7 HBw.out HBm.out bI.out c1 HMm.out ?_;intro y5 y6 y7 y8 y9 Sx UM UN UO UQ UR UT Vt Vu W1 h1;refine O8 (HBw.out.frm h1 id) (HBm.out.frm h1 id) (bI.out.trans h1) c1 HVv.out ?_;intro c2 y19 UU UV UW;refine O9 (HBw.out.frm h1 id) (HBm.out.frm h1 id) (bI.out.trans h1) c1 HVv.out c2 ?_;intro c3 UX y29 UY UZ U0 W2 h2;have LD:=h1.trans h2;refine Ni (HBw.out.frm LD id) (HBm.out.frm LD id) (bI.out.trans LD) c1 HVv.out HLl.out HNn.out c2 c3 ?_;intro c4 U1 y39 y40 y41 y42 y43 y44 W3 h3;have RG:=LD.trans h3;refine hK _ _ ?_;exact Nj (HBw.out.frm RG id) (HBm.out.frm RG id) (by omega) (bI.out.trans RG) HVv.out HLl.out HNn.out c1 c2 c3 c4
theorem wY(h:aj W b 44 #[I J m.kind,I J m.ev.kind,I J m.ev.a,I J m.ev.b,I J m.ev.n,V m.ev.s,V m.ev.t,V m.ev.u,I J m.err,I J m.last,I J m.snap,I J m.st.clock,U fo.1 m.st.fols.length fo.2,U fe.1 m.st.fees.length fe.2,U it.1 m.st.itms.length it.2,U se.1 m.st.seas.length se.2,I J m.st.tFol,I J m.st.tFee,I J m.st.tItm,I J m.st.tSea]):W.cell? ⟨b,8,none⟩=some (I J m.err)∧W.cell? ⟨b,9,none⟩=some (I J m.last)∧W.cell? ⟨b,10,none⟩=some (I J m.snap):=
 ⟨(h.cell 8).trans rfl,(h.cell 9).trans rfl,(h.cell 10).trans rfl⟩
theorem Pc(h:aj W b 44 #[I J m.kind,I J m.ev.kind,I J m.ev.a,I J m.ev.b,I J m.ev.n,V m.ev.s,V m.ev.t,V m.ev.u,I J m.err,I J m.last,I J m.snap,I J m.st.clock,U fo.1 m.st.fols.length fo.2,U fe.1 m.st.fees.length fe.2,U it.1 m.st.itms.length it.2,U se.1 m.st.seas.length se.2,I J m.st.tFol,I J m.st.tFee,I J m.st.tItm,I J m.st.tSea]):W.cell? ⟨b,11,none⟩=some (I J m.st.clock)∧W.cell? ⟨b,12,none⟩=some (U fo.1 m.st.fols.length fo.2)∧W.cell? ⟨b,13,none⟩=some (U fe.1 m.st.fees.length fe.2)∧W.cell? ⟨b,14,none⟩=some (U it.1 m.st.itms.length it.2)∧W.cell? ⟨b,15,none⟩=some (U se.1 m.st.seas.length se.2)∧W.cell? ⟨b,16,none⟩=some (I J m.st.tFol)∧W.cell? ⟨b,17,none⟩=some (I J m.st.tFee)∧W.cell? ⟨b,18,none⟩=some (I J m.st.tItm)∧W.cell? ⟨b,19,none⟩=some (I J m.st.tSea):=
 ⟨(h.cell 11).trans rfl,(h.cell 12).trans rfl,(h.cell 13).trans rfl,(h.cell 14).trans rfl,(h.cell 15).trans rfl,(h.cell 16).trans rfl,(h.cell 17).trans rfl,(h.cell 18).trans rfl,(h.cell 19).trans rfl⟩
theorem Pd(hb:aj W w.heap.size 74 #[I J d.mode,U vw.1 d.all.length vw.2,I J d.last,I J d.sure,I J d.snap])(hmb:aj W bm 44 #[I J m.kind,I J m.ev.kind,I J m.ev.a,I J m.ev.b,I J m.ev.n,V m.ev.s,V m.ev.t,V m.ev.u,I J m.err,I J m.last,I J m.snap,I J m.st.clock,U fo.1 m.st.fols.length fo.2,U fe.1 m.st.fees.length fe.2,U it.1 m.st.itms.length it.2,U se.1 m.st.seas.length se.2,I J m.st.tFol,I J m.st.tFee,I J m.st.tItm,I J m.st.tSea])(hne:bm≠w.heap.size)(hF:aa ag w W)(hv:aF w G 7 vw d.all.length (d.all.flatMap Ev.cells))(hm:jE w Gm fo fe it se ts m)(hN:¬(m.err=30∧m.last=0∧aN m=true)→∀(z5 z6 z7 z8 z9 zl ye Lt yf Bt Oo Oq:Value) (W':World),aa ag W W'→K ⟨#[u0,u1,O (some ⟨w.heap.size,0,none⟩),O (some ⟨bm,0,none⟩),u4,z5,z6,z7,z8,z9,zl,ye,Lt,yf,Bt,Oo,Oq,cG,cH,cI,cR,cS,cT,u23,u24,cN,u26,dc,u28,dm,dp,dr,u32,u33,df,dg,u36,dt,u38,dB,dC,dO,dP,dQ,u44,u45,dI,dJ,dK,dL,dD,dE,dF,dR,dS,dT,dM,dG,dH,dw,dx,dy,dz,dA,u64,dh,di,dl,cU,cX],[]⟩ W'):
  Code.wp pQ (aD (ai 1 (ae Tryz.f70))) (Exit.then K (bodyPost pQ Tryz.f70 (bJ w G (gm d m)))) ⟨#[u0,u1,O (some ⟨w.heap.size,0,none⟩),O (some ⟨bm,0,none⟩),u4,u5,u6,u7,u8,u9,u10,u11,u12,u13,u14,u15,u16,cG,cH,cI,cR,cS,cT,u23,u24,cN,u26,dc,u28,dm,dp,dr,u32,u33,df,dg,u36,dt,u38,dB,dC,dO,dP,dQ,u44,u45,dI,dJ,dK,dL,dD,dE,dF,dR,dS,dT,dM,dG,dH,dw,dx,dy,dz,dA,u64,dh,di,dl,cU,cX],[]⟩ W:=by
 have HB:=h_ hb;have HM:=h_ hmb;have HF:=h_ hF;have HVv:=h_ hv;have HMm:=h_ hm;obtain⟨m8,m9,m10⟩:=wY hmb;have HY0:Hid (aa ag W W):=aa.refl _ _;clear hb hmb hF hv hm;have e1:(aD (ai 1 (ae Tryz.f70)))=.seq (aD (aD (ai 1 (ae Tryz.f70)))) (.cond (.tmp 16) (bH (ap (aD (ai 1 (ae Tryz.f70))))) .skip):=by kernel_rfl
 rw[e1];clear e1;refine wp_seq_k λK2 hK=>?_
 conv in aD (aD _)=>whnf
 by_cases h30:m.err=30
 ·have k30:(m.err==30)=true:=beq_iff_eq.2 h30
  by_cases h0:m.last=0
  ·have k0:(m.last==0)=true:=beq_iff_eq.2 h0
   cases cp:aN m with
   | true=>
     have KP:Hid (∀W,aa ag w W→Calls pQ 67 #[.agg #[I J m.kind,I J m.ev.kind,I J m.ev.a,I J m.ev.b,I J m.ev.n,V m.ev.s,V m.ev.t,V m.ev.u,I J m.err,I J m.last,I J m.snap,I J m.st.clock,U fo.1 m.st.fols.length fo.2,U fe.1 m.st.fees.length fe.2,U it.1 m.st.itms.length it.2,U se.1 m.st.seas.length se.2,I J m.st.tFol,I J m.st.tFee,I J m.st.tItm,I J m.st.tSea]] W λe w'=>e=.returned (.bool true)∧aa ag W w'):=λW hW=>by
      have q:=d7 (HMm.out.nix hW);rw[cp] at q;exact q
     have HE:Hid (gm d m=[⟨3,d.all,d.last,d.sure,d.snap⟩]):=by unfold Hid gm;rw[if_pos ⟨h30,h0,cp⟩]
     clear hN h30 h0 cp;go_wp2_with (first|(refine bj (l:=[I J m.kind,I J m.ev.kind,I J m.ev.a,I J m.ev.b,I J m.ev.n,V m.ev.s,V m.ev.t,V m.ev.u,I J m.err,I J m.last,I J m.snap,I J m.st.clock,U fo.1 m.st.fols.length fo.2,U fe.1 m.st.fees.length fe.2,U it.1 m.st.itms.length it.2,U se.1 m.st.seas.length se.2,I J m.st.tFol,I J m.st.tFee,I J m.st.tItm,I J m.st.tSea]) HM.out rfl _ rfl rfl rfl ?_)|(go_at_call 67;refine(KP.out _ HF.out).mono ?_;rintro e w1 ⟨rfl,hf⟩;have Y1:Hid (aa ag W w1):=hf;have bT:=h_ (HB.out.frm hf id);obtain⟨b0,b1,b2,b3,b4⟩:=bP bT.out;have f0:=bT.out.frozen 0;have hlt:=bT.out.lt;clear hf)|fail);simp only[bH,ap,aT,bM,aD,ai,ae,Tryz.f70];go_wp2;go_ret;rw[HE.out];have uY:Hid (aa ag w w1):=HF.out.trans Y1.out;have pG:Hid (aa ag w (w1.setCell ⟨w.heap.size,0,none⟩ (I J 3))):=uY.out.setCell (.inr (Nat.le_refl _)) _
     exact B8 (b:=w1.heap.size) (d:=⟨3,d.all,d.last,d.sure,d.snap⟩) (by simp) pG.out ((HVv.out.nix pG.out).mono λ_=>.inl)
   | false=>
     have KP:Hid (∀W,aa ag w W→Calls pQ 67 #[.agg #[I J m.kind,I J m.ev.kind,I J m.ev.a,I J m.ev.b,I J m.ev.n,V m.ev.s,V m.ev.t,V m.ev.u,I J m.err,I J m.last,I J m.snap,I J m.st.clock,U fo.1 m.st.fols.length fo.2,U fe.1 m.st.fees.length fe.2,U it.1 m.st.itms.length it.2,U se.1 m.st.seas.length se.2,I J m.st.tFol,I J m.st.tFee,I J m.st.tItm,I J m.st.tSea]] W λe w'=>e=.returned (.bool false)∧aa ag W w'):=λW hW=>by
      have q:=d7 (HMm.out.nix hW);rw[cp] at q;exact q
     have HN:=h_ (hN λe=>by rw[cp] at e;exact absurd e.2.2 (by simp));clear hN h30 h0 cp;go_wp2_with (first|(refine bj (l:=[I J m.kind,I J m.ev.kind,I J m.ev.a,I J m.ev.b,I J m.ev.n,V m.ev.s,V m.ev.t,V m.ev.u,I J m.err,I J m.last,I J m.snap,I J m.st.clock,U fo.1 m.st.fols.length fo.2,U fe.1 m.st.fees.length fe.2,U it.1 m.st.itms.length it.2,U se.1 m.st.seas.length se.2,I J m.st.tFol,I J m.st.tFee,I J m.st.tItm,I J m.st.tSea]) HM.out rfl _ rfl rfl rfl ?_)|(go_at_call 67;refine(KP.out _ HF.out).mono ?_;rintro e w1 ⟨rfl,hf⟩;have Y1:Hid (aa ag W w1):=hf;have bT:=h_ (HB.out.frm hf id);obtain⟨b0,b1,b2,b3,b4⟩:=bP bT.out;have f0:=bT.out.frozen 0;have hlt:=bT.out.lt;clear hf)|fail);exact HN.out _ _ _ _ _ _ _ _ _ _ _ _ _ Y1.out
  ·have k0:(m.last==0)=false:=beq_eq_false_iff_ne.2 h0
   have HN:=h_ (hN λe=>h0 e.2.1);clear hN h30 h0;go_wp2;exact HN.out _ _ _ _ _ _ _ _ _ _ _ _ _ HY0.out
 ·have k30:(m.err==30)=false:=beq_eq_false_iff_ne.2 h30
  have HN:=h_ (hN λe=>h30 e.1);clear hN h30;go_wp2;exact HN.out _ _ _ _ _ _ _ _ _ _ _ _ _ HY0.out
theorem Pe(hb:aj W w.heap.size 74 #[I J d.mode,U vw.1 d.all.length vw.2,I J d.last,I J d.sure,I J d.snap])(hmb:aj W bm 44 #[I J m.kind,I J m.ev.kind,I J m.ev.a,I J m.ev.b,I J m.ev.n,V m.ev.s,V m.ev.t,V m.ev.u,I J m.err,I J m.last,I J m.snap,I J m.st.clock,U fo.1 m.st.fols.length fo.2,U fe.1 m.st.fees.length fe.2,U it.1 m.st.itms.length it.2,U se.1 m.st.seas.length se.2,I J m.st.tFol,I J m.st.tFee,I J m.st.tItm,I J m.st.tSea])(hne:bm≠w.heap.size)(hF:aa ag w W)(hv:aF w G 7 vw d.all.length (d.all.flatMap Ev.cells))(hm:jE w Gm fo fe it se ts m)(c1:¬(m.err=30∧m.last=0∧aN m=true))(g1:¬m.err=0):
  Code.wp pQ (aD (ai 2 (ae Tryz.f70))) (Exit.then K (bodyPost pQ Tryz.f70 (bJ w G (gm d m)))) ⟨#[u0,u1,O (some ⟨w.heap.size,0,none⟩),O (some ⟨bm,0,none⟩),u4,u5,u6,u7,u8,u9,u10,u11,u12,u13,u14,u15,u16,cG,cH,cI,cR,cS,cT,u23,u24,cN,u26,dc,u28,dm,dp,dr,u32,u33,df,dg,u36,dt,u38,dB,dC,dO,dP,dQ,u44,u45,dI,dJ,dK,dL,dD,dE,dF,dR,dS,dT,dM,dG,dH,dw,dx,dy,dz,dA,u64,dh,di,dl,cU,cX],[]⟩ W:=by
 have zb:=λy:FW (aa ag W)=>bP (hb.frm y.h id)
 have zm:=λy:FW (aa ag W)=>wY (hmb.frm y.h id)
 have zk:=λy:FW (aa ag W)=>(show y.w.cell? ⟨bm,0,none⟩=some (I J m.kind) from ((hmb.frm y.h id).cell 0).trans rfl)
 have HF:=h_ hF;have k1:(m.err !=0)=true:=bne_iff_ne.2 g1;have HE:Hid (gm d m=[]):=by unfold Hid gm;rw[if_neg c1,if_pos];exact .inl g1
 clear hb hmb hF hv hm c1 g1;have e1:(aD (ai 2 (ae Tryz.f70)))=.seq (aD (aD (ai 2 (ae Tryz.f70)))) (.cond (.tmp 56) (bH (ap (aD (ai 2 (ae Tryz.f70))))) .skip):=by kernel_rfl
 rw[e1];clear e1;refine wp_seq_k λK2 hK=>?_
 conv in aD (aD _)=>whnf
 go_wp2_with fail;refine ak (aa ag W) ((fR W).drew) (by kernel_rfl) (by kernel_rfl) ?_
 repeat (go_big_quiet_step (fail))
 refine wpQuiet_nil ?_;rintro w5 ⟨⟨_,rq⟩,rfl⟩;go_wp2;simp only[bH,ap,aT,bM,aD,ai,ae,Tryz.f70];go_wp2;go_ret;rw[HE.out];exact gD (HF.out.trans rq)
theorem Pg(hb:aj W w.heap.size 74 #[I J d.mode,U vw.1 d.all.length vw.2,I J d.last,I J d.sure,I J d.snap])(hmb:aj W bm 44 #[I J m.kind,I J m.ev.kind,I J m.ev.a,I J m.ev.b,I J m.ev.n,V m.ev.s,V m.ev.t,V m.ev.u,I J m.err,I J m.last,I J m.snap,I J m.st.clock,U fo.1 m.st.fols.length fo.2,U fe.1 m.st.fees.length fe.2,U it.1 m.st.itms.length it.2,U se.1 m.st.seas.length se.2,I J m.st.tFol,I J m.st.tFee,I J m.st.tItm,I J m.st.tSea])(hne:bm≠w.heap.size)(hF:aa ag w W)(hv:aF w G 7 vw d.all.length (d.all.flatMap Ev.cells))(hm:jE w Gm fo fe it se ts m)(c1:¬(m.err=30∧m.last=0∧aN m=true))(g1:m.err=0)(g2:m.last<d.sure):
  Code.wp pQ (aD (ai 2 (ae Tryz.f70))) (Exit.then K (bodyPost pQ Tryz.f70 (bJ w G (gm d m)))) ⟨#[u0,u1,O (some ⟨w.heap.size,0,none⟩),O (some ⟨bm,0,none⟩),u4,u5,u6,u7,u8,u9,u10,u11,u12,u13,u14,u15,u16,cG,cH,cI,cR,cS,cT,u23,u24,cN,u26,dc,u28,dm,dp,dr,u32,u33,df,dg,u36,dt,u38,dB,dC,dO,dP,dQ,u44,u45,dI,dJ,dK,dL,dD,dE,dF,dR,dS,dT,dM,dG,dH,dw,dx,dy,dz,dA,u64,dh,di,dl,cU,cX],[]⟩ W:=by
 have zb:=λy:FW (aa ag W)=>bP (hb.frm y.h id)
 have zm:=λy:FW (aa ag W)=>wY (hmb.frm y.h id)
 have zk:=λy:FW (aa ag W)=>(show y.w.cell? ⟨bm,0,none⟩=some (I J m.kind) from ((hmb.frm y.h id).cell 0).trans rfl)
 have HF:=h_ hF;have k1:(m.err !=0)=false:=by simp[g1]
 have k2:decide (m.last<d.sure)=true:=decide_eq_true g2;have HE:Hid (gm d m=[]):=by unfold Hid gm;rw[if_neg c1,if_pos];exact .inr (.inl g2)
 clear hb hmb hF hv hm c1 g1 g2;have e1:(aD (ai 2 (ae Tryz.f70)))=.seq (aD (aD (ai 2 (ae Tryz.f70)))) (.cond (.tmp 56) (bH (ap (aD (ai 2 (ae Tryz.f70))))) .skip):=by kernel_rfl
 rw[e1];clear e1;refine wp_seq_k λK2 hK=>?_
 conv in aD (aD _)=>whnf
 go_wp2_with fail;refine ak (aa ag W) ((fR W).drew) (by kernel_rfl) (by kernel_rfl) ?_
 repeat (go_big_quiet_step (fail))
 refine wpQuiet_nil ?_;rintro w5 ⟨⟨_,rq⟩,rfl⟩;go_wp2;simp only[bH,ap,aT,bM,aD,ai,ae,Tryz.f70];go_wp2;go_ret;rw[HE.out];exact gD (HF.out.trans rq)
theorem Ph(hb:aj W w.heap.size 74 #[I J d.mode,U vw.1 d.all.length vw.2,I J d.last,I J d.sure,I J d.snap])(hmb:aj W bm 44 #[I J m.kind,I J m.ev.kind,I J m.ev.a,I J m.ev.b,I J m.ev.n,V m.ev.s,V m.ev.t,V m.ev.u,I J m.err,I J m.last,I J m.snap,I J m.st.clock,U fo.1 m.st.fols.length fo.2,U fe.1 m.st.fees.length fe.2,U it.1 m.st.itms.length it.2,U se.1 m.st.seas.length se.2,I J m.st.tFol,I J m.st.tFee,I J m.st.tItm,I J m.st.tSea])(hne:bm≠w.heap.size)(hF:aa ag w W)(hv:aF w G 7 vw d.all.length (d.all.flatMap Ev.cells))(hm:jE w Gm fo fe it se ts m)(c1:¬(m.err=30∧m.last=0∧aN m=true))(g1:m.err=0)(g2:¬m.last<d.sure)(g3:(d.all.length:Int)<m.last):
  Code.wp pQ (aD (ai 2 (ae Tryz.f70))) (Exit.then K (bodyPost pQ Tryz.f70 (bJ w G (gm d m)))) ⟨#[u0,u1,O (some ⟨w.heap.size,0,none⟩),O (some ⟨bm,0,none⟩),u4,u5,u6,u7,u8,u9,u10,u11,u12,u13,u14,u15,u16,cG,cH,cI,cR,cS,cT,u23,u24,cN,u26,dc,u28,dm,dp,dr,u32,u33,df,dg,u36,dt,u38,dB,dC,dO,dP,dQ,u44,u45,dI,dJ,dK,dL,dD,dE,dF,dR,dS,dT,dM,dG,dH,dw,dx,dy,dz,dA,u64,dh,di,dl,cU,cX],[]⟩ W:=by
 have zb:=λy:FW (aa ag W)=>bP (hb.frm y.h id)
 have zm:=λy:FW (aa ag W)=>wY (hmb.frm y.h id)
 have zk:=λy:FW (aa ag W)=>(show y.w.cell? ⟨bm,0,none⟩=some (I J m.kind) from ((hmb.frm y.h id).cell 0).trans rfl)
 have HF:=h_ hF;have k1:(m.err !=0)=false:=by simp[g1]
 have k2:decide (m.last<d.sure)=false:=decide_eq_false g2;have k3:decide ((d.all.length:Int)<m.last)=true:=decide_eq_true g3;have HE:Hid (gm d m=[]):=by unfold Hid gm;rw[if_neg c1,if_pos];exact .inr (.inr (.inl g3))
 clear hb hmb hF hv hm c1 g1 g2 g3;have e1:(aD (ai 2 (ae Tryz.f70)))=.seq (aD (aD (ai 2 (ae Tryz.f70)))) (.cond (.tmp 56) (bH (ap (aD (ai 2 (ae Tryz.f70))))) .skip):=by kernel_rfl
 rw[e1];clear e1;refine wp_seq_k λK2 hK=>?_
 conv in aD (aD _)=>whnf
 go_wp2_with fail;refine ak (aa ag W) ((fR W).drew) (by kernel_rfl) (by kernel_rfl) ?_
 repeat (go_big_quiet_step (fail))
 refine wpQuiet_nil ?_;rintro w5 ⟨⟨_,rq⟩,rfl⟩;go_wp2;simp only[bH,ap,aT,bM,aD,ai,ae,Tryz.f70];go_wp2;go_ret;rw[HE.out];exact gD (HF.out.trans rq)
theorem Pi(hb:aj W w.heap.size 74 #[I J d.mode,U vw.1 d.all.length vw.2,I J d.last,I J d.sure,I J d.snap])(hmb:aj W bm 44 #[I J m.kind,I J m.ev.kind,I J m.ev.a,I J m.ev.b,I J m.ev.n,V m.ev.s,V m.ev.t,V m.ev.u,I J m.err,I J m.last,I J m.snap,I J m.st.clock,U fo.1 m.st.fols.length fo.2,U fe.1 m.st.fees.length fe.2,U it.1 m.st.itms.length it.2,U se.1 m.st.seas.length se.2,I J m.st.tFol,I J m.st.tFee,I J m.st.tItm,I J m.st.tSea])(hne:bm≠w.heap.size)(hF:aa ag w W)(hv:aF w G 7 vw d.all.length (d.all.flatMap Ev.cells))(hm:jE w Gm fo fe it se ts m)(c1:¬(m.err=30∧m.last=0∧aN m=true))(g1:m.err=0)(g2:¬m.last<d.sure)(g3:¬(d.all.length:Int)<m.last)(g4:¬m.snap=d.snap):
  Code.wp pQ (aD (ai 2 (ae Tryz.f70))) (Exit.then K (bodyPost pQ Tryz.f70 (bJ w G (gm d m)))) ⟨#[u0,u1,O (some ⟨w.heap.size,0,none⟩),O (some ⟨bm,0,none⟩),u4,u5,u6,u7,u8,u9,u10,u11,u12,u13,u14,u15,u16,cG,cH,cI,cR,cS,cT,u23,u24,cN,u26,dc,u28,dm,dp,dr,u32,u33,df,dg,u36,dt,u38,dB,dC,dO,dP,dQ,u44,u45,dI,dJ,dK,dL,dD,dE,dF,dR,dS,dT,dM,dG,dH,dw,dx,dy,dz,dA,u64,dh,di,dl,cU,cX],[]⟩ W:=by
 have zb:=λy:FW (aa ag W)=>bP (hb.frm y.h id)
 have zm:=λy:FW (aa ag W)=>wY (hmb.frm y.h id)
 have zk:=λy:FW (aa ag W)=>(show y.w.cell? ⟨bm,0,none⟩=some (I J m.kind) from ((hmb.frm y.h id).cell 0).trans rfl)
 have HF:=h_ hF;have k1:(m.err !=0)=false:=by simp[g1]
 have k2:decide (m.last<d.sure)=false:=decide_eq_false g2;have k3:decide ((d.all.length:Int)<m.last)=false:=decide_eq_false g3;have k4:(m.snap !=d.snap)=true:=bne_iff_ne.2 g4;have HE:Hid (gm d m=[]):=by unfold Hid gm;rw[if_neg c1,if_pos];exact .inr (.inr (.inr (.inl g4)))
 clear hb hmb hF hv hm c1 g1 g2 g3 g4;have e1:(aD (ai 2 (ae Tryz.f70)))=.seq (aD (aD (ai 2 (ae Tryz.f70)))) (.cond (.tmp 56) (bH (ap (aD (ai 2 (ae Tryz.f70))))) .skip):=by kernel_rfl
 rw[e1];clear e1;refine wp_seq_k λK2 hK=>?_
 conv in aD (aD _)=>whnf
 go_wp2_with fail;refine ak (aa ag W) ((fR W).drew) (by kernel_rfl) (by kernel_rfl) ?_
 repeat (go_big_quiet_step (fail))
 refine wpQuiet_nil ?_;rintro w5 ⟨⟨_,rq⟩,rfl⟩;go_wp2;simp only[bH,ap,aT,bM,aD,ai,ae,Tryz.f70];go_wp2;go_ret;rw[HE.out];exact gD (HF.out.trans rq)
theorem Nk(hb:aj W w.heap.size 74 #[I J d.mode,U vw.1 d.all.length vw.2,I J d.last,I J d.sure,I J d.snap])(hmb:aj W bm 44 #[I J m.kind,I J m.ev.kind,I J m.ev.a,I J m.ev.b,I J m.ev.n,V m.ev.s,V m.ev.t,V m.ev.u,I J m.err,I J m.last,I J m.snap,I J m.st.clock,U fo.1 m.st.fols.length fo.2,U fe.1 m.st.fees.length fe.2,U it.1 m.st.itms.length it.2,U se.1 m.st.seas.length se.2,I J m.st.tFol,I J m.st.tFee,I J m.st.tItm,I J m.st.tSea])(hne:bm≠w.heap.size)(hF:aa ag w W)(hv:aF w G 7 vw d.all.length (d.all.flatMap Ev.cells))(hm:jE w Gm fo fe it se ts m)(c1:¬(m.err=30∧m.last=0∧aN m=true))(g1:m.err=0)(g2:¬m.last<d.sure)(g3:¬(d.all.length:Int)<m.last)(g4:m.snap=d.snap)(q:Nat)(hq:m.last=(q:Int))(hn:d.all.length≤10000)(hN:m.st=bG iV (d.all.take q)→∀(Gr z21 z22 z23 z24 z25 z26 z27 z28 IW Dg z31 z32 z33 Fp z35 z36 z37 Dh z39 z40 z41 xt xu z44 zh z46 zi zj z49 z50 z51 z52 z53 z54 z55 z56:Value) (W':World),aa ag W W'→K ⟨#[u0,u1,O (some ⟨w.heap.size,0,none⟩),O (some ⟨bm,0,none⟩),u4,u5,u6,u7,u8,u9,u10,u11,u12,u13,u14,u15,u16,cG,cH,cI,Gr,z21,z22,z23,z24,z25,z26,z27,z28,IW,Dg,z31,z32,z33,Fp,z35,z36,z37,Dh,z39,z40,z41,xt,xu,z44,zh,z46,zi,zj,z49,z50,z51,z52,z53,z54,z55,z56,dG,dH,dw,dx,dy,dz,dA,u64,dh,di,dl,cU,cX],[]⟩ W'):
  Code.wp pQ (aD (ai 2 (ae Tryz.f70))) (Exit.then K (bodyPost pQ Tryz.f70 (bJ w G (gm d m)))) ⟨#[u0,u1,O (some ⟨w.heap.size,0,none⟩),O (some ⟨bm,0,none⟩),u4,u5,u6,u7,u8,u9,u10,u11,u12,u13,u14,u15,u16,cG,cH,cI,cR,cS,cT,u23,u24,cN,u26,dc,u28,dm,dp,dr,u32,u33,df,dg,u36,dt,u38,dB,dC,dO,dP,dQ,u44,u45,dI,dJ,dK,dL,dD,dE,dF,dR,dS,dT,dM,dG,dH,dw,dx,dy,dz,dA,u64,dh,di,dl,cU,cX],[]⟩ W:=by
 obtain⟨A,c⟩:=vw;have E4:q≤d.all.length:=by omega
 have k1:(m.err !=0)=false:=by simp[g1]
 have k2:decide ((q:Int)<d.sure)=false:=decide_eq_false (by rw[←hq];exact g2);have k3:decide ((d.all.length:Int)<(q:Int))=false:=decide_eq_false (by omega);have k3n:decide (d.all.length<q)=false:=decide_eq_false (by omega);have k4:(m.snap !=d.snap)=false:=by simp[g4]
 have HF:=h_ hF
 have HC:Hid (∀W1,aa ag W W1→W1.cell? ⟨w.heap.size,0,none⟩=some (I J d.mode)∧W1.cell? ⟨w.heap.size,1,none⟩=some (U A d.all.length c)∧W1.cell? ⟨w.heap.size,2,none⟩=some (I J d.last)∧W1.cell? ⟨w.heap.size,3,none⟩=some (I J d.sure)∧W1.cell? ⟨w.heap.size,4,none⟩=some (I J d.snap)∧W1.cell? ⟨bm,8,none⟩=some (I J m.err)∧W1.cell? ⟨bm,9,none⟩=some (I J ((q:Int)))∧W1.cell? ⟨bm,10,none⟩=some (I J m.snap)∧W1.cell? ⟨bm,11,none⟩=some (I J m.st.clock)∧W1.cell? ⟨bm,12,none⟩=some (U fo.1 m.st.fols.length fo.2)∧W1.cell? ⟨bm,13,none⟩=some (U fe.1 m.st.fees.length fe.2)∧W1.cell? ⟨bm,14,none⟩=some (U it.1 m.st.itms.length it.2)∧W1.cell? ⟨bm,15,none⟩=some (U se.1 m.st.seas.length se.2)∧W1.cell? ⟨bm,16,none⟩=some (I J m.st.tFol)∧W1.cell? ⟨bm,17,none⟩=some (I J m.st.tFee)∧W1.cell? ⟨bm,18,none⟩=some (I J m.st.tItm)∧W1.cell? ⟨bm,19,none⟩=some (I J m.st.tSea)):=λW1 hW=>by
  obtain⟨y0,y1,y2,y3,y4⟩:=bP (hb.frm hW id);obtain⟨z1,z2,z3⟩:=wY (hmb.frm hW id);obtain⟨x0,x1,x2,x3,x4,x5,x6,x7,x8⟩:=Pc (hmb.frm hW id);rw[hq] at z2;exact⟨y0,y1,y2,y3,y4,z1,z2,z3,x0,x1,x2,x3,x4,x5,x6,x7,x8⟩
 have cm:d.all.length≤c:=hv.cap;have hmx:c≤maxLen:=hv.max;have hnil:A=none→c=0:=hv.nil;obtain⟨y,hy⟩:∃y,bG iV (d.all.take q)=y:=⟨_,rfl⟩;have HYs:Hid (aP y):=by rw[←hy];exact(sZ _ ud).small
 have KF:Hid (∀W1,aa ag W W1→Calls pQ 15 #[U A q c] W1 λe w'=>∃(fo fe it se:Sl) (ts:List (Sl×aR)),e=.returned (.agg #[I J y.clock,U fo.1 y.fols.length fo.2,U fe.1 y.fees.length fe.2,U it.1 y.itms.length it.2,U se.1 y.seas.length se.2,I J y.tFol,I J y.tFee,I J y.tItm,I J y.tSea])∧aY w' (λk=>W1.heap.size≤k) fo fe it se ts y∧aa ag W1 w'):=λW1 hW=>by
  have p:=uL (v:=(A,c)) (d.all.take q) (EvsAll.first (hv.nix (hF.trans hW)) E4) (by rw[List.length_take];omega);rw[hy,List.length_take,Nat.min_eq_left E4] at p;exact p
 obtain⟨b,vp⟩:∃b,decide (m.st=y)=b:=⟨_,rfl⟩
 have KS:Hid (∀W1 fo' fe' it' se' ts' G',aa ag w W1→aY W1 G' fo' fe' it' se' ts' y→Calls pQ 16 #[.agg #[I J m.st.clock,U fo.1 m.st.fols.length fo.2,U fe.1 m.st.fees.length fe.2,U it.1 m.st.itms.length it.2,U se.1 m.st.seas.length se.2,I J m.st.tFol,I J m.st.tFee,I J m.st.tItm,I J m.st.tSea],.agg #[I J y.clock,U fo'.1 y.fols.length fo'.2,U fe'.1 y.fees.length fe'.2,U it'.1 y.itms.length it'.2,U se'.1 y.seas.length se'.2,I J y.tFol,I J y.tFee,I J y.tItm,I J y.tSea]] W1 λr w'=>r=.returned (.bool b)∧aa ag W1 w'):=λW1 fo' fe' it' se' ts' G' hW h'=>by
  have p:=uF (hm.st.nix hW) h' hm.small HYs.out;rw[vp] at p;exact p
 rw[hy] at hN;have wJ:(0:Int)≤(q:Int):=by omega
 have I5:(q:Int)≤(c:Int):=by omega
 have Il:(q:Int)≤(d.all.length:Int):=by omega
 have hi4:(d.all.length:Int)≤(c:Int):=by omega
 have HE:Hid (b=false→gm d m=[]):=λh=>by
  unfold gm;rw[if_neg c1,if_pos];refine .inr (.inr (.inr (.inr ?_)));rw[hq,Int.toNat_natCast,hy];rw[h] at vp;exact of_decide_eq_false vp
 have HN:Hid (b=true→∀(Gr z21 z22 z23 z24 z25 z26 z27 z28 IW Dg z31 z32 z33 Fp z35 z36 z37 Dh z39 z40 z41 xt xu z44 zh z46 zi zj z49 z50 z51 z52 z53 z54 z55 z56:Value) (W':World),aa ag W W'→K ⟨#[u0,u1,O (some ⟨w.heap.size,0,none⟩),O (some ⟨bm,0,none⟩),u4,u5,u6,u7,u8,u9,u10,u11,u12,u13,u14,u15,u16,cG,cH,cI,Gr,z21,z22,z23,z24,z25,z26,z27,z28,IW,Dg,z31,z32,z33,Fp,z35,z36,z37,Dh,z39,z40,z41,xt,xu,z44,zh,z46,zi,zj,z49,z50,z51,z52,z53,z54,z55,z56,dG,dH,dw,dx,dy,dz,dA,u64,dh,di,dl,cU,cX],[]⟩ W'):=λh=>hN (of_decide_eq_true (vp.trans h))
 clear hb hmb hF hv hm hq hy vp hN c1 g1 g2 g3 g4 HYs E4 hn;generalize d.all.length=na at *;have e1:(aD (ai 2 (ae Tryz.f70)))=.seq (aD (aD (ai 2 (ae Tryz.f70)))) (.cond (.tmp 56) (bH (ap (aD (ai 2 (ae Tryz.f70))))) .skip):=by kernel_rfl
 rw[e1];clear e1;refine wp_seq_k λK2 hK=>?_
 conv in aD (aD _)=>whnf
 cases b with
 | false=>
   have xa:=h_ (HE.out rfl);clear HE HN
   go_region_held3 (λW=>W.cell? ⟨w.heap.size,0,none⟩=some (I J d.mode)∧W.cell? ⟨w.heap.size,1,none⟩=some (U A na c)∧W.cell? ⟨w.heap.size,2,none⟩=some (I J d.last)∧W.cell? ⟨w.heap.size,3,none⟩=some (I J d.sure)∧W.cell? ⟨w.heap.size,4,none⟩=some (I J d.snap)∧W.cell? ⟨bm,8,none⟩=some (I J m.err)∧W.cell? ⟨bm,9,none⟩=some (I J ((q:Int)))∧W.cell? ⟨bm,10,none⟩=some (I J m.snap)∧W.cell? ⟨bm,11,none⟩=some (I J m.st.clock)∧W.cell? ⟨bm,12,none⟩=some (U fo.1 m.st.fols.length fo.2)∧W.cell? ⟨bm,13,none⟩=some (U fe.1 m.st.fees.length fe.2)∧W.cell? ⟨bm,14,none⟩=some (U it.1 m.st.itms.length it.2)∧W.cell? ⟨bm,15,none⟩=some (U se.1 m.st.seas.length se.2)∧W.cell? ⟨bm,16,none⟩=some (I J m.st.tFol)∧W.cell? ⟨bm,17,none⟩=some (I J m.st.tFee)∧W.cell? ⟨bm,18,none⟩=some (I J m.st.tItm)∧W.cell? ⟨bm,19,none⟩=some (I J m.st.tSea)) ((refine HC.out _ ?_;repeat' (first|with_reducible exact aa.refl _ _|with_reducible exact Yb.out|with_reducible exact Ya.out|with_reducible apply aa.drew)))
   (first
    | (go_at_call 16;have _q:=Ea;refine(KS.out _ _ _ _ _ _ _ (HF.out.trans Ya.out) Ea.out).mono ?_;rintro e wb ⟨rfl,hf⟩;have Yb:Hid (aa ag W wb):=Ya.out.trans hf;clear hf)
    | (go_at_call 15;refine(KF.out _ (fR _).drew).mono ?_;rintro e wa ⟨fo',fe',it',se',ts',rfl,hd,hf⟩;have Ea:=h_ hd;have Ya:Hid (aa ag W wa):=(fR _).drew.trans hf;clear hd hf))
   go_wp2;simp only[bH,ap,aT,bM,aD,ai,ae,Tryz.f70];go_wp2;go_ret;rw[xa.out]
   exact gD (HF.out.trans Yb.out)
 | true=>
   have HN2:=h_ (HN.out rfl);clear HE HN
   go_region_held3 (λW=>W.cell? ⟨w.heap.size,0,none⟩=some (I J d.mode)∧W.cell? ⟨w.heap.size,1,none⟩=some (U A na c)∧W.cell? ⟨w.heap.size,2,none⟩=some (I J d.last)∧W.cell? ⟨w.heap.size,3,none⟩=some (I J d.sure)∧W.cell? ⟨w.heap.size,4,none⟩=some (I J d.snap)∧W.cell? ⟨bm,8,none⟩=some (I J m.err)∧W.cell? ⟨bm,9,none⟩=some (I J ((q:Int)))∧W.cell? ⟨bm,10,none⟩=some (I J m.snap)∧W.cell? ⟨bm,11,none⟩=some (I J m.st.clock)∧W.cell? ⟨bm,12,none⟩=some (U fo.1 m.st.fols.length fo.2)∧W.cell? ⟨bm,13,none⟩=some (U fe.1 m.st.fees.length fe.2)∧W.cell? ⟨bm,14,none⟩=some (U it.1 m.st.itms.length it.2)∧W.cell? ⟨bm,15,none⟩=some (U se.1 m.st.seas.length se.2)∧W.cell? ⟨bm,16,none⟩=some (I J m.st.tFol)∧W.cell? ⟨bm,17,none⟩=some (I J m.st.tFee)∧W.cell? ⟨bm,18,none⟩=some (I J m.st.tItm)∧W.cell? ⟨bm,19,none⟩=some (I J m.st.tSea)) ((refine HC.out _ ?_;repeat' (first|with_reducible exact aa.refl _ _|with_reducible exact Yb.out|with_reducible exact Ya.out|with_reducible apply aa.drew)))
   (first
    | (go_at_call 16;have _q:=Ea;refine(KS.out _ _ _ _ _ _ _ (HF.out.trans Ya.out) Ea.out).mono ?_;rintro e wb ⟨rfl,hf⟩;have Yb:Hid (aa ag W wb):=Ya.out.trans hf;clear hf)
    | (go_at_call 15;refine(KF.out _ (fR _).drew).mono ?_;rintro e wa ⟨fo',fe',it',se',ts',rfl,hd,hf⟩;have Ea:=h_ hd;have Ya:Hid (aa ag W wa):=(fR _).drew.trans hf;clear hd hf))
   go_wp2;exact HN2.out _ _ _ _ _ _ _ _ _ _ _ _ _ _ _ _ _ _ _ _ _ _ _ _ _ _ _ _ _ _ _ _ _ _ _ _ _ _ Yb.out
theorem Pj(hb:aj W w.heap.size 74 #[I J d.mode,U vw.1 d.all.length vw.2,I J d.last,I J d.sure,I J d.snap])(hmb:aj W bm 44 #[I J m.kind,I J m.ev.kind,I J m.ev.a,I J m.ev.b,I J m.ev.n,V m.ev.s,V m.ev.t,V m.ev.u,I J m.err,I J m.last,I J m.snap,I J m.st.clock,U fo.1 m.st.fols.length fo.2,U fe.1 m.st.fees.length fe.2,U it.1 m.st.itms.length it.2,U se.1 m.st.seas.length se.2,I J m.st.tFol,I J m.st.tFee,I J m.st.tItm,I J m.st.tSea])(hne:bm≠w.heap.size)(hF:aa ag w W)(hv:aF w G 7 vw d.all.length (d.all.flatMap Ev.cells))(hm:jE w Gm fo fe it se ts m)(q:Nat)(hq:m.last=(q:Int))(E4:q≤d.all.length)(hn:d.all.length≤10000):
  Code.wp pQ (ai 3 (ae Tryz.f70)) (bodyPost pQ Tryz.f70 (bJ w G ([⟨1,d.all.take q,q,(q:Int),d.snap⟩]))) ⟨#[u0,u1,O (some ⟨w.heap.size,0,none⟩),O (some ⟨bm,0,none⟩),u4,u5,u6,u7,u8,u9,u10,u11,u12,u13,u14,u15,u16,cG,cH,cI,cR,cS,cT,u23,u24,cN,u26,dc,u28,dm,dp,dr,u32,u33,df,dg,u36,dt,u38,dB,dC,dO,dP,dQ,u44,u45,dI,dJ,dK,dL,dD,dE,dF,dR,dS,dT,dM,dG,dH,dw,dx,dy,dz,dA,u64,dh,di,dl,cU,cX],[]⟩ W:=by
 have HF:=h_ hF;obtain⟨A,c⟩:=vw;have cm:d.all.length≤c:=hv.cap;have hmx:c≤maxLen:=hv.max;have hnil:A=none→c=0:=hv.nil
 have HC:Hid (∀W1,aa ag W W1→W1.cell? ⟨w.heap.size,1,none⟩=some (U A d.all.length c)∧W1.cell? ⟨w.heap.size,4,none⟩=some (I J d.snap)∧W1.cell? ⟨bm,9,none⟩=some (I J (q:Int))):=λW1 hW=>by
  obtain⟨y0,y1,y2,y3,y4⟩:=bP (hb.frm hW id);obtain⟨z1,z2,z3⟩:=wY (hmb.frm hW id);rw[hq] at z2;exact⟨y1,y4,z2⟩
 have HS:Hid (∀W1,aa ag w W1→aF W1 (λk=>G k∨w.heap.size≤k) 7 (A,c) (d.all.take q).length ((d.all.take q).flatMap Ev.cells)):=λW1 hW=>(EvsAll.first (hv.nix hW) E4).mono λ_=>.inl
 have Cf:Hid ((d.all.take q).length=q):=by unfold Hid;rw[List.length_take,Nat.min_eq_left E4]
 have HD:Hid (∀W1,aa ag w W1→bJ w G [⟨1,d.all.take q,q,(q:Int),d.snap⟩] (.returned (U (some ⟨W1.heap.size,0,none⟩) 1 1)) (W1.alloc (.cells #[I J 1,U A q c,I J (q:Int),I J (q:Int),I J d.snap] 74))):=λW1 hW=>by
  have p:=xC (d:=⟨1,d.all.take q,q,(q:Int),d.snap⟩) hW (HS.out _ hW);simp only[Cf.out] at p;exact p
 have wJ:(0:Int)≤(q:Int):=by omega
 have I5:(q:Int)≤(c:Int):=by omega
 have Il:(q:Int)≤(d.all.length:Int):=by omega
 have hi4:(d.all.length:Int)≤(c:Int):=by omega
 clear hb hmb hF hv hm hq E4 hn HS Cf;generalize d.all.length=na at *;generalize d.all.take q=tq at *;simp only[ai,ae,Tryz.f70];go_wp2
 go_region_held3 (λW=>W.cell? ⟨w.heap.size,1,none⟩=some (U A na c)∧W.cell? ⟨w.heap.size,4,none⟩=some (I J d.snap)∧W.cell? ⟨bm,9,none⟩=some (I J (q:Int))) ((refine HC.out _ ?_;repeat' (first|with_reducible exact aa.refl _ _|with_reducible apply aa.alloc|with_reducible apply aa.drew))) (fail)
 go_wp2;go_ret;exact HD.out _ HF.out.drew
theorem Cb(hv:aF w G 7 vw d.all.length (d.all.flatMap Ev.cells))(hl:d.last≤d.all.length)(hn:d.all.length≤10000)(hm:jE w Gm fo fe it se ts m)(hsu:0≤d.sure):
  Calls pQ 70 #[.agg #[I J d.mode,U vw.1 d.all.length vw.2,I J d.last,I J d.sure,I J d.snap],.agg #[I J m.kind,I J m.ev.kind,I J m.ev.a,I J m.ev.b,I J m.ev.n,V m.ev.s,V m.ev.t,V m.ev.u,I J m.err,I J m.last,I J m.snap,I J m.st.clock,U fo.1 m.st.fols.length fo.2,U fe.1 m.st.fees.length fe.2,U it.1 m.st.itms.length it.2,U se.1 m.st.seas.length se.2,I J m.st.tFol,I J m.st.tFee,I J m.st.tItm,I J m.st.tSea]] w (bJ w G (gm d m)):=by
 obtain⟨W0,hW0⟩:∃W0,W0=(w.alloc (.cells #[I J d.mode,U vw.1 d.all.length vw.2,I J d.last,I J d.sure,I J d.snap] 74)).alloc (.cells #[I J m.kind,I J m.ev.kind,I J m.ev.a,I J m.ev.b,I J m.ev.n,V m.ev.s,V m.ev.t,V m.ev.u,I J m.err,I J m.last,I J m.snap,I J m.st.clock,U fo.1 m.st.fols.length fo.2,U fe.1 m.st.fees.length fe.2,U it.1 m.st.itms.length it.2,U se.1 m.st.seas.length se.2,I J m.st.tFol,I J m.st.tFee,I J m.st.tItm,I J m.st.tSea] 44):=⟨_,rfl⟩;have bI:Hid (aa ag w W0):=by unfold Hid;rw[hW0];exact((fR w).alloc _).alloc _
 have HBw:Hid (aj W0 w.heap.size 74 #[I J d.mode,U vw.1 d.all.length vw.2,I J d.last,I J d.sure,I J d.snap]):=by unfold Hid;rw[hW0];exact(aj.new w _ _).alloc _
 have HBm:Hid (aj W0 (w.heap.size+1) 44 #[I J m.kind,I J m.ev.kind,I J m.ev.a,I J m.ev.b,I J m.ev.n,V m.ev.s,V m.ev.t,V m.ev.u,I J m.err,I J m.last,I J m.snap,I J m.st.clock,U fo.1 m.st.fols.length fo.2,U fe.1 m.st.fees.length fe.2,U it.1 m.st.itms.length it.2,U se.1 m.st.seas.length se.2,I J m.st.tFol,I J m.st.tFee,I J m.st.tItm,I J m.st.tSea]):=by
  unfold Hid;rw[hW0];have q:=aj.new (w.alloc (.cells #[I J d.mode,U vw.1 d.all.length vw.2,I J d.last,I J d.sure,I J d.snap] 74)) 44 #[I J m.kind,I J m.ev.kind,I J m.ev.a,I J m.ev.b,I J m.ev.n,V m.ev.s,V m.ev.t,V m.ev.u,I J m.err,I J m.last,I J m.snap,I J m.st.clock,U fo.1 m.st.fols.length fo.2,U fe.1 m.st.fees.length fe.2,U it.1 m.st.itms.length it.2,U se.1 m.st.seas.length se.2,I J m.st.tFol,I J m.st.tFee,I J m.st.tItm,I J m.st.tSea];rw[show (w.alloc (.cells #[I J d.mode,U vw.1 d.all.length vw.2,I J d.last,I J d.sure,I J d.snap] 74)).heap.size=w.heap.size+1 by simp] at q;exact q
 have HW:=h_ hW0;have HV:Hid (∀W,aa ag w W→aF W (λk=>G k∨w.heap.size≤k) 7 vw d.all.length (d.all.flatMap Ev.cells)):=λW hW=>(hv.nix hW).mono λ_=>.inl
 have HV0:Hid (∀W,aa ag w W→aF W G 7 vw d.all.length (d.all.flatMap Ev.cells)):=λW hW=>hv.nix hW
 have I6:Hid (W0.heap.size=w.heap.size+2):=by unfold Hid;rw[hW0];simp
 have HMC:Hid (∀F W,¬F (w.heap.size+1)→aa F W0 W→W.cell? ⟨w.heap.size+1,8,none⟩=some (I J m.err)∧W.cell? ⟨w.heap.size+1,9,none⟩=some (I J m.last)∧W.cell? ⟨w.heap.size+1,10,none⟩=some (I J m.snap)):=λF W hn hW=>by
  have q:=HBm.out.frm hW hn;exact⟨(q.cell 8).trans rfl,(q.cell 9).trans rfl,(q.cell 10).trans rfl⟩
 have HVv:=h_ hv;have HMm:=h_ hm;have HLl:=h_ hl;have HNn:=h_ hn;have HSu:=h_ hsu;clear hW0 hv hl hn hm hsu;go_enter Tryz.func70,Tryz.ntmps70;show Code.wp pQ (ai 0 (ae Tryz.f70)) _ _ _
 refine aC (k':=1) λK hK=>?_
 conv in aD _=>whnf
 go_wp2;rw[←HW.out];refine aC (k':=2) λK hK=>?_
 refine Pd HBw.out HBm.out (by omega) bI.out HVv.out HMm.out ?_;intro c1 y5 y6 y7 y8 y9 Sx UM UN UO UQ UR UT W1 h1;refine hK _ _ ?_;clear hK K;refine aC (k':=3) λK hK=>?_
 by_cases g1:m.err=0
 rotate_left
 ·exact Pe (HBw.out.frm h1 id) (HBm.out.frm h1 id) (by omega) (bI.out.trans h1) HVv.out HMm.out c1 g1
 by_cases g2:m.last<d.sure
 ·exact Pg (HBw.out.frm h1 id) (HBm.out.frm h1 id) (by omega) (bI.out.trans h1) HVv.out HMm.out c1 g1 g2
 by_cases g3:(d.all.length:Int)<m.last
 ·exact Ph (HBw.out.frm h1 id) (HBm.out.frm h1 id) (by omega) (bI.out.trans h1) HVv.out HMm.out c1 g1 g2 g3
 by_cases g4:m.snap=d.snap
 rotate_left
 ·exact Pi (HBw.out.frm h1 id) (HBm.out.frm h1 id) (by omega) (bI.out.trans h1) HVv.out HMm.out c1 g1 g2 g3 g4
 obtain⟨q,hq⟩:∃q:Nat,m.last=(q:Int):=⟨m.last.toNat,by have:=HSu.out;omega⟩;refine Nk (HBw.out.frm h1 id) (HBm.out.frm h1 id) (by omega) (bI.out.trans h1) HVv.out HMm.out c1 g1 g2 g3 g4 q hq HNn.out ?_;intro g5 UU UV UW Vv Vw Vx Vy Vz UX y29 UY UZ U0 VA VB VC VD VE U1 y39 y40 y41 y42 y43 y44 y45 y46 y47 y48 y49 y50 y51 y52 y53 y54 y55 y56 W2 h2;have LD:=h1.trans h2;refine hK _ _ ?_
 have HE:gm d m=[⟨1,d.all.take q,q,(q:Int),d.snap⟩]:=by
  unfold gm;rw[if_neg c1,if_neg,hq,Int.toNat_natCast];rintro(h|h|h|h|h)
  ·exact h g1
  ·exact g2 h
  ·exact g3 h
  ·exact h g4
  ·rw[hq,Int.toNat_natCast] at h
   exact h g5
 rw[HE];exact Pj (HBw.out.frm LD id) (HBm.out.frm LD id) (by omega) (bI.out.trans LD) HVv.out HMm.out q hq (by omega) HNn.out
end Go.Proofs.YtaecjmiobllhmaaGreat
