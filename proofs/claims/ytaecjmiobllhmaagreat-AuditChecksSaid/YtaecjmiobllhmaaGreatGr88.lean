/- Words. -/
import Derived.Test.YtaecjmiobllhmaaGreatGr87
set_option linter.unusedVariables false
set_option linter.unusedSimpArgs false
set_option maxRecDepth 100000
set_option maxHeartbeats 16000000
namespace Go.Proofs.YtaecjmiobllhmaaGreat
open Go.Value renaming int→I,string→V,slice→U,pointer→O
open Go.IntKind renaming i64→J
open Tryz renaming prog→pQ
open Go.RowKit Go.Lib
variable {bw bm:Nat}{vw:Sl}{d:WD}{m:Mv}{fo fe it se:Sl}{G:Nat→Prop}{u0 u1 u4 u5 u6 u7 u8 u9 u10 u11 u12 u13 u14 u15 u16 cG cH cI cR cS cT u23 u24 cN u26 dc u28 dm dp dr u32 u33 df dg u36 dt u38 dB dC dO dP dQ u44 u45 dI dJ dK dL dD dE dF dR dS dT dM dG dH dw dx dy dz dA u64 dh di dl cU cX fA fB fF fG fw iO iP iQ jN jO jP jQ jR jS jT jU jJ jK jV jW jX jY kZ k9 lc:Value}{W w:World}{K:Act→World→Prop}{Gm:Nat→Prop}{ts:List (Sl×aR)}
theorem Nh{Q:Exit→Act→World→Prop}{wr:World}(hb:aj wr bw 74 #[I J d.mode,U vw.1 d.all.length vw.2,I J d.last,I J d.sure,I J d.snap])(hm:aj wr bm 44 #[I J m.kind,I J m.ev.kind,I J m.ev.a,I J m.ev.b,I J m.ev.n,V m.ev.s,V m.ev.t,V m.ev.u,I J m.err,I J m.last,I J m.snap,I J m.st.clock,U fo.1 m.st.fols.length fo.2,U fe.1 m.st.fees.length fe.2,U it.1 m.st.itms.length it.2,U se.1 m.st.seas.length se.2,I J m.st.tFol,I J m.st.tFee,I J m.st.tItm,I J m.st.tSea])(hne:bm≠bw)(hv:aF wr G 7 vw d.all.length (d.all.flatMap Ev.cells))(hl:d.last≤d.all.length)(hn:d.all.length≤10000)
  (hP:∀(e:_) (a:Act) (i:Nat) (v:Value) (w:World),Q (.panic e) (a.put (some i) v) w→Q (.panic e) a w) (hQ:∀(W':World) (A3:Option Addr) (c3:Nat) (z53 z54 z55 z56 z57 z58 z59 z60 z61 z62 z63 z64:Value),aI 42 7 wr W' (U A3 (d.last+1) c3) (d.last+1) ((d.all.take d.last++[m.ev]).flatMap Ev.cells)→Q .normal ⟨#[u0,u1,O (some ⟨bw,0,none⟩),O (some ⟨bm,0,none⟩),u4,u5,u6,u7,u8,u9,u10,u11,u12,u13,u14,u15,u16,cG,cH,cI,cR,cS,cT,u23,u24,cN,u26,dc,u28,dm,dp,dr,u32,u33,df,dg,u36,dt,u38,dB,dC,dO,dP,dQ,u44,u45,dI,dJ,dK,dL,dD,dE,dF,z53,z54,z55,z56,z57,z58,z59,z60,z61,z62,z63,z64,dh,di,dl,cU,cX,fA,fB,fF,fG,fw,iO,iP,iQ,jN,jO,jP,jQ,jR,jS,jT,jU,jJ,jK,jV,jW,jX,jY,kZ,k9,lc],[]⟩ (W'.setCell ⟨bw,1,none⟩ (U A3 (d.last+1) c3))):
  Code.wp pQ (bH (ap (aD (ai 2 (ae Tryz.f66))))) Q ⟨#[u0,u1,O (some ⟨bw,0,none⟩),O (some ⟨bm,0,none⟩),u4,u5,u6,u7,u8,u9,u10,u11,u12,u13,u14,u15,u16,cG,cH,cI,cR,cS,cT,u23,u24,cN,u26,dc,u28,dm,dp,dr,u32,u33,df,dg,u36,dt,u38,dB,dC,dO,dP,dQ,u44,u45,dI,dJ,dK,dL,dD,dE,dF,dR,dS,dT,dM,dG,dH,dw,dx,dy,dz,dA,u64,dh,di,dl,cU,cX,fA,fB,fF,fG,fw,iO,iP,iQ,jN,jO,jP,jQ,jR,jS,jT,jU,jJ,jK,jV,jW,jX,jY,kZ,k9,lc],[]⟩ wr:=by
 obtain⟨A,c⟩:=vw;have HP:=h_ hP;have HQ0:=h_ hQ;have HB:=h_ hb;have cm:d.all.length≤c:=hv.cap;have hmx:c≤maxLen:=hv.max;have hnil:A=none→c=0:=hv.nil
 have HM:Hid (aF wr G 7 (A,c) d.last ((d.all.take d.last).flatMap Ev.cells)):=by
  have q:=EvsAll.first hv hl
  rw[List.length_take,Nat.min_eq_left hl] at q;exact q
 have H1:Hid (∀u∈(d.all.take d.last).flatMap Ev.cells,u.oneCell'=true):=wX _
 have HO1:Hid (∀u∈([I J m.ev.kind,I J m.ev.a,I J m.ev.b,I J m.ev.n,V m.ev.s,V m.ev.t,V m.ev.u]:List Value),u.oneCell'=true):=by
  intro u hu;simp at hu;rcases hu with rfl|rfl|rfl|rfl|rfl|rfl|rfl<;>rfl
 have SK:Hid ((d.all.take d.last++[m.ev]).flatMap Ev.cells=(d.all.take d.last).flatMap Ev.cells++[I J m.ev.kind,I J m.ev.a,I J m.ev.b,I J m.ev.n,V m.ev.s,V m.ev.t,V m.ev.u]):=by unfold Hid;rw[List.flatMap_append,List.flatMap_singleton];rfl
 have HQ:Hid (∀(W':World) (A3:Option Addr) (c3:Nat) (z53 z54 z55 z56 z57 z58 z59 z60 z61 z62 z63 z64:Value),aI 42 7 wr W' (U A3 (d.last+1) c3) (d.last+1) ((d.all.take d.last).flatMap Ev.cells++[I J m.ev.kind,I J m.ev.a,I J m.ev.b,I J m.ev.n,V m.ev.s,V m.ev.t,V m.ev.u])→Q .normal ⟨#[u0,u1,O (some ⟨bw,0,none⟩),O (some ⟨bm,0,none⟩),u4,u5,u6,u7,u8,u9,u10,u11,u12,u13,u14,u15,u16,cG,cH,cI,cR,cS,cT,u23,u24,cN,u26,dc,u28,dm,dp,dr,u32,u33,df,dg,u36,dt,u38,dB,dC,dO,dP,dQ,u44,u45,dI,dJ,dK,dL,dD,dE,dF,z53,z54,z55,z56,z57,z58,z59,z60,z61,z62,z63,z64,dh,di,dl,cU,cX,fA,fB,fF,fG,fw,iO,iP,iQ,jN,jO,jP,jQ,jR,jS,jT,jU,jJ,jK,jV,jW,jX,jY,kZ,k9,lc],[]⟩ (W'.setCell ⟨bw,1,none⟩ (U A3 (d.last+1) c3))):=by
  have q:=HQ0.out;rw[SK.out] at q;exact q
 have HS:Hid (∀W,aa ag wr W→W.cell? ⟨bw,2,none⟩=some (I J d.last)∧W.cell? ⟨bm,1,none⟩=some (I J m.ev.kind)∧W.cell? ⟨bm,2,none⟩=some (I J m.ev.a)∧W.cell? ⟨bm,3,none⟩=some (I J m.ev.b)∧W.cell? ⟨bm,4,none⟩=some (I J m.ev.n)∧W.cell? ⟨bm,5,none⟩=some (V m.ev.s)∧W.cell? ⟨bm,6,none⟩=some (V m.ev.t)∧W.cell? ⟨bm,7,none⟩=some (V m.ev.u)):=λW hW=>by
  have q:=hm.frm hW id;exact⟨((hb.frm hW id).cell 2).trans rfl,(q.cell 1).trans rfl,(q.cell 2).trans rfl,(q.cell 3).trans rfl,(q.cell 4).trans rfl,(q.cell 5).trans rfl,(q.cell 6).trans rfl,(q.cell 7).trans rfl⟩
 have De:Hid (∀(X:World) (A3:Option Addr) (n3 c3:Nat),aa ag wr X→(λW=>W.cell? ⟨bw,2,none⟩=some (I J d.last)∧W.cell? ⟨bm,1,none⟩=some (I J m.ev.kind)∧W.cell? ⟨bm,2,none⟩=some (I J m.ev.a)∧W.cell? ⟨bm,3,none⟩=some (I J m.ev.b)∧W.cell? ⟨bm,4,none⟩=some (I J m.ev.n)∧W.cell? ⟨bm,5,none⟩=some (V m.ev.s)∧W.cell? ⟨bm,6,none⟩=some (V m.ev.t)∧W.cell? ⟨bm,7,none⟩=some (V m.ev.u)) (X.setCell ⟨bw,1,none⟩ (U A3 n3 c3))):=λX A3 n3 c3 hX=>by
  have f1:aa (λk=>k=bw) X (X.setCell ⟨bw,1,none⟩ (U A3 n3 c3)):=aa.setCell (F:=λk=>k=bw) (aa.refl _ _) (.inl rfl) _;have q:=(hm.frm hX id).frm f1 hne;exact⟨(((hb.frm hX id).set_ 1 (U A3 n3 c3)).cell 2).trans rfl,(q.cell 1).trans rfl,(q.cell 2).trans rfl,(q.cell 3).trans rfl,(q.cell 4).trans rfl,(q.cell 5).trans rfl,(q.cell 6).trans rfl,(q.cell 7).trans rfl⟩
 have q1:wr.cell? ⟨bw,1,none⟩=some (U A d.all.length c):=(hb.cell 1).trans rfl;have hbw:=hb.lt;have pu:Hid (aa ag wr wr.drew):=(fR wr).drew;have wJ:(0:Int)≤(d.last:Int):=by omega
 have I5:(d.last:Int)≤(c:Int):=by omega
 have Il:(d.last:Int)≤(d.all.length:Int):=by omega
 have hi4:(d.all.length:Int)≤(c:Int):=by omega
 have Cg:d.last≤10000:=by omega
 clear hb hm hv hP hQ cm SK HQ0;generalize d.all.length=na at *;generalize (d.all.take d.last).flatMap Ev.cells=xs at *;obtain⟨v2x,w2x,runX2,rX2,-,-⟩:=(aI.empty (s:=7) 42 pu.out).app pF c ((HM.out.nix (pu.out.alloc (.cells #[] 42))).rd) H1.out (by unfold maxLen;omega) (by omega);simp only[Nat.zero_add,List.nil_append] at rX2;obtain⟨v3x,w3x,runX3,rX3,-,-⟩:=rX2.push pF [I J m.ev.kind,I J m.ev.a,I J m.ev.b,I J m.ev.n,V m.ev.s,V m.ev.t,V m.ev.u] rfl HO1.out (by unfold maxLen;omega) (by omega);obtain⟨Ax,cx,rfl,-,-,-,-⟩:=rX3.shape;obtain⟨v2y,w2y,runY2,rY2,fY2,-⟩:=((aI.empty (s:=7) 42 pu.out).more ((fR _).alloc (.cells #[I J m.ev.kind,I J m.ev.a,I J m.ev.b,I J m.ev.n,V m.ev.s,V m.ev.t,V m.ev.u] 42))).app pF c ((HM.out.nix ((pu.out.alloc (.cells #[] 42)).alloc (.cells #[I J m.ev.kind,I J m.ev.a,I J m.ev.b,I J m.ev.n,V m.ev.s,V m.ev.t,V m.ev.u] 42))).rd) H1.out (by unfold maxLen;omega) (by omega);simp only[Nat.zero_add,List.nil_append] at rY2
 have hboY:aj w2y (wr.drew.heap.size+1) 42 #[I J m.ev.kind,I J m.ev.a,I J m.ev.b,I J m.ev.n,V m.ev.s,V m.ev.t,V m.ev.u]:=by
  have q:=aj.new (wr.drew.alloc (.cells #[] 42)) 42 #[I J m.ev.kind,I J m.ev.a,I J m.ev.b,I J m.ev.n,V m.ev.s,V m.ev.t,V m.ev.u];rw[show (wr.drew.alloc (.cells #[] 42)).heap.size=wr.drew.heap.size+1 by simp] at q;refine q.frm fY2 λe=>?_
  simp[Value.ownBlock] at e
 obtain⟨v3y,w3y,runY3,rY3,-,-⟩:=rY2.app pF (ys:=[I J m.ev.kind,I J m.ev.a,I J m.ev.b,I J m.ev.n,V m.ev.s,V m.ev.t,V m.ev.u]) 1 (Rd.of_obj hboY 1 rfl) HO1.out (by unfold maxLen;omega) (by omega);obtain⟨Ay,cy,rfl,-,-,-,-⟩:=rY3.shape;have hE:=aI.empty (s:=7) 42 (pu.out.alloc (.cells #[I J m.ev.kind,I J m.ev.a,I J m.ev.b,I J m.ev.n,V m.ev.s,V m.ev.t,V m.ev.u] 42));rw[show (wr.drew.alloc (.cells #[I J m.ev.kind,I J m.ev.a,I J m.ev.b,I J m.ev.n,V m.ev.s,V m.ev.t,V m.ev.u] 42)).heap.size=wr.drew.heap.size+1 by simp] at hE;obtain⟨v2z,w2z,runZ2,rZ2,fZ2,-⟩:=hE.app pF c ((HM.out.nix ((pu.out.alloc (.cells #[I J m.ev.kind,I J m.ev.a,I J m.ev.b,I J m.ev.n,V m.ev.s,V m.ev.t,V m.ev.u] 42)).alloc (.cells #[] 42))).rd) H1.out (by unfold maxLen;omega) (by omega);simp only[Nat.zero_add,List.nil_append] at rZ2
 have hboZ:aj w2z wr.drew.heap.size 42 #[I J m.ev.kind,I J m.ev.a,I J m.ev.b,I J m.ev.n,V m.ev.s,V m.ev.t,V m.ev.u]:=by
  refine((aj.new wr.drew 42 #[I J m.ev.kind,I J m.ev.a,I J m.ev.b,I J m.ev.n,V m.ev.s,V m.ev.t,V m.ev.u]).alloc (.cells #[] 42)).frm fZ2 λe=>?_
  simp[Value.ownBlock] at e
 obtain⟨v3z,w3z,runZ3,rZ3,-,-⟩:=rZ2.app pF (ys:=[I J m.ev.kind,I J m.ev.a,I J m.ev.b,I J m.ev.n,V m.ev.s,V m.ev.t,V m.ev.u]) 1 (Rd.of_obj hboZ 1 rfl) HO1.out (by unfold maxLen;omega) (by omega);obtain⟨Az,cz,rfl,-,-,-,-⟩:=rZ3.shape;clear hE fY2 fZ2 hboY hboZ;simp only[aD,ap,bH,ai,ae,Tryz.f66];refine wp_region_held_drew (S:=λW=>W.cell? ⟨bw,2,none⟩=some (I J d.last)∧W.cell? ⟨bm,1,none⟩=some (I J m.ev.kind)∧W.cell? ⟨bm,2,none⟩=some (I J m.ev.a)∧W.cell? ⟨bm,3,none⟩=some (I J m.ev.b)∧W.cell? ⟨bm,4,none⟩=some (I J m.ev.n)∧W.cell? ⟨bm,5,none⟩=some (V m.ev.s)∧W.cell? ⟨bm,6,none⟩=some (V m.ev.t)∧W.cell? ⟨bm,7,none⟩=some (V m.ev.u)) (by kernel_rfl) (HS.out _ pu.out) λhH=>?_
 refine tk (i:=1) HP rfl rfl hH ?_
 try simp only[lt]
 refine tk (i:=3) HP rfl rfl hH ?_
 try simp only[lt]
 refine tk (i:=4) HP rfl rfl hH ?_
 try simp only[lt]
 refine tk (i:=7) HP rfl rfl hH ?_
 try simp only[lt]
 refine tk (i:=8) HP rfl rfl hH ?_
 try simp only[lt]
 refine E5 (i:=0) (j:=2) (k:=9) rfl rfl rfl (λK hK=>?_) (λK hK=>?_) (λK hK=>?_)
 ·go_simp
  refine hK.out _ _ (HS.out _ (pu.out.alloc _)) (λhH=>?_);clear hK K
  try simp only[lt]
  refine kW (i:=2) (j:=9) rfl rfl (λK hK=>?_) (λK hK=>?_)
  ·go_simp
   refine hK.out _ _ (HS.out _ (pu.out.alloc _)) (λhH=>?_);clear hK K
   try simp only[lt]
   refine tk (i:=5) HP rfl rfl hH ?_
   try simp only[lt]
   refine kW (i:=6) (j:=9) rfl rfl (λK hK=>?_) (λK hK=>?_)
   ·refine bW runX2 ?_
    refine hK.out _ _ (HS.out _ (rX2.frm)) (λhH=>?_);clear hK K
    try simp only[lt]
    refine aw (i:=9) rfl (λK hK=>?_);go_simp;refine hK.out _ _ (HS.out _ (rX2.frm.alloc _)) (λhH=>?_);clear hK K
    try simp only[lt]
    refine aw (i:=10) rfl (λK hK=>?_);refine bW runX3 ?_;refine hK.out _ _ (HS.out _ (rX3.frm)) (λhH=>?_);clear hK K
    try simp only[lt]
    refine tk (i:=11) HP rfl rfl hH ?_
    try simp only[lt]
    have hb3:=HB.out.frm rX3.frm id;have c1:=(hb3.cell 1).trans rfl;have g1:=hb3.frozen 1;refine aw (i:=12) rfl (λK hK=>?_);go_simp;refine hK.out _ _ (De.out _ _ _ _ rX3.frm) (λhH=>?_);clear hK K
    try simp only[lt]
    refine wpAnyH_done (by kernel_rfl) ?_ _;exact HQ.out _ _ _ _ _ _ _ _ _ _ _ _ _ _ _ rX3
   ·go_simp
    refine hK.out _ _ (HS.out _ ((pu.out.alloc _).alloc _)) (λhH=>?_);clear hK K
    try simp only[lt]
    refine aw (i:=6) rfl (λK hK=>?_);refine bW runY2 ?_;refine hK.out _ _ (HS.out _ (rY2.frm)) (λhH=>?_);clear hK K
    try simp only[lt]
    refine aw (i:=10) rfl (λK hK=>?_);refine bW runY3 ?_;refine hK.out _ _ (HS.out _ (rY3.frm)) (λhH=>?_);clear hK K
    try simp only[lt]
    refine tk (i:=11) HP rfl rfl hH ?_
    try simp only[lt]
    have hb3:=HB.out.frm rY3.frm id;have c1:=(hb3.cell 1).trans rfl;have g1:=hb3.frozen 1;refine aw (i:=12) rfl (λK hK=>?_);go_simp;refine hK.out _ _ (De.out _ _ _ _ rY3.frm) (λhH=>?_);clear hK K
    try simp only[lt]
    refine wpAnyH_done (by kernel_rfl) ?_ _;exact HQ.out _ _ _ _ _ _ _ _ _ _ _ _ _ _ _ rY3
  ·go_simp
   refine hK.out _ _ (HS.out _ ((pu.out.alloc _).alloc _)) (λhH=>?_);clear hK K
   try simp only[lt]
   refine aw (i:=2) rfl (λK hK=>?_);go_simp;refine hK.out _ _ (HS.out _ ((pu.out.alloc _).alloc _)) (λhH=>?_);clear hK K
   try simp only[lt]
   refine tk (i:=5) HP rfl rfl hH ?_
   try simp only[lt]
   refine aw (i:=6) rfl (λK hK=>?_);refine bW runY2 ?_;refine hK.out _ _ (HS.out _ (rY2.frm)) (λhH=>?_);clear hK K
   try simp only[lt]
   refine aw (i:=10) rfl (λK hK=>?_);refine bW runY3 ?_;refine hK.out _ _ (HS.out _ (rY3.frm)) (λhH=>?_);clear hK K
   try simp only[lt]
   refine tk (i:=11) HP rfl rfl hH ?_
   try simp only[lt]
   have hb3:=HB.out.frm rY3.frm id;have c1:=(hb3.cell 1).trans rfl;have g1:=hb3.frozen 1;refine aw (i:=12) rfl (λK hK=>?_);go_simp;refine hK.out _ _ (De.out _ _ _ _ rY3.frm) (λhH=>?_);clear hK K
   try simp only[lt]
   refine wpAnyH_done (by kernel_rfl) ?_ _;exact HQ.out _ _ _ _ _ _ _ _ _ _ _ _ _ _ _ rY3
 ·go_simp
  refine hK.out _ _ (HS.out _ (pu.out)) (λhH=>?_);clear hK K
  try simp only[lt]
  refine tk (i:=5) HP rfl rfl hH ?_
  try simp only[lt]
  refine kW (i:=0) (j:=9) rfl rfl (λK hK=>?_) (λK hK=>?_)
  ·go_simp
   refine hK.out _ _ (HS.out _ (pu.out.alloc _)) (λhH=>?_);clear hK K
   try simp only[lt]
   refine kW (i:=6) (j:=9) rfl rfl (λK hK=>?_) (λK hK=>?_)
   ·refine bW runX2 ?_
    refine hK.out _ _ (HS.out _ (rX2.frm)) (λhH=>?_);clear hK K
    try simp only[lt]
    refine aw (i:=9) rfl (λK hK=>?_);go_simp;refine hK.out _ _ (HS.out _ (rX2.frm.alloc _)) (λhH=>?_);clear hK K
    try simp only[lt]
    refine aw (i:=10) rfl (λK hK=>?_);refine bW runX3 ?_;refine hK.out _ _ (HS.out _ (rX3.frm)) (λhH=>?_);clear hK K
    try simp only[lt]
    refine tk (i:=11) HP rfl rfl hH ?_
    try simp only[lt]
    have hb3:=HB.out.frm rX3.frm id;have c1:=(hb3.cell 1).trans rfl;have g1:=hb3.frozen 1;refine aw (i:=12) rfl (λK hK=>?_);go_simp;refine hK.out _ _ (De.out _ _ _ _ rX3.frm) (λhH=>?_);clear hK K
    try simp only[lt]
    refine wpAnyH_done (by kernel_rfl) ?_ _;exact HQ.out _ _ _ _ _ _ _ _ _ _ _ _ _ _ _ rX3
   ·go_simp
    refine hK.out _ _ (HS.out _ ((pu.out.alloc _).alloc _)) (λhH=>?_);clear hK K
    try simp only[lt]
    refine aw (i:=6) rfl (λK hK=>?_);refine bW runY2 ?_;refine hK.out _ _ (HS.out _ (rY2.frm)) (λhH=>?_);clear hK K
    try simp only[lt]
    refine aw (i:=10) rfl (λK hK=>?_);refine bW runY3 ?_;refine hK.out _ _ (HS.out _ (rY3.frm)) (λhH=>?_);clear hK K
    try simp only[lt]
    refine tk (i:=11) HP rfl rfl hH ?_
    try simp only[lt]
    have hb3:=HB.out.frm rY3.frm id;have c1:=(hb3.cell 1).trans rfl;have g1:=hb3.frozen 1;refine aw (i:=12) rfl (λK hK=>?_);go_simp;refine hK.out _ _ (De.out _ _ _ _ rY3.frm) (λhH=>?_);clear hK K
    try simp only[lt]
    refine wpAnyH_done (by kernel_rfl) ?_ _;exact HQ.out _ _ _ _ _ _ _ _ _ _ _ _ _ _ _ rY3
  ·go_simp
   refine hK.out _ _ (HS.out _ (pu.out.alloc _)) (λhH=>?_);clear hK K
   try simp only[lt]
   refine aw (i:=0) rfl (λK hK=>?_);go_simp;refine hK.out _ _ (HS.out _ ((pu.out.alloc _).alloc _)) (λhH=>?_);clear hK K
   try simp only[lt]
   refine aw (i:=6) rfl (λK hK=>?_);refine bW runZ2 ?_;refine hK.out _ _ (HS.out _ (rZ2.frm)) (λhH=>?_);clear hK K
   try simp only[lt]
   refine aw (i:=10) rfl (λK hK=>?_);refine bW runZ3 ?_;refine hK.out _ _ (HS.out _ (rZ3.frm)) (λhH=>?_);clear hK K
   try simp only[lt]
   refine tk (i:=11) HP rfl rfl hH ?_
   try simp only[lt]
   have hb3:=HB.out.frm rZ3.frm id;have c1:=(hb3.cell 1).trans rfl;have g1:=hb3.frozen 1;refine aw (i:=12) rfl (λK hK=>?_);go_simp;refine hK.out _ _ (De.out _ _ _ _ rZ3.frm) (λhH=>?_);clear hK K
   try simp only[lt]
   refine wpAnyH_done (by kernel_rfl) ?_ _;exact HQ.out _ _ _ _ _ _ _ _ _ _ _ _ _ _ _ rZ3
 ·go_simp
  refine hK.out _ _ (HS.out _ (pu.out.alloc _)) (λhH=>?_);clear hK K
  try simp only[lt]
  refine kW (i:=0) (j:=2) rfl rfl (λK hK=>?_) (λK hK=>?_)
  ·go_simp
   refine hK.out _ _ (HS.out _ ((pu.out.alloc _).alloc _)) (λhH=>?_);clear hK K
   try simp only[lt]
   refine aw (i:=2) rfl (λK hK=>?_);go_simp;refine hK.out _ _ (HS.out _ ((pu.out.alloc _).alloc _)) (λhH=>?_);clear hK K
   try simp only[lt]
   refine tk (i:=5) HP rfl rfl hH ?_
   try simp only[lt]
   refine aw (i:=6) rfl (λK hK=>?_);refine bW runZ2 ?_;refine hK.out _ _ (HS.out _ (rZ2.frm)) (λhH=>?_);clear hK K
   try simp only[lt]
   refine aw (i:=10) rfl (λK hK=>?_);refine bW runZ3 ?_;refine hK.out _ _ (HS.out _ (rZ3.frm)) (λhH=>?_);clear hK K
   try simp only[lt]
   refine tk (i:=11) HP rfl rfl hH ?_
   try simp only[lt]
   have hb3:=HB.out.frm rZ3.frm id;have c1:=(hb3.cell 1).trans rfl;have g1:=hb3.frozen 1;refine aw (i:=12) rfl (λK hK=>?_);go_simp;refine hK.out _ _ (De.out _ _ _ _ rZ3.frm) (λhH=>?_);clear hK K
   try simp only[lt]
   refine wpAnyH_done (by kernel_rfl) ?_ _;exact HQ.out _ _ _ _ _ _ _ _ _ _ _ _ _ _ _ rZ3
  ·go_simp
   refine hK.out _ _ (HS.out _ (pu.out.alloc _)) (λhH=>?_);clear hK K
   try simp only[lt]
   refine tk (i:=5) HP rfl rfl hH ?_
   try simp only[lt]
   refine aw (i:=0) rfl (λK hK=>?_);go_simp;refine hK.out _ _ (HS.out _ ((pu.out.alloc _).alloc _)) (λhH=>?_);clear hK K
   try simp only[lt]
   refine aw (i:=6) rfl (λK hK=>?_);refine bW runZ2 ?_;refine hK.out _ _ (HS.out _ (rZ2.frm)) (λhH=>?_);clear hK K
   try simp only[lt]
   refine aw (i:=10) rfl (λK hK=>?_);refine bW runZ3 ?_;refine hK.out _ _ (HS.out _ (rZ3.frm)) (λhH=>?_);clear hK K
   try simp only[lt]
   refine tk (i:=11) HP rfl rfl hH ?_
   try simp only[lt]
   have hb3:=HB.out.frm rZ3.frm id;have c1:=(hb3.cell 1).trans rfl;have g1:=hb3.frozen 1;refine aw (i:=12) rfl (λK hK=>?_);go_simp;refine hK.out _ _ (De.out _ _ _ _ rZ3.frm) (λhH=>?_);clear hK K
   try simp only[lt]
   refine wpAnyH_done (by kernel_rfl) ?_ _;exact HQ.out _ _ _ _ _ _ _ _ _ _ _ _ _ _ _ rZ3
theorem mZ{b:Nat}(h:aj W b 44 #[I J m.kind,I J m.ev.kind,I J m.ev.a,I J m.ev.b,I J m.ev.n,V m.ev.s,V m.ev.t,V m.ev.u,I J m.err,I J m.last,I J m.snap,I J m.st.clock,U fo.1 m.st.fols.length fo.2,U fe.1 m.st.fees.length fe.2,U it.1 m.st.itms.length it.2,U se.1 m.st.seas.length se.2,I J m.st.tFol,I J m.st.tFee,I J m.st.tItm,I J m.st.tSea]):W.cell? ⟨b,1,none⟩=some (I J m.ev.kind)∧W.cell? ⟨b,2,none⟩=some (I J m.ev.a)∧W.cell? ⟨b,3,none⟩=some (I J m.ev.b)∧W.cell? ⟨b,4,none⟩=some (I J m.ev.n)∧W.cell? ⟨b,5,none⟩=some (V m.ev.s)∧W.cell? ⟨b,6,none⟩=some (V m.ev.t)∧W.cell? ⟨b,7,none⟩=some (V m.ev.u)∧W.cell? ⟨b,8,none⟩=some (I J m.err)∧W.cell? ⟨b,9,none⟩=some (I J m.last):=
 ⟨(h.cell 1).trans rfl,(h.cell 2).trans rfl,(h.cell 3).trans rfl,(h.cell 4).trans rfl,(h.cell 5).trans rfl,(h.cell 6).trans rfl,(h.cell 7).trans rfl,(h.cell 8).trans rfl,(h.cell 9).trans rfl⟩
theorem O7(hb:aj W bw 74 #[I J d.mode,U vw.1 d.all.length vw.2,I J d.last,I J d.sure,I J d.snap])(hmb:aj W bm 44 #[I J m.kind,I J m.ev.kind,I J m.ev.a,I J m.ev.b,I J m.ev.n,V m.ev.s,V m.ev.t,V m.ev.u,I J m.err,I J m.last,I J m.snap,I J m.st.clock,U fo.1 m.st.fols.length fo.2,U fe.1 m.st.fees.length fe.2,U it.1 m.st.itms.length it.2,U se.1 m.st.seas.length se.2,I J m.st.tFol,I J m.st.tFee,I J m.st.tItm,I J m.st.tSea])(hF:aa ag w W)(c1:¬(aN m=false∨(m.err≠0∧m.last≠0)))(hm:jE w Gm fo fe it se ts m)(hN:∀(z5 z6 z7 z8 z9 zl ye Lt yf Bt Oo Oq Q5 Q6:Value) (W':World),aa ag W W'→Code.wp pQ (aT (ap (bM (aD (ai 1 (ae Tryz.f66)))))) (Exit.inBlock 0 (Exit.then K (bodyPost pQ Tryz.f66 (bJ w G (iB d m))))) ⟨#[u0,u1,O (some ⟨bw,0,none⟩),O (some ⟨bm,0,none⟩),u4,z5,z6,z7,z8,z9,zl,ye,Lt,yf,Bt,Oo,Oq,Q5,Q6,cI,cR,cS,cT,u23,u24,cN,u26,dc,u28,dm,dp,dr,u32,u33,df,dg,u36,dt,u38,dB,dC,dO,dP,dQ,u44,u45,dI,dJ,dK,dL,dD,dE,dF,dR,dS,dT,dM,dG,dH,dw,dx,dy,dz,dA,u64,dh,di,dl,cU,cX,fA,fB,fF,fG,fw,iO,iP,iQ,jN,jO,jP,jQ,jR,jS,jT,jU,jJ,jK,jV,jW,jX,jY,kZ,k9,lc],[]⟩ W'):
  Code.wp pQ (bM (aD (ai 1 (ae Tryz.f66)))) (Exit.inBlock 0 (Exit.then K (bodyPost pQ Tryz.f66 (bJ w G (iB d m))))) ⟨#[u0,u1,O (some ⟨bw,0,none⟩),O (some ⟨bm,0,none⟩),u4,u5,u6,u7,u8,u9,u10,u11,u12,u13,u14,u15,u16,cG,cH,cI,cR,cS,cT,u23,u24,cN,u26,dc,u28,dm,dp,dr,u32,u33,df,dg,u36,dt,u38,dB,dC,dO,dP,dQ,u44,u45,dI,dJ,dK,dL,dD,dE,dF,dR,dS,dT,dM,dG,dH,dw,dx,dy,dz,dA,u64,dh,di,dl,cU,cX,fA,fB,fF,fG,fw,iO,iP,iQ,jN,jO,jP,jQ,jR,jS,jT,jU,jJ,jK,jV,jW,jX,jY,kZ,k9,lc],[]⟩ W:=by
 have cp:aN m=true:=by
  cases h:aN m with
  | true=>rfl
  | false=>exact absurd (Or.inl h) c1
 have KP:Hid (∀W,aa ag w W→Calls pQ 67 #[.agg #[I J m.kind,I J m.ev.kind,I J m.ev.a,I J m.ev.b,I J m.ev.n,V m.ev.s,V m.ev.t,V m.ev.u,I J m.err,I J m.last,I J m.snap,I J m.st.clock,U fo.1 m.st.fols.length fo.2,U fe.1 m.st.fees.length fe.2,U it.1 m.st.itms.length it.2,U se.1 m.st.seas.length se.2,I J m.st.tFol,I J m.st.tFee,I J m.st.tItm,I J m.st.tSea]] W λe w'=>e=.returned (.bool true)∧aa ag W w'):=λW hW=>by
  have q:=d7 (hm.nix hW);rw[cp] at q;exact q
 have HB:=h_ hmb;have HF:=h_ hF;have HN:=h_ hN;clear hm cp hb hmb hF hN;have e1:(bM (aD (ai 1 (ae Tryz.f66))))=.seq (aD (bM (aD (ai 1 (ae Tryz.f66))))) (.cond (.tmp 5) (bH (ap (bM (aD (ai 1 (ae Tryz.f66)))))) (aT (ap (bM (aD (ai 1 (ae Tryz.f66))))))):=by kernel_rfl
 rw[e1];clear e1;refine wp_seq_k λK2 hK=>?_
 conv in aD (bM _)=>whnf
 by_cases h0:m.err=0
 ·have e8:(m.err !=0)=false:=by simp[h0]
  clear c1 h0;go_wp2_with (first|(refine bj (l:=[I J m.kind,I J m.ev.kind,I J m.ev.a,I J m.ev.b,I J m.ev.n,V m.ev.s,V m.ev.t,V m.ev.u,I J m.err,I J m.last,I J m.snap,I J m.st.clock,U fo.1 m.st.fols.length fo.2,U fe.1 m.st.fees.length fe.2,U it.1 m.st.itms.length it.2,U se.1 m.st.seas.length se.2,I J m.st.tFol,I J m.st.tFee,I J m.st.tItm,I J m.st.tSea]) HB.out rfl _ rfl rfl rfl ?_)|(go_at_call 67;refine(KP.out _ HF.out).mono ?_;rintro e w1 ⟨rfl,hf⟩;have Y1:Hid (aa ag W w1):=hf;have HM1:=h_ (HB.out.frm hf id);obtain⟨m1,m2,m3,m4,m5,m6,m7,m8,m9⟩:=mZ HM1.out;clear hf)|fail);exact HN.out _ _ _ _ _ _ _ _ _ _ _ _ _ _ _ Y1.out
 ·have e8:(m.err !=0)=true:=by simp[h0]
  have hl0:m.last=0:=by rcases Decidable.em (m.last=0) with h|h;exact h;exact absurd (Or.inr ⟨h0,h⟩) c1
  have e9:(m.last !=0)=false:=by simp[hl0]
  clear c1 h0 hl0;go_wp2_with (first|(refine bj (l:=[I J m.kind,I J m.ev.kind,I J m.ev.a,I J m.ev.b,I J m.ev.n,V m.ev.s,V m.ev.t,V m.ev.u,I J m.err,I J m.last,I J m.snap,I J m.st.clock,U fo.1 m.st.fols.length fo.2,U fe.1 m.st.fees.length fe.2,U it.1 m.st.itms.length it.2,U se.1 m.st.seas.length se.2,I J m.st.tFol,I J m.st.tFee,I J m.st.tItm,I J m.st.tSea]) HB.out rfl _ rfl rfl rfl ?_)|(go_at_call 67;refine(KP.out _ HF.out).mono ?_;rintro e w1 ⟨rfl,hf⟩;have Y1:Hid (aa ag W w1):=hf;have HM1:=h_ (HB.out.frm hf id);obtain⟨m1,m2,m3,m4,m5,m6,m7,m8,m9⟩:=mZ HM1.out;clear hf)|fail);exact HN.out _ _ _ _ _ _ _ _ _ _ _ _ _ _ _ Y1.out
theorem O8(hb:aj W bw 74 #[I J d.mode,U vw.1 d.all.length vw.2,I J d.last,I J d.sure,I J d.snap])(hmb:aj W bm 44 #[I J m.kind,I J m.ev.kind,I J m.ev.a,I J m.ev.b,I J m.ev.n,V m.ev.s,V m.ev.t,V m.ev.u,I J m.err,I J m.last,I J m.snap,I J m.st.clock,U fo.1 m.st.fols.length fo.2,U fe.1 m.st.fees.length fe.2,U it.1 m.st.itms.length it.2,U se.1 m.st.seas.length se.2,I J m.st.tFol,I J m.st.tFee,I J m.st.tItm,I J m.st.tSea])(hF:aa ag w W)(c1:¬(aN m=false∨(m.err≠0∧m.last≠0)))(hv:aF w G 7 vw d.all.length (d.all.flatMap Ev.cells))(hN:¬d.mode=3→∀(z19 Gr z21 z22:Value),Code.wp pQ (aT (ap (aT (ap (bM (aD (ai 1 (ae Tryz.f66)))))))) (Exit.inBlock 0 (Exit.then K (bodyPost pQ Tryz.f66 (bJ w G (iB d m))))) ⟨#[u0,u1,O (some ⟨bw,0,none⟩),O (some ⟨bm,0,none⟩),u4,u5,u6,u7,u8,u9,u10,u11,u12,u13,u14,u15,u16,cG,cH,z19,Gr,z21,z22,u23,u24,cN,u26,dc,u28,dm,dp,dr,u32,u33,df,dg,u36,dt,u38,dB,dC,dO,dP,dQ,u44,u45,dI,dJ,dK,dL,dD,dE,dF,dR,dS,dT,dM,dG,dH,dw,dx,dy,dz,dA,u64,dh,di,dl,cU,cX,fA,fB,fF,fG,fw,iO,iP,iQ,jN,jO,jP,jQ,jR,jS,jT,jU,jJ,jK,jV,jW,jX,jY,kZ,k9,lc],[]⟩ W):
  Code.wp pQ (aT (ap (bM (aD (ai 1 (ae Tryz.f66)))))) (Exit.inBlock 0 (Exit.then K (bodyPost pQ Tryz.f66 (bJ w G (iB d m))))) ⟨#[u0,u1,O (some ⟨bw,0,none⟩),O (some ⟨bm,0,none⟩),u4,u5,u6,u7,u8,u9,u10,u11,u12,u13,u14,u15,u16,cG,cH,cI,cR,cS,cT,u23,u24,cN,u26,dc,u28,dm,dp,dr,u32,u33,df,dg,u36,dt,u38,dB,dC,dO,dP,dQ,u44,u45,dI,dJ,dK,dL,dD,dE,dF,dR,dS,dT,dM,dG,dH,dw,dx,dy,dz,dA,u64,dh,di,dl,cU,cX,fA,fB,fF,fG,fw,iO,iP,iQ,jN,jO,jP,jQ,jR,jS,jT,jU,jJ,jK,jV,jW,jX,jY,kZ,k9,lc],[]⟩ W:=by
 obtain⟨b0,b1,b2,b3,b4⟩:=bP hb;obtain⟨m1,m2,m3,m4,m5,m6,m7,m8,m9⟩:=mZ hmb;have HF:=h_ hF;have HV:Hid (aF W (λk=>G k∨w.heap.size≤k) 7 vw d.all.length (d.all.flatMap Ev.cells)):=(hv.nix hF).mono λ_=>.inl
 clear hb hmb hF hv;have e1:(aT (ap (bM (aD (ai 1 (ae Tryz.f66))))))=.seq (aD (aT (ap (bM (aD (ai 1 (ae Tryz.f66))))))) (.cond (.tmp 19) (bH (ap (aT (ap (bM (aD (ai 1 (ae Tryz.f66)))))))) (aT (ap (aT (ap (bM (aD (ai 1 (ae Tryz.f66))))))))):=by kernel_rfl
 rw[e1];clear e1;refine wp_seq_k λK2 hK=>?_
 conv in aD (aT _)=>whnf
 by_cases h3:d.mode=3
 ·have q3:(d.mode==3)=true:=beq_iff_eq.2 h3
  clear hN
  by_cases h6:m.err=6
  ·have k6:(m.err==6)=true:=beq_iff_eq.2 h6
   have HE:Hid (iB d m=[d]):=by unfold Hid iB;rw[if_neg c1];simp[h3,h6,gw]
   clear h6 c1 h3;go_wp2;simp only[bH,ap,aT,bM,aD,ai,ae,Tryz.f66];go_wp2;go_ret;rw[HE.out];exact xC HF.out HV.out
  ·have k6:(m.err==6)=false:=beq_eq_false_iff_ne.2 h6
   have HE:Hid (iB d m=[]):=by unfold Hid iB;rw[if_neg c1];simp[h3,h6,gw]
   clear h6 c1 h3;go_wp2;simp only[bH,ap,aT,bM,aD,ai,ae,Tryz.f66];go_wp2;go_ret;rw[HE.out];exact gD HF.out
 ·have q3:(d.mode==3)=false:=beq_eq_false_iff_ne.2 h3
  have HN:=h_ (hN h3);clear hN c1 h3;go_wp2;exact HN.out _ _ _ _
theorem O9(hb:aj W bw 74 #[I J d.mode,U vw.1 d.all.length vw.2,I J d.last,I J d.sure,I J d.snap])(hmb:aj W bm 44 #[I J m.kind,I J m.ev.kind,I J m.ev.a,I J m.ev.b,I J m.ev.n,V m.ev.s,V m.ev.t,V m.ev.u,I J m.err,I J m.last,I J m.snap,I J m.st.clock,U fo.1 m.st.fols.length fo.2,U fe.1 m.st.fees.length fe.2,U it.1 m.st.itms.length it.2,U se.1 m.st.seas.length se.2,I J m.st.tFol,I J m.st.tFee,I J m.st.tItm,I J m.st.tSea])(hF:aa ag w W)(c1:¬(aN m=false∨(m.err≠0∧m.last≠0)))(hv:aF w G 7 vw d.all.length (d.all.flatMap Ev.cells))(c2:¬d.mode=3)(hN:aM m.ev=true→∀(z28 IW Dg z31 z32:Value) (W':World),aa ag W W'→Code.wp pQ (aT (ap (aT (ap (aT (ap (bM (aD (ai 1 (ae Tryz.f66)))))))))) (Exit.inBlock 0 (Exit.then K (bodyPost pQ Tryz.f66 (bJ w G (iB d m))))) ⟨#[u0,u1,O (some ⟨bw,0,none⟩),O (some ⟨bm,0,none⟩),u4,u5,u6,u7,u8,u9,u10,u11,u12,u13,u14,u15,u16,cG,cH,cI,cR,cS,cT,u23,u24,cN,u26,dc,z28,IW,Dg,z31,z32,u33,df,dg,u36,dt,u38,dB,dC,dO,dP,dQ,u44,u45,dI,dJ,dK,dL,dD,dE,dF,dR,dS,dT,dM,dG,dH,dw,dx,dy,dz,dA,u64,dh,di,dl,cU,cX,fA,fB,fF,fG,fw,iO,iP,iQ,jN,jO,jP,jQ,jR,jS,jT,jU,jJ,jK,jV,jW,jX,jY,kZ,k9,lc],[]⟩ W'):
  Code.wp pQ (aT (ap (aT (ap (bM (aD (ai 1 (ae Tryz.f66)))))))) (Exit.inBlock 0 (Exit.then K (bodyPost pQ Tryz.f66 (bJ w G (iB d m))))) ⟨#[u0,u1,O (some ⟨bw,0,none⟩),O (some ⟨bm,0,none⟩),u4,u5,u6,u7,u8,u9,u10,u11,u12,u13,u14,u15,u16,cG,cH,cI,cR,cS,cT,u23,u24,cN,u26,dc,u28,dm,dp,dr,u32,u33,df,dg,u36,dt,u38,dB,dC,dO,dP,dQ,u44,u45,dI,dJ,dK,dL,dD,dE,dF,dR,dS,dT,dM,dG,dH,dw,dx,dy,dz,dA,u64,dh,di,dl,cU,cX,fA,fB,fF,fG,fw,iO,iP,iQ,jN,jO,jP,jQ,jR,jS,jT,jU,jJ,jK,jV,jW,jX,jY,kZ,k9,lc],[]⟩ W:=by
 obtain⟨b0,b1,b2,b3,b4⟩:=bP hb;obtain⟨m1,m2,m3,m4,m5,m6,m7,m8,m9⟩:=mZ hmb;have HF:=h_ hF;have HV:Hid (∀W1,aa ag W W1→aF W1 (λk=>G k∨w.heap.size≤k) 7 vw d.all.length (d.all.flatMap Ev.cells)):=λW1 h1=>((hv.nix hF).nix h1).mono λ_=>.inl
 have HB:=h_ hb;have HM:=h_ hmb;have KC:Hid (∀W,Calls pQ 71 #[.agg #[I J m.ev.kind,I J m.ev.a,I J m.ev.b,I J m.ev.n,V m.ev.s,V m.ev.t,V m.ev.u]] W λr w'=>r=.returned (.bool (aM m.ev))∧aa ag W w'):=λW=>wP m.ev W
 clear hb hmb hF hv;have e1:(aT (ap (aT (ap (bM (aD (ai 1 (ae Tryz.f66))))))))=.seq (aD (aT (ap (aT (ap (bM (aD (ai 1 (ae Tryz.f66))))))))) (.cond (.tmp 28) (bH (ap (aT (ap (aT (ap (bM (aD (ai 1 (ae Tryz.f66)))))))))) (aT (ap (aT (ap (aT (ap (bM (aD (ai 1 (ae Tryz.f66))))))))))):=by kernel_rfl
 rw[e1];clear e1;refine wp_seq_k λK2 hK=>?_
 conv in aD (aT _)=>whnf
 cases c3:aM m.ev with
 | false=>
   rw[c3] at KC;clear hN
   by_cases h6:m.err=140
   ·have k6:(m.err==140)=true:=beq_iff_eq.2 h6
    have HE:Hid (iB d m=[d]):=by unfold Hid iB;rw[if_neg c1];simp[c2,c3,h6,gw]
    clear h6 c1;go_wp2_with (first|(go_at_call 71;refine(KC.out _).mono ?_;rintro e w2 ⟨rfl,hf⟩;have Y2:Hid (aa ag W w2):=hf;obtain⟨b0,b1,b2,b3,b4⟩:=bP (HB.out.frm hf id);obtain⟨m1,m2,m3,m4,m5,m6,m7,m8,m9⟩:=mZ (HM.out.frm hf id);clear hf)|fail);simp only[bH,ap,aT,bM,aD,ai,ae,Tryz.f66];go_wp2;go_ret;rw[HE.out];exact xC (HF.out.trans Y2.out) (HV.out _ Y2.out)
   ·have k6:(m.err==140)=false:=beq_eq_false_iff_ne.2 h6
    have HE:Hid (iB d m=[]):=by unfold Hid iB;rw[if_neg c1];simp[c2,c3,h6,gw]
    clear h6 c1;go_wp2_with (first|(go_at_call 71;refine(KC.out _).mono ?_;rintro e w2 ⟨rfl,hf⟩;have Y2:Hid (aa ag W w2):=hf;obtain⟨b0,b1,b2,b3,b4⟩:=bP (HB.out.frm hf id);obtain⟨m1,m2,m3,m4,m5,m6,m7,m8,m9⟩:=mZ (HM.out.frm hf id);clear hf)|fail);simp only[bH,ap,aT,bM,aD,ai,ae,Tryz.f66];go_wp2;go_ret;rw[HE.out]
    exact gD (HF.out.trans Y2.out)
 | true=>
   rw[c3] at KC;have HN:=h_ (hN c3);clear hN c1 c2 c3;go_wp2_with (first|(go_at_call 71;refine(KC.out _).mono ?_;rintro e w2 ⟨rfl,hf⟩;have Y2:Hid (aa ag W w2):=hf;obtain⟨b0,b1,b2,b3,b4⟩:=bP (HB.out.frm hf id);obtain⟨m1,m2,m3,m4,m5,m6,m7,m8,m9⟩:=mZ (HM.out.frm hf id);clear hf)|fail);exact HN.out _ _ _ _ _ _ Y2.out
theorem Ni(hb:aj W bw 74 #[I J d.mode,U vw.1 d.all.length vw.2,I J d.last,I J d.sure,I J d.snap])(hmb:aj W bm 44 #[I J m.kind,I J m.ev.kind,I J m.ev.a,I J m.ev.b,I J m.ev.n,V m.ev.s,V m.ev.t,V m.ev.u,I J m.err,I J m.last,I J m.snap,I J m.st.clock,U fo.1 m.st.fols.length fo.2,U fe.1 m.st.fees.length fe.2,U it.1 m.st.itms.length it.2,U se.1 m.st.seas.length se.2,I J m.st.tFol,I J m.st.tFee,I J m.st.tItm,I J m.st.tSea])(hF:aa ag w W)(c1:¬(aN m=false∨(m.err≠0∧m.last≠0)))(hv:aF w G 7 vw d.all.length (d.all.flatMap Ev.cells))(hl:d.last≤d.all.length)(hn:d.all.length≤10000)(c2:¬d.mode=3)(c3:aM m.ev=true)(hN:aG (pZ d) m.ev=true→∀(Dh z39 z40 z41 xt xu z44:Value) (W':World),aa ag W W'→K ⟨#[u0,u1,O (some ⟨bw,0,none⟩),O (some ⟨bm,0,none⟩),u4,u5,u6,u7,u8,u9,u10,u11,u12,u13,u14,u15,u16,cG,cH,cI,cR,cS,cT,u23,u24,cN,u26,dc,u28,dm,dp,dr,u32,u33,df,dg,u36,dt,Dh,z39,z40,z41,xt,xu,z44,u45,dI,dJ,dK,dL,dD,dE,dF,dR,dS,dT,dM,dG,dH,dw,dx,dy,dz,dA,u64,dh,di,dl,cU,cX,fA,fB,fF,fG,fw,iO,iP,iQ,jN,jO,jP,jQ,jR,jS,jT,jU,jJ,jK,jV,jW,jX,jY,kZ,k9,lc],[]⟩ W'):
  Code.wp pQ (aT (ap (aT (ap (aT (ap (bM (aD (ai 1 (ae Tryz.f66)))))))))) (Exit.inBlock 0 (Exit.then K (bodyPost pQ Tryz.f66 (bJ w G (iB d m))))) ⟨#[u0,u1,O (some ⟨bw,0,none⟩),O (some ⟨bm,0,none⟩),u4,u5,u6,u7,u8,u9,u10,u11,u12,u13,u14,u15,u16,cG,cH,cI,cR,cS,cT,u23,u24,cN,u26,dc,u28,dm,dp,dr,u32,u33,df,dg,u36,dt,u38,dB,dC,dO,dP,dQ,u44,u45,dI,dJ,dK,dL,dD,dE,dF,dR,dS,dT,dM,dG,dH,dw,dx,dy,dz,dA,u64,dh,di,dl,cU,cX,fA,fB,fF,fG,fw,iO,iP,iQ,jN,jO,jP,jQ,jR,jS,jT,jU,jJ,jK,jV,jW,jX,jY,kZ,k9,lc],[]⟩ W:=by
 have RF:Hid (∀W1,aa ag W W1→Calls pQ 126 #[.agg #[I J d.mode,U vw.1 d.all.length vw.2,I J d.last,I J d.sure,I J d.snap]] W1 λr w'=>∃(fo fe it se:Sl) (ts:List (Sl×aR)),r=.returned (.agg #[I J (pZ d).clock,U fo.1 (pZ d).fols.length fo.2,U fe.1 (pZ d).fees.length fe.2,U it.1 (pZ d).itms.length it.2,U se.1 (pZ d).seas.length se.2,I J (pZ d).tFol,I J (pZ d).tFee,I J (pZ d).tItm,I J (pZ d).tSea])∧aY w' (λk=>W1.heap.size≤k) fo fe it se ts (pZ d)∧aa ag W1 w'):=λW1 hW=>zN ((hv.nix hF).nix hW) hl hn
 have HSs:Hid (aP (pZ d)):=(sZ _ ud).small;have tQ:Hid (∀W fo fe it se ts G',aY W G' fo fe it se ts (pZ d)→Calls pQ 30 #[.agg #[I J (pZ d).clock,U fo.1 (pZ d).fols.length fo.2,U fe.1 (pZ d).fees.length fe.2,U it.1 (pZ d).itms.length it.2,U se.1 (pZ d).seas.length se.2,I J (pZ d).tFol,I J (pZ d).tFee,I J (pZ d).tItm,I J (pZ d).tSea],.agg #[I J m.ev.kind,I J m.ev.a,I J m.ev.b,I J m.ev.n,V m.ev.s,V m.ev.t,V m.ev.u]] W λr w'=>r=.returned (.bool (aG (pZ d) m.ev))∧aa ag W w'):=λW fo fe it se ts G' h=>iU h HSs.out m.ev
 have HF:=h_ hF;have HV:Hid (∀W1,aa ag W W1→aF W1 (λk=>G k∨w.heap.size≤k) 7 vw d.all.length (d.all.flatMap Ev.cells)):=λW1 h1=>((hv.nix hF).nix h1).mono λ_=>.inl
 have HB:=h_ hb;have HM:=h_ hmb
 have HC:Hid (∀W1,aa ag W W1→W1.cell? ⟨bw,0,none⟩=some (I J d.mode)∧W1.cell? ⟨bw,1,none⟩=some (U vw.1 d.all.length vw.2)∧W1.cell? ⟨bw,2,none⟩=some (I J d.last)∧W1.cell? ⟨bw,3,none⟩=some (I J d.sure)∧W1.cell? ⟨bw,4,none⟩=some (I J d.snap)∧W1.cell? ⟨bm,1,none⟩=some (I J m.ev.kind)∧W1.cell? ⟨bm,2,none⟩=some (I J m.ev.a)∧W1.cell? ⟨bm,3,none⟩=some (I J m.ev.b)∧W1.cell? ⟨bm,4,none⟩=some (I J m.ev.n)∧W1.cell? ⟨bm,5,none⟩=some (V m.ev.s)∧W1.cell? ⟨bm,6,none⟩=some (V m.ev.t)∧W1.cell? ⟨bm,7,none⟩=some (V m.ev.u)):=λW1 hW=>by
  obtain⟨y0,y1,y2,y3,y4⟩:=bP (hb.frm hW id);obtain⟨z1,z2,z3,z4,z5,z6,z7,-,-⟩:=mZ (hmb.frm hW id);exact⟨y0,y1,y2,y3,y4,z1,z2,z3,z4,z5,z6,z7⟩
 clear hb hmb hF hv hl hn;have e1:(aT (ap (aT (ap (aT (ap (bM (aD (ai 1 (ae Tryz.f66))))))))))=.seq (aD (aT (ap (aT (ap (aT (ap (bM (aD (ai 1 (ae Tryz.f66))))))))))) (.cond (.tmp 38) (bH (ap (aT (ap (aT (ap (aT (ap (bM (aD (ai 1 (ae Tryz.f66)))))))))))) .skip):=by kernel_rfl
 rw[e1];clear e1;refine wp_seq_k λK2 hK=>?_
 conv in aD (aT _)=>whnf
 cases c4:aG (pZ d) m.ev with
 | false=>
   rw[c4] at tQ;clear hN
   by_cases h6:m.err=330
   ·have k6:(m.err==330)=true:=beq_iff_eq.2 h6
    have HE:Hid (iB d m=[d]):=by unfold Hid iB;rw[if_neg c1];simp[c2,c3,c4,h6,gw]
    clear h6 c1;clear c2 c3 c4
    go_region_held3 (λW=>W.cell? ⟨bw,0,none⟩=some (I J d.mode)∧W.cell? ⟨bw,1,none⟩=some (U vw.1 d.all.length vw.2)∧W.cell? ⟨bw,2,none⟩=some (I J d.last)∧W.cell? ⟨bw,3,none⟩=some (I J d.sure)∧W.cell? ⟨bw,4,none⟩=some (I J d.snap)∧W.cell? ⟨bm,1,none⟩=some (I J m.ev.kind)∧W.cell? ⟨bm,2,none⟩=some (I J m.ev.a)∧W.cell? ⟨bm,3,none⟩=some (I J m.ev.b)∧W.cell? ⟨bm,4,none⟩=some (I J m.ev.n)∧W.cell? ⟨bm,5,none⟩=some (V m.ev.s)∧W.cell? ⟨bm,6,none⟩=some (V m.ev.t)∧W.cell? ⟨bm,7,none⟩=some (V m.ev.u)) ((refine HC.out _ ?_;repeat' (first|with_reducible exact aa.refl _ _|with_reducible exact Yb.out|with_reducible exact Ya.out|with_reducible apply aa.drew)))
    (first
     | (go_at_call 30;have _q:=Ea;refine(tQ.out _ _ _ _ _ _ _ Ea.out).mono ?_;rintro e wb ⟨rfl,hf⟩;have Yb:Hid (aa ag W wb):=Ya.out.trans hf;clear hf)
     | (go_at_call 126;refine(RF.out _ (fR _).drew).mono ?_;rintro e wa ⟨fo',fe',it',se',ts',rfl,hd,hf⟩;have Ea:=h_ hd;have Ya:Hid (aa ag W wa):=(fR _).drew.trans hf;clear hd hf))
    obtain⟨b0,b1,b2,b3,b4⟩:=bP (HB.out.frm Yb.out id);obtain⟨m1,m2,m3,m4,m5,m6,m7,m8,m9⟩:=mZ (HM.out.frm Yb.out id);go_wp2;simp only[bH,ap,aT,bM,aD,ai,ae,Tryz.f66];go_wp2;go_ret;rw[HE.out];exact xC (HF.out.trans Yb.out) (HV.out _ Yb.out)
   ·have k6:(m.err==330)=false:=beq_eq_false_iff_ne.2 h6
    have HE:Hid (iB d m=[]):=by unfold Hid iB;rw[if_neg c1];simp[c2,c3,c4,h6,gw]
    clear h6 c1;clear c2 c3 c4
    go_region_held3 (λW=>W.cell? ⟨bw,0,none⟩=some (I J d.mode)∧W.cell? ⟨bw,1,none⟩=some (U vw.1 d.all.length vw.2)∧W.cell? ⟨bw,2,none⟩=some (I J d.last)∧W.cell? ⟨bw,3,none⟩=some (I J d.sure)∧W.cell? ⟨bw,4,none⟩=some (I J d.snap)∧W.cell? ⟨bm,1,none⟩=some (I J m.ev.kind)∧W.cell? ⟨bm,2,none⟩=some (I J m.ev.a)∧W.cell? ⟨bm,3,none⟩=some (I J m.ev.b)∧W.cell? ⟨bm,4,none⟩=some (I J m.ev.n)∧W.cell? ⟨bm,5,none⟩=some (V m.ev.s)∧W.cell? ⟨bm,6,none⟩=some (V m.ev.t)∧W.cell? ⟨bm,7,none⟩=some (V m.ev.u)) ((refine HC.out _ ?_;repeat' (first|with_reducible exact aa.refl _ _|with_reducible exact Yb.out|with_reducible exact Ya.out|with_reducible apply aa.drew)))
    (first
     | (go_at_call 30;have _q:=Ea;refine(tQ.out _ _ _ _ _ _ _ Ea.out).mono ?_;rintro e wb ⟨rfl,hf⟩;have Yb:Hid (aa ag W wb):=Ya.out.trans hf;clear hf)
     | (go_at_call 126;refine(RF.out _ (fR _).drew).mono ?_;rintro e wa ⟨fo',fe',it',se',ts',rfl,hd,hf⟩;have Ea:=h_ hd;have Ya:Hid (aa ag W wa):=(fR _).drew.trans hf;clear hd hf))
    obtain⟨b0,b1,b2,b3,b4⟩:=bP (HB.out.frm Yb.out id);obtain⟨m1,m2,m3,m4,m5,m6,m7,m8,m9⟩:=mZ (HM.out.frm Yb.out id);go_wp2;simp only[bH,ap,aT,bM,aD,ai,ae,Tryz.f66];go_wp2;go_ret;rw[HE.out]
    exact gD (HF.out.trans Yb.out)
 | true=>
   rw[c4] at tQ;have HN:=h_ (hN c4);clear hN c1 c2 c3 c4
   go_region_held3 (λW=>W.cell? ⟨bw,0,none⟩=some (I J d.mode)∧W.cell? ⟨bw,1,none⟩=some (U vw.1 d.all.length vw.2)∧W.cell? ⟨bw,2,none⟩=some (I J d.last)∧W.cell? ⟨bw,3,none⟩=some (I J d.sure)∧W.cell? ⟨bw,4,none⟩=some (I J d.snap)∧W.cell? ⟨bm,1,none⟩=some (I J m.ev.kind)∧W.cell? ⟨bm,2,none⟩=some (I J m.ev.a)∧W.cell? ⟨bm,3,none⟩=some (I J m.ev.b)∧W.cell? ⟨bm,4,none⟩=some (I J m.ev.n)∧W.cell? ⟨bm,5,none⟩=some (V m.ev.s)∧W.cell? ⟨bm,6,none⟩=some (V m.ev.t)∧W.cell? ⟨bm,7,none⟩=some (V m.ev.u)) ((refine HC.out _ ?_;repeat' (first|with_reducible exact aa.refl _ _|with_reducible exact Yb.out|with_reducible exact Ya.out|with_reducible apply aa.drew)))
   (first
    | (go_at_call 30;have _q:=Ea;refine(tQ.out _ _ _ _ _ _ _ Ea.out).mono ?_;rintro e wb ⟨rfl,hf⟩;have Yb:Hid (aa ag W wb):=Ya.out.trans hf;clear hf)
    | (go_at_call 126;refine(RF.out _ (fR _).drew).mono ?_;rintro e wa ⟨fo',fe',it',se',ts',rfl,hd,hf⟩;have Ea:=h_ hd;have Ya:Hid (aa ag W wa):=(fR _).drew.trans hf;clear hd hf))
   obtain⟨b0,b1,b2,b3,b4⟩:=bP (HB.out.frm Yb.out id);obtain⟨m1,m2,m3,m4,m5,m6,m7,m8,m9⟩:=mZ (HM.out.frm Yb.out id);go_wp2;exact HN.out _ _ _ _ _ _ _ _ Yb.out
def mQ(e:WD)(m:Mv):List WD:=
 if m.err=30 then [⟨3,e.all,e.last,e.sure,e.snap⟩] else if m.err=0∧e.mode=1∧m.last=e.last+1 then [⟨e.mode,e.all,e.last+1,e.sure,e.snap⟩] else []
theorem Pa(c1:¬(aN m=false∨(m.err≠0∧m.last≠0)))(c3:aM m.ev=true)(c4:aG (pZ d) m.ev=true)(h1:d.mode=1):iB d m=mQ ⟨d.mode,d.all.take d.last++[m.ev],d.last,d.sure,d.snap⟩ m:=by
 unfold iB mQ;rw[if_neg c1]
 by_cases h30:m.err=30
 ·simp[h1,c3,c4,h30]
 ·by_cases h0:m.err=0
  ·by_cases hl:m.last=(d.last:Int)+1
   ·simp[h1,c3,c4,h0,hl,gw]
   ·simp[h1,c3,c4,h0,hl,gw]
  ·simp[h1,c3,c4,h0,h30,gw]
theorem Pb(c1:¬(aN m=false∨(m.err≠0∧m.last≠0)))(c2:¬d.mode=3)(c3:aM m.ev=true)(c4:aG (pZ d) m.ev=true)(h1:¬d.mode=1):iB d m=mQ d m:=by
 unfold iB mQ;rw[if_neg c1]
 by_cases h30:m.err=30
 ·simp[h1,c2,c3,c4,h30,gw]
 ·simp[h1,c2,c3,c4,h30,gw]
theorem IX{ve:Sl}{e:WD}(hb:aj W w.heap.size 74 #[I J e.mode,U ve.1 e.all.length ve.2,I J e.last,I J e.sure,I J e.snap])(hmb:aj W bm 44 #[I J m.kind,I J m.ev.kind,I J m.ev.a,I J m.ev.b,I J m.ev.n,V m.ev.s,V m.ev.t,V m.ev.u,I J m.err,I J m.last,I J m.snap,I J m.st.clock,U fo.1 m.st.fols.length fo.2,U fe.1 m.st.fees.length fe.2,U it.1 m.st.itms.length it.2,U se.1 m.st.seas.length se.2,I J m.st.tFol,I J m.st.tFee,I J m.st.tItm,I J m.st.tSea])(hne:bm≠w.heap.size)(hF:aa ag w W)(hn:e.last≤10000)
  (hv:∀W1,aa (λk=>k=w.heap.size) W W1→aF W1 (λk=>G k∨w.heap.size≤k) 7 ve e.all.length (e.all.flatMap Ev.cells)):
  Code.wp pQ (ai 3 (ae Tryz.f66)) (bodyPost pQ Tryz.f66 (bJ w G (mQ e m))) ⟨#[u0,u1,O (some ⟨w.heap.size,0,none⟩),O (some ⟨bm,0,none⟩),u4,u5,u6,u7,u8,u9,u10,u11,u12,u13,u14,u15,u16,cG,cH,cI,cR,cS,cT,u23,u24,cN,u26,dc,u28,dm,dp,dr,u32,u33,df,dg,u36,dt,u38,dB,dC,dO,dP,dQ,u44,u45,dI,dJ,dK,dL,dD,dE,dF,dR,dS,dT,dM,dG,dH,dw,dx,dy,dz,dA,u64,dh,di,dl,cU,cX,fA,fB,fF,fG,fw,iO,iP,iQ,jN,jO,jP,jQ,jR,jS,jT,jU,jJ,jK,jV,jW,jX,jY,kZ,k9,lc],[]⟩ W:=by
 obtain⟨b0,b1,b2,b3,b4⟩:=bP hb;obtain⟨-,-,-,-,-,-,-,m8,m9⟩:=mZ hmb;have f0:=hb.frozen 0;have f2:=hb.frozen 2;have hlt:=hb.lt;have HF:=h_ hF;have HV:=h_ hv;clear hb hmb hF hv;have HH:Hid True:=trivial
 by_cases h30:m.err=30
 ·have k30:(m.err==30)=true:=beq_iff_eq.2 h30
  have HE:Hid (mQ e m=[⟨3,e.all,e.last,e.sure,e.snap⟩]):=by unfold Hid mQ;simp[h30]
  rw[HE.out];clear HE HH;simp only[bH,ap,aT,bM,aD,ai,ae,Tryz.f66];go_wp2;go_ret;have pG:Hid (aa ag w (W.setCell ⟨w.heap.size,0,none⟩ (I J 3))):=HF.out.setCell (.inr (Nat.le_refl _)) _;exact B8 (b:=W.heap.size) (d:=⟨3,e.all,e.last,e.sure,e.snap⟩) (by simp) pG.out (HV.out _ (aa.setCell (F:=λk=>k=w.heap.size) (aa.refl _ W) (.inl rfl) _))
 ·have k30:(m.err==30)=false:=beq_eq_false_iff_ne.2 h30
  by_cases h0:m.err=0
  ·have k0:(m.err==0)=true:=beq_iff_eq.2 h0
   by_cases h1:e.mode=1
   ·have q1:(e.mode==1)=true:=beq_iff_eq.2 h1
    by_cases hl:m.last=(e.last:Int)+1
    ·have ql:(m.last==(e.last:Int)+1)=true:=beq_iff_eq.2 hl
     have HE:Hid (mQ e m=[⟨e.mode,e.all,e.last+1,e.sure,e.snap⟩]):=by unfold Hid mQ;simp[h0,h1,hl]
     rw[HE.out];clear HE HH;simp only[bH,ap,aT,bM,aD,ai,ae,Tryz.f66];go_wp2;go_ret;have pG:Hid (aa ag w (W.setCell ⟨w.heap.size,2,none⟩ (I J (e.last+1)))):=HF.out.setCell (.inr (Nat.le_refl _)) _;have q:=B8 (b:=W.heap.size) (d:=⟨e.mode,e.all,e.last+1,e.sure,e.snap⟩) (by simp) pG.out (HV.out _ (aa.setCell (F:=λk=>k=w.heap.size) (aa.refl _ W) (.inl rfl) _))
     simpa [h1] using q
    ·have ql:(m.last==(e.last:Int)+1)=false:=beq_eq_false_iff_ne.2 hl
     have HE:Hid (mQ e m=[]):=by unfold Hid mQ;simp[h0,h1,hl]
     rw[HE.out];clear HE HH;simp only[bH,ap,aT,bM,aD,ai,ae,Tryz.f66];go_wp2;go_ret;exact gD HF.out
   ·have q1:(e.mode==1)=false:=beq_eq_false_iff_ne.2 h1
    have HE:Hid (mQ e m=[]):=by unfold Hid mQ;simp[h0,h1]
    rw[HE.out];clear HE HH;simp only[bH,ap,aT,bM,aD,ai,ae,Tryz.f66];go_wp2;go_ret;exact gD HF.out
  ·have k0:(m.err==0)=false:=beq_eq_false_iff_ne.2 h0
   have HE:Hid (mQ e m=[]):=by unfold Hid mQ;simp[h0,h30]
   rw[HE.out];clear HE HH;simp only[bH,ap,aT,bM,aD,ai,ae,Tryz.f66];go_wp2;go_ret;exact gD HF.out
theorem Nj(hb:aj W w.heap.size 74 #[I J d.mode,U vw.1 d.all.length vw.2,I J d.last,I J d.sure,I J d.snap])(hmb:aj W bm 44 #[I J m.kind,I J m.ev.kind,I J m.ev.a,I J m.ev.b,I J m.ev.n,V m.ev.s,V m.ev.t,V m.ev.u,I J m.err,I J m.last,I J m.snap,I J m.st.clock,U fo.1 m.st.fols.length fo.2,U fe.1 m.st.fees.length fe.2,U it.1 m.st.itms.length it.2,U se.1 m.st.seas.length se.2,I J m.st.tFol,I J m.st.tFee,I J m.st.tItm,I J m.st.tSea])(hne:bm≠w.heap.size)(hF:aa ag w W)(hv:aF w G 7 vw d.all.length (d.all.flatMap Ev.cells))(hl:d.last≤d.all.length)(hn:d.all.length≤10000)(c1:¬(aN m=false∨(m.err≠0∧m.last≠0)))(c2:¬d.mode=3)(c3:aM m.ev=true)(c4:aG (pZ d) m.ev=true):
  Code.wp pQ (ai 2 (ae Tryz.f66)) (bodyPost pQ Tryz.f66 (bJ w G (iB d m))) ⟨#[u0,u1,O (some ⟨w.heap.size,0,none⟩),O (some ⟨bm,0,none⟩),u4,u5,u6,u7,u8,u9,u10,u11,u12,u13,u14,u15,u16,cG,cH,cI,cR,cS,cT,u23,u24,cN,u26,dc,u28,dm,dp,dr,u32,u33,df,dg,u36,dt,u38,dB,dC,dO,dP,dQ,u44,u45,dI,dJ,dK,dL,dD,dE,dF,dR,dS,dT,dM,dG,dH,dw,dx,dy,dz,dA,u64,dh,di,dl,cU,cX,fA,fB,fF,fG,fw,iO,iP,iQ,jN,jO,jP,jQ,jR,jS,jT,jU,jJ,jK,jV,jW,jX,jY,kZ,k9,lc],[]⟩ W:=by
 obtain⟨b0,-,-,-,-⟩:=bP hb;refine aC (k':=3) λK hK=>?_
 have e2:aD (ai 2 (ae Tryz.f66))=.seq (aD (aD (ai 2 (ae Tryz.f66)))) (.cond (.tmp 52) (bH (ap (aD (ai 2 (ae Tryz.f66))))) .skip):=by kernel_rfl
 rw[e2];clear e2;refine wp_seq_k λK2 hK2=>?_
 conv in aD (aD _)=>whnf
 have HB:=h_ hb;have HM:=h_ hmb;have HF:=h_ hF;have HV:=h_ hv;have HL:=h_ hl;have HNn:=h_ hn;have HK:=h_ hK;clear hb hmb hF hv hl hn
 by_cases h1:d.mode=1
 ·have q1:(d.mode==1)=true:=beq_iff_eq.2 h1
  have HE:Hid (iB d m=mQ ⟨d.mode,d.all.take d.last++[m.ev],d.last,d.sure,d.snap⟩ m):=Pa c1 c3 c4 h1;clear c1 c2 c3 c4 h1;go_wp2;refine Nh HB.out HM.out hne (HV.out.nix HF.out) HL.out HNn.out (λ_ _ _ _ _ h=>h) ?_;intro W' A3 c3 z53 z54 z55 z56 z57 z58 z59 z60 z61 z62 z63 z64 hR;show K _ _
  refine HK.out _ _ ?_;rw[HE.out];have hlt:=HB.out.lt;have hlen:(d.all.take d.last++[m.ev]).length=d.last+1:=by rw[List.length_append,List.length_take,Nat.min_eq_left HL.out];rfl
  have gI:aa (λk=>k=w.heap.size) W (W'.setCell ⟨w.heap.size,1,none⟩ (U A3 (d.last+1) c3)):=aa.setCell (F:=λk=>k=w.heap.size) (hR.frm.mono λk (h:False)=>h.elim) (.inl rfl) _;have hs:aF W' (λk=>W.heap.size≤k) 7 (A3,c3) (d.last+1) ((d.all.take d.last++[m.ev]).flatMap Ev.cells):=hR.sl;have hb2:aj (W'.setCell ⟨w.heap.size,1,none⟩ (U A3 (d.last+1) c3)) w.heap.size 74 #[I J d.mode,U A3 (d.last+1) c3,I J d.last,I J d.sure,I J d.snap]:=(HB.out.frm hR.frm id).set_ 1 _;have Jt:aj (W'.setCell ⟨w.heap.size,1,none⟩ (U A3 (d.last+1) c3)) bm 44 #[I J m.kind,I J m.ev.kind,I J m.ev.a,I J m.ev.b,I J m.ev.n,V m.ev.s,V m.ev.t,V m.ev.u,I J m.err,I J m.last,I J m.snap,I J m.st.clock,U fo.1 m.st.fols.length fo.2,U fe.1 m.st.fees.length fe.2,U it.1 m.st.itms.length it.2,U se.1 m.st.seas.length se.2,I J m.st.tFol,I J m.st.tFee,I J m.st.tItm,I J m.st.tSea]:=aj.frm (F:=λk=>k=w.heap.size) HM.out gI hne;rw[←hlen] at hb2 hs Jt ⊢;refine IX (e:=⟨d.mode,d.all.take d.last++[m.ev],d.last,d.sure,d.snap⟩) (ve:=(A3,c3)) hb2 Jt hne ((HF.out.trans hR.frm).setCell (.inr (Nat.le_refl _)) _) (by have:=HL.out;have:=HNn.out;show d.last≤10000;omega) λW1 h1=>?_
  have hf2:aa (λk=>k=w.heap.size) W' W1:=(aa.setCell (F:=λk=>k=w.heap.size) (aa.refl _ W') (.inl rfl) _).trans h1;exact(hs.frm hf2 λk hk e=>by omega).mono λk hk=>.inr (by have:=HF.out.size;omega)
 ·have q1:(d.mode==1)=false:=beq_eq_false_iff_ne.2 h1
  have HE:Hid (iB d m=mQ d m):=Pb c1 c2 c3 c4 h1;clear c1 c2 c3 c4 h1;go_wp2;rw[HE.out];refine IX HB.out HM.out hne HF.out (by have:=HL.out;have:=HNn.out;omega) λW1 h1=>?_
  exact(HV.out.nix (HF.out.next h1 λk hk=>.inr (by omega))).mono λ_=>.inl
end Go.Proofs.YtaecjmiobllhmaaGreat
