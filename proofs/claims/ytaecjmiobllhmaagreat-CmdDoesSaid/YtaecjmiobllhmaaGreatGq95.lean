/- Words. -/
import Derived.Test.YtaecjmiobllhmaaGreatGq94
set_option linter.unusedVariables false
set_option linter.unusedSimpArgs false
set_option maxRecDepth 100000
set_option maxHeartbeats 16000000
namespace Go.Proofs.YtaecjmiobllhmaaGreat
open Go.Value renaming int→I,string→V,slice→U,pointer→O
open Go.IntKind renaming i64→J
open Tryz renaming prog→pQ
open Go.RowKit Go.Lib
variable {w:World}{fo fe it se:Sl}{x:St}
def QU(w:World)(fo fe it se:Sl)(x:St)(k a b n:Int)(s t:ByteArray):Prop:=
 ∀(wc:World) (bx bc be:Nat) (u0:Value) (u1:Value) (u6:Value) (u7:Value) (u8:Value) (u9:Value) (u10:Value) (u11:Value) (u12:Value) (u13:Value) (u14:Value) (u15:Value) (u16:Value) (eG:Value) (eH:Value) (eI:Value) (eJ:Value) (eK:Value) (eM:Value) (u23:Value) (u24:Value) (eO:Value) (u26:Value) (eW:Value) (u28:Value) (eX:Value) (eY:Value) (eZ:Value) (u32:Value) (u33:Value) (fh:Value) (fj:Value) (u36:Value) (fk:Value) (u38:Value) (fw:Value) (fx:Value) (fy:Value) (fG:Value) (fH:Value) (u44:Value) (u45:Value) (fJ:Value) (fK:Value) (gC:Value) (gD:Value) (gw:Value) (gy:Value) (gj:Value) (gl:Value) (gm:Value) (gp:Value) (fM:Value) (fO:Value) (fP:Value) (fQ:Value) (fU:Value) (fV:Value) (fW:Value) (fX:Value) (u64:Value) (fY:Value) (fZ:Value) (gc:Value) (gg:Value) (gF:Value) (gO:Value) (gP:Value) (gQ:Value) (gR:Value) (gS:Value) (gT:Value) (gU:Value) (gV:Value) (gW:Value) (gX:Value) (gY:Value) (gZ:Value) (g9:Value) (hZ:Value) (ie:Value) (ig:Value) (ii:Value) (ij:Value) (il:Value) (im:Value) (io:Value) (ip:Value) (iw:Value) (ix:Value) (iy:Value) (iz:Value) (iJ:Value) (iK:Value) (iM:Value) (iO:Value) (cJ:Value) (cK:Value) (cL:Value) (cM:Value) (cN:Value) (cO:Value) (cP:Value) (cQ:Value) (bH:Value) (bI:Value) (bJ:Value) (bK:Value) (bM:Value) (bN:Value) (bO:Value) (bP:Value) (bQ:Value) (bR:Value) (bS:Value) (bT:Value) (bU:Value) (bV:Value) (bW:Value) (bX:Value) (bY:Value) (bZ:Value) (cd:Value) (cg:Value) (cj:Value) (cn:Value) (cq:Value) (ct:Value) (cz:Value) (cA:Value) (cC:Value) (cD:Value) (cE:Value) (cF:Value) (u138:Value) (cG:Value) (cR:Value) (cS:Value) (cT:Value) (cU:Value) (dz:Value) (dA:Value) (dB:Value) (dC:Value) (dD:Value) (dS:Value) (dT:Value) (dU:Value) (dV:Value) (dW:Value),ai wc bx 36 #[I J x.clock,U fo.1 x.fols.length fo.2,U fe.1 x.fees.length fe.2,U it.1 x.itms.length it.2,U se.1 x.seas.length se.2,I J x.tFol,I J x.tFee,I J x.tItm,I J x.tSea]→ai wc bc 49 #[I J k,I J a,I J b,I J n,V s,V t]→ai wc be 42 #[I J 0,I J a,I J 0,I J 0,V ⟨#[]⟩,V ⟨#[]⟩,V ⟨#[]⟩]→aa ac w wc→w.heap.size≤be→bx≠be→bc≠be→
   Code.wp pQ (aj 2 (ae Tryz.f55)) (bodyPost pQ Tryz.f55 λe w'=>mh w (aL ah aC x ⟨k,a,b,n,s,t⟩) e w') ⟨#[u0,u1,O (some ⟨bx,0,none⟩),O (some ⟨bc,0,none⟩),U none 0 0,O (some ⟨be,0,none⟩),u6,u7,u8,u9,u10,u11,u12,u13,u14,u15,u16,eG,eH,eI,eJ,eK,eM,u23,u24,eO,u26,eW,u28,eX,eY,eZ,u32,u33,fh,fj,u36,fk,u38,fw,fx,fy,fG,fH,u44,u45,fJ,fK,gC,gD,gw,gy,gj,gl,gm,gp,fM,fO,fP,fQ,fU,fV,fW,fX,u64,fY,fZ,gc,gg,gF,gO,gP,gQ,gR,gS,gT,gU,gV,gW,gX,gY,gZ,g9,hZ,ie,ig,ii,ij,il,im,io,ip,iw,ix,iy,iz,iJ,iK,iM,iO,cJ,cK,cL,cM,cN,cO,cP,cQ,bH,bI,bJ,bK,bM,bN,bO,bP,bQ,bR,bS,bT,bU,bV,bW,bX,bY,bZ,cd,cg,cj,cn,cq,ct,cz,cA,cC,cD,cE,cF,u138,cG,cR,cS,cT,cU,dz,dA,dB,dC,dD,dS,dT,dU,dV,dW],[]⟩ wc
theorem He(k a b n:Int)(s t:ByteArray)(hA:QU w fo fe it se x k a b n s t):
  Calls pQ 55 #[bE fo fe it se x,.agg #[I J k,I J a,I J b,I J n,V s,V t]] w λe w'=>mh w (aL ah aC x ⟨k,a,b,n,s,t⟩) e w':=by
 obtain⟨W0,hW0⟩:∃W0,W0=(w.alloc (.cells #[I J x.clock,U fo.1 x.fols.length fo.2,U fe.1 x.fees.length fe.2,U it.1 x.itms.length it.2,U se.1 x.seas.length se.2,I J x.tFol,I J x.tFee,I J x.tItm,I J x.tSea] 36)).alloc (.cells #[I J k,I J a,I J b,I J n,V s,V t] 49):=⟨_,rfl⟩;have dM:Hid (aa ac w W0):=by unfold Hid;rw[hW0];exact((fR w).alloc _).alloc _
 have mG:Hid (ai W0 w.heap.size 36 #[I J x.clock,U fo.1 x.fols.length fo.2,U fe.1 x.fees.length fe.2,U it.1 x.itms.length it.2,U se.1 x.seas.length se.2,I J x.tFol,I J x.tFee,I J x.tItm,I J x.tSea]):=by unfold Hid;rw[hW0];exact(ai.new w _ _).alloc _
 have dw:Hid (ai W0 (w.heap.size+1) 49 #[I J k,I J a,I J b,I J n,V s,V t]):=by
  unfold Hid;rw[hW0];have q1:=ai.new (w.alloc (.cells #[I J x.clock,U fo.1 x.fols.length fo.2,U fe.1 x.fees.length fe.2,U it.1 x.itms.length it.2,U se.1 x.seas.length se.2,I J x.tFol,I J x.tFee,I J x.tItm,I J x.tSea] 36)) 49 #[I J k,I J a,I J b,I J n,V s,V t];rw[show (w.alloc (.cells #[I J x.clock,U fo.1 x.fols.length fo.2,U fe.1 x.fees.length fe.2,U it.1 x.itms.length it.2,U se.1 x.seas.length se.2,I J x.tFol,I J x.tFee,I J x.tItm,I J x.tSea] 36)).heap.size=w.heap.size+1 by simp] at q1;exact q1
 have HZ:Hid (W0.heap.size=w.heap.size+1+1):=by unfold Hid;rw[hW0];simp
 have HA:=h_ hA;have HW:=h_ hW0;have c1:W0.cell? ⟨w.heap.size+1,1,none⟩=some (I J a):=(dw.out.cell 1).trans rfl;have hlt:w.heap.size+1<W0.heap.size:=by rw[HZ.out];omega
 clear hA hW0;unfold bE;go_enter Tryz.func55,Tryz.ntmps55;show Code.wp pQ (aj 0 (ae Tryz.f55)) _ _ _
 refine aG (k':=1) λK hK=>?_
 conv in bz _=>whnf
 go_wp2;rw[←HW.out];refine aG (k':=2) λK hK=>?_
 conv in bz _=>whnf
 go_wp2;exact HA.out _ _ _ _ _ _ _ _ _ _ _ _ _ _ _ _ _ _ _ _ _ _ _ _ _ _ _ _ _ _ _ _ _ _ _ _ _ _ _ _ _ _ _ _ _ _ _ _ _ _ _ _ _ _ _ _ _ _ _ _ _ _ _ _ _ _ _ _ _ _ _ _ _ _ _ _ _ _ _ _ _ _ _ _ _ _ _ _ _ _ _ _ _ _ _ _ _ _ _ _ _ _ _ _ _ _ _ _ _ _ _ _ _ _ _ _ _ _ _ _ _ _ _ _ _ _ _ _ _ _ _ _ _ _ _ _ _ _ _ _ _ _ _ _ _ _ _ _ _ _ _ _ _ _ (mG.out.alloc _) (dw.out.alloc _) (ai.new W0 42 #[I J 0,I J a,I J 0,I J 0,V ⟨#[]⟩,V ⟨#[]⟩,V ⟨#[]⟩]) (dM.out.alloc _) (by rw[HZ.out];omega) (by rw[HZ.out];omega) (by rw[HZ.out];omega)
def ik(q:aJ):Ev:=⟨8,q.id,0,1,eS,eS,eS⟩
theorem JS{b off:Nat}{pt:Sl×aJ}(h:∀(j:Nat) (u:Value),(iY pt)[j]? =some u→w.cell? ⟨b,off+j,none⟩=some u):
  w.cell? ⟨b,off,none⟩=some (I J pt.2.id)∧w.cell? ⟨b,off+1,none⟩=some (I J pt.2.feed)∧w.cell? ⟨b,off+2,none⟩=some (I J pt.2.date)∧w.cell? ⟨b,off+3,none⟩=some (V pt.2.guid)∧w.cell? ⟨b,off+4,none⟩=some (V pt.2.title)∧w.cell? ⟨b,off+5,none⟩=some (V pt.2.link)∧w.cell? ⟨b,off+6,none⟩=some (.bool pt.2.read)∧w.cell? ⟨b,off+7,none⟩=some (.bool pt.2.star)∧w.cell? ⟨b,off+8,none⟩=some (U pt.1.1 pt.2.tags.length pt.1.2):=
 ⟨h 0 _ rfl,h 1 _ rfl,h 2 _ rfl,h 3 _ rfl,h 4 _ rfl,h 5 _ rfl,h 6 _ rfl,h 7 _ rfl,h 8 _ rfl⟩
theorem QV{w wc:World}{bx bc be:Nat}{ts:List (Sl×aJ)}{G:Nat→Prop}{a b n:Int}{s t:ByteArray}(hx:ai wc bx 36 #[I J x.clock,U fo.1 x.fols.length fo.2,U fe.1 x.fees.length fe.2,U it.1 x.itms.length it.2,U se.1 x.seas.length se.2,I J x.tFol,I J x.tFee,I J x.tItm,I J x.tSea])(hc:ai wc bc 49 #[I J 10,I J a,I J b,I J n,V s,V t])(he:ai wc be 42 #[I J 0,I J a,I J 0,I J 0,V ⟨#[]⟩,V ⟨#[]⟩,V ⟨#[]⟩])(hF:aa ac w wc)(eo:w.heap.size≤be)(nu:bx≠be)(hce:bc≠be)(hs:s.size≤10000)(ht:t.size≤10000)(hS:aM w G fo fe it se ts x)(hsm:aH x){u0 u1 u6 u7 u8 u9 u10 u11 u12 u13 u14 u15 u16 eG eH eI eJ eK eM u23 u24 eO u26 eW u28 eX eY eZ u32 u33 fh fj u36 fk u38 fw fx fy fG fH u44 u45 fJ fK gC gD gw gy gj gl gm gp fM fO fP fQ fU fV fW fX u64 fY fZ gc gg gF gO gP gQ gR gS gT gU gV gW gX gY gZ g9 hZ ie ig ii ij il im io ip iw ix iy iz iJ iK iM iO cJ cK cL cM cN cO cP cQ bH bI bJ bK bM bN bO bP bQ bR bS bT bU bV bW bX bY bZ cd cg cj cn cq ct cz cA cC cD cE cF u138 cG cR cS cT cU dz dA dB dC dD dS dT dU dV dW:Value}:
  Code.wp pQ (aj 2 (ae Tryz.f55)) (bodyPost pQ Tryz.f55 λe w'=>mh w (aL ah aC x ⟨10,a,b,n,s,t⟩) e w') ⟨#[u0,u1,O (some ⟨bx,0,none⟩),O (some ⟨bc,0,none⟩),U none 0 0,O (some ⟨be,0,none⟩),u6,u7,u8,u9,u10,u11,u12,u13,u14,u15,u16,eG,eH,eI,eJ,eK,eM,u23,u24,eO,u26,eW,u28,eX,eY,eZ,u32,u33,fh,fj,u36,fk,u38,fw,fx,fy,fG,fH,u44,u45,fJ,fK,gC,gD,gw,gy,gj,gl,gm,gp,fM,fO,fP,fQ,fU,fV,fW,fX,u64,fY,fZ,gc,gg,gF,gO,gP,gQ,gR,gS,gT,gU,gV,gW,gX,gY,gZ,g9,hZ,ie,ig,ii,ij,il,im,io,ip,iw,ix,iy,iz,iJ,iK,iM,iO,cJ,cK,cL,cM,cN,cO,cP,cQ,bH,bI,bJ,bK,bM,bN,bO,bP,bQ,bR,bS,bT,bU,bV,bW,bX,bY,bZ,cd,cg,cj,cn,cq,ct,cz,cA,cC,cD,cE,cF,u138,cG,cR,cS,cT,cU,dz,dA,dB,dC,dD,dS,dT,dU,dV,dW],[]⟩ wc:=by
 have mG:=h_ hx;have dw:=h_ hc;have fp:=h_ he;have HF:=h_ hF;obtain⟨x0,x1,x2,x3,x4,x5,x6,x7,x8⟩:=ak hx;obtain⟨c0,c1,c2,c3,c4,c5⟩:=bn hc;obtain⟨e0,e1,e2,e3,e4,e5,e6⟩:=ap he;have g0:=he.frozen 0;have g1:=he.frozen 1;have g2:=he.frozen 2;have g3:=he.frozen 3;have g4:=he.frozen 4;have g5:=he.frozen 5;have g6:=he.frozen 6
 have dH:Hid (∀W,aa ac wc W→W.cell? ⟨bc,0,none⟩=some (I J 10)∧W.cell? ⟨bc,1,none⟩=some (I J a)∧W.cell? ⟨bc,2,none⟩=some (I J b)∧W.cell? ⟨bc,3,none⟩=some (I J n)∧W.cell? ⟨bc,4,none⟩=some (V s)∧W.cell? ⟨bc,5,none⟩=some (V t)∧W.cell? ⟨be,0,none⟩=some (I J 0)∧W.cell? ⟨be,1,none⟩=some (I J a)∧W.cell? ⟨be,2,none⟩=some (I J 0)∧W.cell? ⟨be,3,none⟩=some (I J 0)∧W.cell? ⟨be,4,none⟩=some (V ⟨#[]⟩)∧W.cell? ⟨be,5,none⟩=some (V ⟨#[]⟩)∧W.cell? ⟨be,6,none⟩=some (V ⟨#[]⟩)∧W.frozen? ⟨be,0,none⟩=false∧W.frozen? ⟨be,1,none⟩=false∧W.frozen? ⟨be,2,none⟩=false∧W.frozen? ⟨be,3,none⟩=false∧W.frozen? ⟨be,4,none⟩=false∧W.frozen? ⟨be,5,none⟩=false∧W.frozen? ⟨be,6,none⟩=false∧W.cell? ⟨bx,0,none⟩=some (I J x.clock)∧W.cell? ⟨bx,1,none⟩=some (U fo.1 x.fols.length fo.2)∧W.cell? ⟨bx,2,none⟩=some (U fe.1 x.fees.length fe.2)∧W.cell? ⟨bx,3,none⟩=some (U it.1 x.itms.length it.2)∧W.cell? ⟨bx,4,none⟩=some (U se.1 x.seas.length se.2)∧W.cell? ⟨bx,5,none⟩=some (I J x.tFol)∧W.cell? ⟨bx,6,none⟩=some (I J x.tFee)∧W.cell? ⟨bx,7,none⟩=some (I J x.tItm)∧W.cell? ⟨bx,8,none⟩=some (I J x.tSea)):=λW hW=>by
  have hE:=he.frm hW (id);obtain⟨d0,d1,d2,d3,d4,d5⟩:=bn (hc.frm hW id);obtain⟨q0,q1,q2,q3,q4,q5,q6⟩:=ap hE;obtain⟨y0,y1,y2,y3,y4,y5,y6,y7,y8⟩:=ak (hx.frm hW id);exact⟨d0,d1,d2,d3,d4,d5,q0,q1,q2,q3,q4,q5,q6,hE.frozen 0,hE.frozen 1,hE.frozen 2,hE.frozen 3,hE.frozen 4,hE.frozen 5,hE.frozen 6,y0,y1,y2,y3,y4,y5,y6,y7,y8⟩
 obtain⟨p,hp⟩:∃p:aJ→Bool,(λq:aJ=>decide (q.feed=a))=p:=⟨_,rfl⟩;have N2:Hid (∀q:aJ,p q=decide (q.feed=a)):=λq=>by rw[←hp]
 have QW:Hid (aL ah aC x ⟨10,a,b,n,s,t⟩=(x.itms.filter p).map ik):=by
  unfold Hid aL ik;simp;rw[←hp]
 rw[QW.out];have HS:=h_ hS;have hi:=hsm.itms;obtain⟨m,Cx⟩:∃m,x.itms.length=m:=⟨_,rfl⟩;have HN:=h_ Cx;have J7:Hid (ts.length=m):=by unfold Hid;rw[←HN.out,←HS.out.same,List.length_map]
 rw[Cx] at hi;rw[Cx] at x3 dH;clear hx hc he hF hs ht hS hsm hp Cx QW;refine aG (k':=3) λK hK=>?_
 conv in bz _=>whnf
 go_wp2
 go_loopw [6,7] (λov kv wr=>∃(k:Nat),k≤m∧kv=I J k∧aO 42 7 wc wr ov (((((ts.map (·.2)).take k).filter p).map ik).length) (((((ts.map (·.2)).take k).filter p).map ik).flatMap Ev.cells)) (λ_ kv _=>m-(intOf kv).toNat)
 case atStart=>exact⟨0,by omega,rfl,aO.nil_ _ _ (aa.refl _ _)⟩
 case round=>
  obtain⟨k,hk,rfl,hrow⟩:=hrel;obtain⟨Ar,cr,rfl,-,-,-,-⟩:=hrow.shape;have pq:=h_ hrow;have mK:=h_ hrow.frm;clear hrow x0 x1 x2 x3 x4 x5 x6 x7 x8 c0 c1 c2 c3 c4 c5 e0 e1 e2 e3 e4 e5 e6 g0 g1 g2 g3 g4 g5 g6;obtain⟨c0,c1,c2,c3,c4,c5,-,-,-,-,-,-,-,-,-,-,-,-,-,-,-,-,-,y3,-,-,-,-,-⟩:=dH.out _ mK.out;have YB:bc<wr.heap.size:=(dw.out.frm mK.out id).lt
  by_cases hlt:k<m
  ·have dX:k<ts.length:=by rw[J7.out];exact hlt
   obtain⟨ib,off,hA,-,hbl,hcell⟩:=(HS.out.itms.row.nix (HF.out.trans mK.out)).at_ dp (by decide) (by omega);rw[hA] at y3;obtain⟨x0,x1,x2,x3,x4,x5,x6,x7,x8⟩:=JS (w:=wr) (b:=ib) (off:=off+k * 9) (pt:=ts[k]) (hcell k dX);have MA:k<(ts.map (·.2)).length:=by rw[List.length_map];exact dX
   have HST:=h_ (rr (ts.map (·.2)) k MA p);have J0:(ts.map (·.2))[k]=ts[k].2:=by rw[List.getElem_map]
   rw[J0] at HST;obtain⟨pt,LG⟩:∃pt,ts[k]=pt:=⟨_,rfl⟩;rw[LG] at x0 x1 x2 x3 x4 x5 x6 x7 x8 HST;obtain⟨tv,q⟩:=pt;dsimp only at x0 x1 x2 x3 x4 x5 x6 x7 x8 HST
   have Hl:((((ts.map (·.2)).take k).filter p).map ik).length≤k:=by
    rw[List.length_map];have:=List.length_filter_le p ((ts.map (·.2)).take k);rw[List.length_take] at this;omega
   have um:=N2.out q
   have VG:Hid ((wr.alloc (.cells #[I J q.id,I J q.feed,I J q.date,V q.guid,V q.title,V q.link,.bool q.read,.bool q.star,U tv.1 q.tags.length tv.2] 82)).cell? ⟨bc,0,none⟩=some (I J 10)∧(wr.alloc (.cells #[I J q.id,I J q.feed,I J q.date,V q.guid,V q.title,V q.link,.bool q.read,.bool q.star,U tv.1 q.tags.length tv.2] 82)).cell? ⟨bc,1,none⟩=some (I J a)∧(wr.alloc (.cells #[I J q.id,I J q.feed,I J q.date,V q.guid,V q.title,V q.link,.bool q.read,.bool q.star,U tv.1 q.tags.length tv.2] 82)).cell? ⟨wr.heap.size,1,none⟩=some (I J q.feed)):=by
    have hB:=(dw.out.frm mK.out id).alloc (.cells #[I J q.id,I J q.feed,I J q.date,V q.guid,V q.title,V q.link,.bool q.read,.bool q.star,U tv.1 q.tags.length tv.2] 82);exact⟨(hB.cell 0).trans rfl,(hB.cell 1).trans rfl,((ai.new wr 82 #[I J q.id,I J q.feed,I J q.date,V q.guid,V q.title,V q.link,.bool q.read,.bool q.star,U tv.1 q.tags.length tv.2]).cell 1).trans rfl⟩
   clear hcell MA J0 LG hA
   by_cases JT:q.feed=a
   ·have ea:(q.feed==a)=true:=beq_iff_eq.2 JT
    rw[decide_eq_true JT] at um;have HX:Hid (((((ts.map (·.2)).take k).filter p).map ik)++[ik q]=((((ts.map (·.2)).take (k+1)).filter p).map ik)):=by unfold Hid;rw[HST.out,um,List.map_append];simp
    have KP:Hid (∀nq:Nat,∃v4 w4,(∀ty,(Builtin.append_ #[30,30] ty #[U Ar ((((ts.map (·.2)).take k).filter p).map ik).length cr,U (some ⟨wr.heap.size+1,0,none⟩) 1 1]).run pQ (((wr.alloc (.cells #[I J q.id,I J q.feed,I J q.date,V q.guid,V q.title,V q.link,.bool q.read,.bool q.star,U tv.1 q.tags.length tv.2] 82)).drewN nq).alloc (.cells #[I J 8,I J q.id,I J 0,I J 1,V ⟨#[]⟩,V ⟨#[]⟩,V ⟨#[]⟩] 42))=.ok v4 w4)∧aO 42 7 wc w4 v4 ((((ts.map (·.2)).take (k+1)).filter p).map ik).length (((((ts.map (·.2)).take (k+1)).filter p).map ik).flatMap Ev.cells)):=λnq=>by
     obtain⟨v4,w4,mg,hr4,pN,-⟩:=(pq.out.more (((fR wr).alloc (.cells #[I J q.id,I J q.feed,I J q.date,V q.guid,V q.title,V q.link,.bool q.read,.bool q.star,U tv.1 q.tags.length tv.2] 82)).drewN nq)).push ua (ik q).cells rfl (by intro u hu;simp[ik,Ev.cells] at hu;rcases hu with rfl|rfl|rfl|rfl|rfl|rfl|rfl<;>rfl) (by unfold maxLen;omega) (by omega);have hz:((wr.alloc (.cells #[I J q.id,I J q.feed,I J q.date,V q.guid,V q.title,V q.link,.bool q.read,.bool q.star,U tv.1 q.tags.length tv.2] 82)).drewN nq).heap.size=wr.heap.size+1:=by simp
     rw[hz] at mg;refine⟨v4,w4,mg,?_⟩;rw[←HX.out,List.length_append,List.flatMap_append]
     simpa using hr4
    clear um JT HX;generalize ((((ts.map (·.2)).take k).filter p).map ik).length=ml at *;go_wp2;obtain⟨k0,k1,k2⟩:=VG.out;go_quiet (fail);obtain⟨v4,w4,wN,QX⟩:=KP.out nq;have xf:=h_ QX;clear QX;go_wp2_with (first|(at_builtin;refine aq wN rfl _ _ rfl rfl rfl ?_)|fail);go_roundw
    case rel=>exact⟨k+1,by omega,by go_num,xf.out⟩
    case measure=>simp[intOf];omega
   ·have ea:(q.feed==a)=false:=beq_eq_false_iff_ne.2 JT
    rw[decide_eq_false JT] at um;have HX:Hid (((((ts.map (·.2)).take k).filter p).map ik)=((((ts.map (·.2)).take (k+1)).filter p).map ik)):=by unfold Hid;rw[HST.out,um];simp
    have xf:Hid (aO 42 7 wc (wr.alloc (.cells #[I J q.id,I J q.feed,I J q.date,V q.guid,V q.title,V q.link,.bool q.read,.bool q.star,U tv.1 q.tags.length tv.2] 82)) (U Ar ((((ts.map (·.2)).take k).filter p).map ik).length cr) ((((ts.map (·.2)).take (k+1)).filter p).map ik).length (((((ts.map (·.2)).take (k+1)).filter p).map ik).flatMap Ev.cells)):=by
     unfold Hid;rw[←HX.out];exact pq.out.more ((fR wr).alloc _)
    clear um JT;generalize ((((ts.map (·.2)).take k).filter p).map ik).length=ml at *;go_wp2;obtain⟨k0,k1,k2⟩:=VG.out;go_quiet (fail);go_wp2;go_roundw
    case rel=>exact⟨k+1,by omega,by go_num,xf.out.more ((fR _).drewN _)⟩
    case measure=>simp[intOf];omega
  ·obtain rfl:k=m:=by omega
   have HE:Hid (((((ts.map (·.2)).take k).filter p).map ik)=(x.itms.filter p).map ik):=by
    unfold Hid;rw[List.take_of_length_le (by rw[List.length_map,J7.out];exact Nat.le_refl _),HS.out.same]
   rw[HE.out] at pq;go_wp2;go_ret;rw[HE.out];exact⟨(Ar,cr),rfl,pq.out.sl.mono λj hj=>Nat.le_trans HF.out.size hj,HF.out.trans pq.out.frm⟩
end Go.Proofs.YtaecjmiobllhmaaGreat
