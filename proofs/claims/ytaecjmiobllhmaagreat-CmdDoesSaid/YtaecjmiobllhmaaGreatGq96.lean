/- Words. -/
import Derived.Test.YtaecjmiobllhmaaGreatGq95
set_option linter.unusedVariables false
set_option linter.unusedSimpArgs false
set_option maxRecDepth 100000
set_option maxHeartbeats 16000000
namespace Go.Proofs.YtaecjmiobllhmaaGreat
open Go.Value renaming int→I,string→V,slice→U,pointer→O
open Go.IntKind renaming i64→J
open Go.RowKit Go.Lib
variable {fo fe it se:Sl}{ts:List (Sl×aJ)}{x:St}{G:Nat→Prop}{w:World}
theorem QY{w wc:World}{bx bc be:Nat}{a b n:Int}{s t:ByteArray}(hx:ai wc bx 36 #[I J x.clock,U fo.1 x.fols.length fo.2,U fe.1 x.fees.length fe.2,U it.1 x.itms.length it.2,U se.1 x.seas.length se.2,I J x.tFol,I J x.tFee,I J x.tItm,I J x.tSea])(hc:ai wc bc 49 #[I J 11,I J a,I J b,I J n,V s,V t])(he:ai wc be 42 #[I J 0,I J a,I J 0,I J 0,V ⟨#[]⟩,V ⟨#[]⟩,V ⟨#[]⟩])(hF:aa ac w wc)(eo:w.heap.size≤be)(nu:bx≠be)(hce:bc≠be)(hs:s.size≤10000)(ht:t.size≤10000)(hS:aM w G fo fe it se ts x)(hP:di x){u0 u1 u6 u7 u8 u9 u10 u11 u12 u13 u14 u15 u16 eG eH eI eJ eK eM u23 u24 eO u26 eW u28 eX eY eZ u32 u33 fh fj u36 fk u38 fw fx fy fG fH u44 u45 fJ fK gC gD gw gy gj gl gm gp fM fO fP fQ fU fV fW fX u64 fY fZ gc gg gF gO gP gQ gR gS gT gU gV gW gX gY gZ g9 hZ ie ig ii ij il im io ip iw ix iy iz iJ iK iM iO cJ cK cL cM cN cO cP cQ bH bI bJ bK bM bN bO bP bQ bR bS bT bU bV bW bX bY bZ cd cg cj cn cq ct cz cA cC cD cE cF u138 cG cR cS cT cU dz dA dB dC dD dS dT dU dV dW:Value}:
  Code.wp Tryz.prog (aj 2 (ae Tryz.f55)) (bodyPost Tryz.prog Tryz.f55 λe w'=>mh w (aL ah aC x ⟨11,a,b,n,s,t⟩) e w') ⟨#[u0,u1,O (some ⟨bx,0,none⟩),O (some ⟨bc,0,none⟩),U none 0 0,O (some ⟨be,0,none⟩),u6,u7,u8,u9,u10,u11,u12,u13,u14,u15,u16,eG,eH,eI,eJ,eK,eM,u23,u24,eO,u26,eW,u28,eX,eY,eZ,u32,u33,fh,fj,u36,fk,u38,fw,fx,fy,fG,fH,u44,u45,fJ,fK,gC,gD,gw,gy,gj,gl,gm,gp,fM,fO,fP,fQ,fU,fV,fW,fX,u64,fY,fZ,gc,gg,gF,gO,gP,gQ,gR,gS,gT,gU,gV,gW,gX,gY,gZ,g9,hZ,ie,ig,ii,ij,il,im,io,ip,iw,ix,iy,iz,iJ,iK,iM,iO,cJ,cK,cL,cM,cN,cO,cP,cQ,bH,bI,bJ,bK,bM,bN,bO,bP,bQ,bR,bS,bT,bU,bV,bW,bX,bY,bZ,cd,cg,cj,cn,cq,ct,cz,cA,cC,cD,cE,cF,u138,cG,cR,cS,cT,cU,dz,dA,dB,dC,dD,dS,dT,dU,dV,dW],[]⟩ wc:=by
 have mG:=h_ hx;have dw:=h_ hc;have fp:=h_ he;have HF:=h_ hF;obtain⟨x0,x1,x2,x3,x4,x5,x6,x7,x8⟩:=ak hx;obtain⟨c0,c1,c2,c3,c4,c5⟩:=bn hc;obtain⟨e0,e1,e2,e3,e4,e5,e6⟩:=ap he;have g0:=he.frozen 0;have g1:=he.frozen 1;have g2:=he.frozen 2;have g3:=he.frozen 3;have g4:=he.frozen 4;have g5:=he.frozen 5;have g6:=he.frozen 6
 have dH:Hid (∀W,aa ac wc W→W.cell? ⟨bc,0,none⟩=some (I J 11)∧W.cell? ⟨bc,1,none⟩=some (I J a)∧W.cell? ⟨bc,2,none⟩=some (I J b)∧W.cell? ⟨bc,3,none⟩=some (I J n)∧W.cell? ⟨bc,4,none⟩=some (V s)∧W.cell? ⟨bc,5,none⟩=some (V t)∧W.cell? ⟨be,0,none⟩=some (I J 0)∧W.cell? ⟨be,1,none⟩=some (I J a)∧W.cell? ⟨be,2,none⟩=some (I J 0)∧W.cell? ⟨be,3,none⟩=some (I J 0)∧W.cell? ⟨be,4,none⟩=some (V ⟨#[]⟩)∧W.cell? ⟨be,5,none⟩=some (V ⟨#[]⟩)∧W.cell? ⟨be,6,none⟩=some (V ⟨#[]⟩)∧W.frozen? ⟨be,0,none⟩=false∧W.frozen? ⟨be,1,none⟩=false∧W.frozen? ⟨be,2,none⟩=false∧W.frozen? ⟨be,3,none⟩=false∧W.frozen? ⟨be,4,none⟩=false∧W.frozen? ⟨be,5,none⟩=false∧W.frozen? ⟨be,6,none⟩=false∧W.cell? ⟨bx,0,none⟩=some (I J x.clock)∧W.cell? ⟨bx,1,none⟩=some (U fo.1 x.fols.length fo.2)∧W.cell? ⟨bx,2,none⟩=some (U fe.1 x.fees.length fe.2)∧W.cell? ⟨bx,3,none⟩=some (U it.1 x.itms.length it.2)∧W.cell? ⟨bx,4,none⟩=some (U se.1 x.seas.length se.2)∧W.cell? ⟨bx,5,none⟩=some (I J x.tFol)∧W.cell? ⟨bx,6,none⟩=some (I J x.tFee)∧W.cell? ⟨bx,7,none⟩=some (I J x.tItm)∧W.cell? ⟨bx,8,none⟩=some (I J x.tSea)):=λW hW=>by
  have hE:=he.frm hW (id);obtain⟨d0,d1,d2,d3,d4,d5⟩:=bn (hc.frm hW id);obtain⟨q0,q1,q2,q3,q4,q5,q6⟩:=ap hE;obtain⟨y0,y1,y2,y3,y4,y5,y6,y7,y8⟩:=ak (hx.frm hW id);exact⟨d0,d1,d2,d3,d4,d5,q0,q1,q2,q3,q4,q5,q6,hE.frozen 0,hE.frozen 1,hE.frozen 2,hE.frozen 3,hE.frozen 4,hE.frozen 5,hE.frozen 6,y0,y1,y2,y3,y4,y5,y6,y7,y8⟩
 obtain⟨p,hp⟩:∃p:aJ→Bool,(λq:aJ=>(match eV aP.id q.feed x.fees with|none=>false|some f=>bD x f.inn a))=p:=⟨_,rfl⟩;have N2:Hid (∀q:aJ,p q=(match eV aP.id q.feed x.fees with|none=>false|some f=>bD x f.inn a)):=λq=>by rw[←hp]
 have QW:Hid (aL ah aC x ⟨11,a,b,n,s,t⟩=(x.itms.filter p).map ik):=by
  unfold Hid;rw[←hp]
  first|rfl|(unfold aL ik;simp only[show ¬(11:Int)=1 by decide,show ¬(11:Int)=2 by decide,show ¬(11:Int)=3 by decide,show ¬(11:Int)=4 by decide,show ¬(11:Int)=5 by decide,show ¬(11:Int)=6 by decide,show ¬(11:Int)=7 by decide,show ¬(11:Int)=8 by decide,show ¬(11:Int)=9 by decide,show ¬(11:Int)=12 by decide,show ¬(11:Int)=13 by decide,show ¬(11:Int)=14 by decide,show ¬(11:Int)=10 by decide,if_false])
 rw[QW.out];have HS:=h_ hS;have hsm:=hP.small;have hi:=hsm.itms;have HP:=h_ hP;have nP:=h_ hsm;obtain⟨m,Cx⟩:∃m,x.itms.length=m:=⟨_,rfl⟩;have HN:=h_ Cx;have J7:Hid (ts.length=m):=by unfold Hid;rw[←HN.out,←HS.out.same,List.length_map]
 rw[Cx] at hi;rw[Cx] at x3 dH;clear hx hc he hF hs ht hS hP hsm hp Cx QW;refine aG (k':=3) λK hK=>?_
 conv in bz _=>whnf
 go_wp2
 go_loopw [6,7] (λov kv wr=>∃(k:Nat),k≤m∧kv=I J k∧aO 42 7 wc wr ov (((((ts.map (·.2)).take k).filter p).map ik).length) (((((ts.map (·.2)).take k).filter p).map ik).flatMap Ev.cells)) (λ_ kv _=>m-(intOf kv).toNat)
 case atStart=>exact⟨0,by omega,rfl,aO.nil_ _ _ (aa.refl _ _)⟩
 case round=>
  obtain⟨k,hk,rfl,hrow⟩:=hrel;obtain⟨Ar,cr,rfl,-,-,-,-⟩:=hrow.shape;have pq:=h_ hrow;have mK:=h_ hrow.frm;clear hrow x0 x1 x2 x3 x4 x5 x6 x7 x8 c0 c1 c2 c3 c4 c5 e0 e1 e2 e3 e4 e5 e6 g0 g1 g2 g3 g4 g5 g6;obtain⟨c0,c1,c2,c3,c4,c5,-,-,-,-,-,-,-,-,-,-,-,-,-,-,-,-,-,y3,-,-,-,-,-⟩:=dH.out _ mK.out;have YB:bc<wr.heap.size:=(dw.out.frm mK.out id).lt
  by_cases hlt:k<m
  ·have dX:k<ts.length:=by rw[J7.out];exact hlt
   obtain⟨ib,off,hA,-,hbl,hcell⟩:=(HS.out.itms.row.nix (HF.out.trans mK.out)).at_ dp (by decide) (by omega);rw[hA] at y3;obtain⟨x0,x1,x2,x3,x4,x5,x6,x7,x8⟩:=JS (w:=wr) (b:=ib) (off:=off+k * 9) (pt:=ts[k]) (hcell k dX);have MA:k<(ts.map (·.2)).length:=by rw[List.length_map];exact dX
   have HST:=h_ (rr (ts.map (·.2)) k MA p);have J0:(ts.map (·.2))[k]=ts[k].2:=by rw[List.getElem_map]
   rw[J0] at HST;obtain⟨pt,LG⟩:∃pt,ts[k]=pt:=⟨_,rfl⟩;rw[LG] at x0 x1 x2 x3 x4 x5 x6 x7 x8 HST;obtain⟨tv,q⟩:=pt;dsimp only at x0 x1 x2 x3 x4 x5 x6 x7 x8 HST
   have Hl:((((ts.map (·.2)).take k).filter p).map ik).length≤k:=by
    rw[List.length_map];have:=List.length_filter_le p ((ts.map (·.2)).take k);rw[List.length_take] at this;omega
   have um:=N2.out q
   have Rt:q∈x.itms:=by
    rw[←HS.out.same];exact List.mem_map.2 ⟨ts[k],List.getElem_mem dX,by rw[LG]⟩
   obtain⟨j,xl,hj,-,hat,-⟩:=dh (HP.out.iE q Rt).2.2.1;have hin:=(HP.out.eE _ (List.getElem_mem xl)).2.2;rw[hat] at um;dsimp only at um;have hB0:aa ac wc (wr.alloc (.cells #[I J q.id,I J q.feed,I J q.date,V q.guid,V q.title,V q.link,.bool q.read,.bool q.star,U tv.1 q.tags.length tv.2] 82)):=mK.out.alloc _;obtain⟨zX,Uq⟩:∃zX,zX=(wr.alloc (.cells #[I J q.id,I J q.feed,I J q.date,V q.guid,V q.title,V q.link,.bool q.read,.bool q.star,U tv.1 q.tags.length tv.2] 82)):=⟨_,rfl⟩;have hB1:aa ac wc zX:=by rw[Uq];exact hB0
   have gH:=h_ hB1;have Hp:=h_ Uq;have Ur:ai zX wr.heap.size 82 #[I J q.id,I J q.feed,I J q.date,V q.guid,V q.title,V q.link,.bool q.read,.bool q.star,U tv.1 q.tags.length tv.2]:=by rw[Uq];exact ai.new wr _ _
   have T7:=h_ Ur;have r1:=λy:FW (aa ac zX)=>(show y.w.cell? ⟨wr.heap.size,1,none⟩=some (I J q.feed) from (Ur.frm y.h id).cell 1)
   have z:=λy:FW (aa ac zX)=>dH.out y.w (hB1.trans y.h)
   have z0:=λy=>(z y).1
   have z1:=λy=>(z y).2.1
   have yx:=λy:FW (aa ac zX)=>ak (mG.out.frm (hB1.trans y.h) id)
   have y0:=λy=>(yx y).1
   have y1:=λy=>(yx y).2.1
   have y2:=λy=>(yx y).2.2.1
   have Zo:=λy=>(yx y).2.2.2.1
   have y4:=λy=>(yx y).2.2.2.2.1
   have y5:=λy=>(yx y).2.2.2.2.2.1
   have y6:=λy=>(yx y).2.2.2.2.2.2.1
   have y7:=λy=>(yx y).2.2.2.2.2.2.2.1
   have y8:=λy=>(yx y).2.2.2.2.2.2.2.2
   obtain⟨fb,foff,YC,-,zP,VH⟩:=(HS.out.fees.nix (HF.out.trans hB1)).at_ aP.clen (by decide) (by omega);have UX:=λy:FW (aa ac zX)=>(show y.w.cell? ⟨fb,foff+j * 4+1,none⟩=some (I J (x.fees[j]'xl).inn) from (y.h.cell zP id).trans (VH j xl 1 _ rfl))
   have Ox:=λy:FW (aa ac zX)=>(show Calls Tryz.prog 33 (#[.agg #[I J x.clock,U fo.1 x.fols.length fo.2,U fe.1 x.fees.length fe.2,U it.1 x.itms.length it.2,U se.1 x.seas.length se.2,I J x.tFol,I J x.tFee,I J x.tItm,I J x.tSea],I J q.feed]) y.w λe w'=>e=.returned (I J (j:Int))∧aa ac y.w w' from by have q0:=gi (HS.out.nix (HF.out.trans (hB1.trans y.h))) nP.out q.feed;rw[hj] at q0;exact q0)
   have O9:=λy:FW (aa ac zX)=>(show Calls Tryz.prog 108 (#[.agg #[I J x.clock,U fo.1 x.fols.length fo.2,U fe.1 x.fees.length fe.2,U it.1 x.itms.length it.2,U se.1 x.seas.length se.2,I J x.tFol,I J x.tFee,I J x.tItm,I J x.tSea],I J (x.fees[j]'xl).inn,I J a]) y.w λe w'=>e=.returned (.bool (bD x (x.fees[j]'xl).inn a))∧aa ac y.w w' from Cr (HS.out.nix (HF.out.trans (hB1.trans y.h))) HP.out hin)
   rw[YC] at y2 Ox O9;obtain⟨fi,CG⟩:∃fi,(x.fees[j]'xl).inn=fi:=⟨_,rfl⟩;rw[CG] at UX O9 um;have YD:(j:Int)<(x.fees.length:Int):=by omega
   have hj0:(0:Int)≤(j:Int):=by omega
   clear z yx Ur hB0 Rt hat hin hj VH;clear hcell MA J0 LG hA
   cases JT:bD x fi a with
   | true=>
     rw[JT] at O9 um;have HX:Hid (((((ts.map (·.2)).take k).filter p).map ik)++[ik q]=((((ts.map (·.2)).take (k+1)).filter p).map ik)):=by unfold Hid;rw[HST.out,um,List.map_append];simp
     have KP:Hid (∀w5,aa ac zX w5→(w5.cell? ⟨wr.heap.size,0,none⟩=some (I J q.id)∧wr.heap.size<w5.heap.size)∧∃v4 w4,(∀ty,(Builtin.append_ #[30,30] ty #[U Ar ((((ts.map (·.2)).take k).filter p).map ik).length cr,U (some ⟨w5.heap.size,0,none⟩) 1 1]).run Tryz.prog (w5.alloc (.cells #[I J 8,I J q.id,I J 0,I J 1,V ⟨#[]⟩,V ⟨#[]⟩,V ⟨#[]⟩] 42))=.ok v4 w4)∧aO 42 7 wc w4 v4 ((((ts.map (·.2)).take (k+1)).filter p).map ik).length (((((ts.map (·.2)).take (k+1)).filter p).map ik).flatMap Ev.cells)):=λw5 h5=>by
      have VI:ai w5 wr.heap.size 82 #[I J q.id,I J q.feed,I J q.date,V q.guid,V q.title,V q.link,.bool q.read,.bool q.star,U tv.1 q.tags.length tv.2]:=T7.out.frm h5 id;refine⟨⟨VI.cell 0,VI.lt⟩,?_⟩;have Us:aa ac wr zX:=by rw[Hp.out];exact(fR wr).alloc _
      obtain⟨v4,w4,mg,hr4,pN,-⟩:=(pq.out.more (Us.trans h5)).push ua (ik q).cells rfl (by intro u hu;simp[ik,Ev.cells] at hu;rcases hu with rfl|rfl|rfl|rfl|rfl|rfl|rfl<;>rfl) (by unfold maxLen;omega) (by omega);refine⟨v4,w4,mg,?_⟩;rw[←HX.out,List.length_append,List.flatMap_append]
      simpa using hr4
     clear um JT HX;generalize ((((ts.map (·.2)).take k).filter p).map ik).length=ml at *;go_wp2_with fail;rw[←Hp.out];refine au (aa ac zX) ((fR zX).drew) (by kernel_rfl) (by kernel_rfl) ?_
     repeat (go_big_quiet_step (first
      | (rename_i y;go_at_call 33;refine y.call (Ox y) ?_;exact λw' hf=>y.h.trans hf)
      | (rename_i y;go_at_call 108;refine y.call (O9 y) ?_;exact λw' hf=>y.h.trans hf)
      | fail))
     refine wpQuiet_nil ?_;rintro w5 ⟨⟨_,su⟩,rfl⟩;obtain⟨⟨i0,Zp⟩,v4,w4,wN,QX⟩:=KP.out w5 su;have xf:=h_ QX;clear QX;go_wp2_with (first|(at_builtin;refine aq wN rfl _ _ rfl rfl rfl ?_)|fail);go_roundw
     case rel=>exact⟨k+1,by omega,by go_num,xf.out⟩
     case measure=>simp[intOf];omega
   | false=>
     rw[JT] at O9 um;have HX:Hid (((((ts.map (·.2)).take k).filter p).map ik)=((((ts.map (·.2)).take (k+1)).filter p).map ik)):=by unfold Hid;rw[HST.out,um];simp
     have xf:Hid (∀w5,aa ac zX w5→aO 42 7 wc w5 (U Ar ((((ts.map (·.2)).take k).filter p).map ik).length cr) ((((ts.map (·.2)).take (k+1)).filter p).map ik).length (((((ts.map (·.2)).take (k+1)).filter p).map ik).flatMap Ev.cells)):=λw5 h5=>by
      rw[←HX.out];have Us:aa ac wr zX:=by rw[Hp.out];exact(fR wr).alloc _
      exact pq.out.more (Us.trans h5)
     clear um JT;generalize ((((ts.map (·.2)).take k).filter p).map ik).length=ml at *;go_wp2_with fail;rw[←Hp.out];refine au (aa ac zX) ((fR zX).drew) (by kernel_rfl) (by kernel_rfl) ?_
     repeat (go_big_quiet_step (first
      | (rename_i y;go_at_call 33;refine y.call (Ox y) ?_;exact λw' hf=>y.h.trans hf)
      | (rename_i y;go_at_call 108;refine y.call (O9 y) ?_;exact λw' hf=>y.h.trans hf)
      | fail))
     refine wpQuiet_nil ?_;rintro w5 ⟨⟨_,su⟩,rfl⟩;go_wp2;go_roundw
     case rel=>exact⟨k+1,by omega,by go_num,xf.out _ su⟩
     case measure=>simp[intOf];omega
  ·obtain rfl:k=m:=by omega
   have HE:Hid (((((ts.map (·.2)).take k).filter p).map ik)=(x.itms.filter p).map ik):=by
    unfold Hid;rw[List.take_of_length_le (by rw[List.length_map,J7.out];exact Nat.le_refl _),HS.out.same]
   rw[HE.out] at pq;go_wp2;go_ret;rw[HE.out];exact⟨(Ar,cr),rfl,pq.out.sl.mono λj hj=>Nat.le_trans HF.out.size hj,HF.out.trans pq.out.frm⟩
theorem EB(hS:aM w G fo fe it se ts x)(hP:di x)(k a b n:Int)(s t:ByteArray)(hk:1≤k∧k≤14)(hs:s.size≤10000)(ht:t.size≤10000):
  Calls Tryz.prog 55 #[bE fo fe it se x,.agg #[I J k,I J a,I J b,I J n,V s,V t]] w λe w'=>mh w (aL ah aC x ⟨k,a,b,n,s,t⟩) e w':=by
 refine He k a b n s t ?_;intro wc bx bc be u0 u1 u6 u7 u8 u9 u10 u11 u12 u13 u14 u15 u16 eG eH eI eJ eK eM u23 u24 eO u26 eW u28 eX eY eZ u32 u33 fh fj u36 fk u38 fw fx fy fG fH u44 u45 fJ fK gC gD gw gy gj gl gm gp fM fO fP fQ fU fV fW fX u64 fY fZ gc gg gF gO gP gQ gR gS gT gU gV gW gX gY gZ g9 hZ ie ig ii ij il im io ip iw ix iy iz iJ iK iM iO cJ cK cL cM cN cO cP cQ bH bI bJ bK bM bN bO bP bQ bR bS bT bU bV bW bX bY bZ cd cg cj cn cq ct cz cA cC cD cE cF u138 cG cR cS cT cU dz dA dB dC dD dS dT dU dV dW hx hc he hF eo nu hce
 by_cases h1:k=1
 ·subst h1
  exact Un hx hc he hF eo nu hce hs ht (IntWalk.i64_in _ (by have:=hP.fT;omega))
 by_cases h2:k=2
 ·subst h2
  exact Ug hx hc he hF eo nu hce hs ht
 by_cases h3:k=3
 ·subst h3
  exact Uo hx hc he hF eo nu hce hs ht (IntWalk.i64_in _ (by have:=hP.eT;omega))
 by_cases h4:k=4
 ·subst h4
  exact Uh hx hc he hF eo nu hce hs ht
 by_cases h5:k=5
 ·subst h5
  exact Ul hx hc he hF eo nu hce hs ht
 by_cases h6:k=6
 ·subst h6
  exact Ui hx hc he hF eo nu hce hs ht
 by_cases h7:k=7
 ·subst h7
  exact Uj hx hc he hF eo nu hce hs ht
 by_cases h8:k=8
 ·subst h8
  exact Uk hx hc he hF eo nu hce hs ht
 by_cases h9:k=9
 ·subst h9
  exact Um hx hc he hF eo nu hce hs ht
 by_cases h10:k=10
 ·subst h10
  exact QV (ts:=ts) (G:=G) hx hc he hF eo nu hce hs ht hS hP.small
 by_cases h11:k=11
 ·subst h11
  exact QY (ts:=ts) (G:=G) hx hc he hF eo nu hce hs ht hS hP
 by_cases MJ:k=12
 ·subst MJ
  exact QR hx hc he hF eo nu hce hs ht (IntWalk.i64_in _ (by have:=hP.sT;omega))
 by_cases MK:k=13
 ·subst MK
  exact QP hx hc he hF eo nu hce hs ht
 by_cases CA:k=14
 ·subst CA
  exact QQ hx hc he hF eo nu hce hs ht
 omega
end Go.Proofs.YtaecjmiobllhmaaGreat
