/- Words. -/
import Derived.Test.YtaecjmiobllhmaaGreatGq90
set_option linter.unusedVariables false
set_option linter.unusedSimpArgs false
set_option maxRecDepth 100000
set_option maxHeartbeats 16000000
namespace Go.Proofs.YtaecjmiobllhmaaGreat
open Go.Value renaming int→I,string→V,slice→U,pointer→O
open Go.IntKind renaming i64→J
open Tryz renaming prog→pQ
open Go.RowKit Go.Lib
variable {i:Int}{w wc:World}{bx bc:Nat}{fo fe it se:Sl}{ts:List (Sl×aJ)}{x:St}{G:Nat→Prop}{a b n:Int}{s t:ByteArray}{fl:Bool}{u0 u1 u6 u7 u8 u9 u10 u11 u12 u13 u14 u15 u16 eG eH eI eJ eK eM u23 u24 eO u26 eW u28 eX eY eZ u32 u33 fh fj u36 fk u38 fw fx fy fG fH u44 u45 fJ fK gC gD gw gy gj gl gm gp fM fO fP fQ fU fV fW fX u64 fY fZ gc gg gF gO gP gQ gR gS gT gU gV gW gX gY gZ g9 hZ ie ig ii ij il im io ip iw ix iy iz iJ iK iM iO cJ cK cL cM cN cO cP cQ bH bI bJ bK bM bN bO bP bQ bR bS bT bU bV bW bX bY bZ cd cg cj cn cq ct cz cA cC cD cE cF u138 cG cR cS cT cU:Value}
theorem tG{α:Type}{g:α→Int}{l:List α}(h:aS g i l=false):gA g i l<0:=by rw[dr h];decide
theorem tH{α:Type}{g:α→Int}{l:List α}(h:aS g i l=true):¬gA g i l<0:=by obtain⟨p,-,hp,-⟩:=dh h;rw[hp];omega
theorem Ou(hS:aM wc G fo fe it se ts x)(hsm:aH x)(hx:ai wc bx 36 #[I J x.clock,U fo.1 x.fols.length fo.2,U fe.1 x.fees.length fe.2,U it.1 x.itms.length it.2,U se.1 x.seas.length se.2,I J x.tFol,I J x.tFee,I J x.tItm,I J x.tSea])(hc:ai wc bc 49 #[I J 1,I J a,I J b,I J n,V s,V t])(hF:aa ac w wc)(hs:s.size≤10000)(ht:t.size≤10000):
  Code.wp pQ (aj 2 (ae Tryz.f54)) (bodyPost pQ Tryz.f54 λe w'=>e=.returned (I J (aF ah aC x ⟨1,a,b,n,s,t⟩))∧aa ac w w') ⟨#[u0,u1,O (some ⟨bx,0,none⟩),O (some ⟨bc,0,none⟩),I J 0,.bool fl,u6,u7,u8,u9,u10,u11,u12,u13,u14,u15,u16,eG,eH,eI,eJ,eK,eM,u23,u24,eO,u26,eW,u28,eX,eY,eZ,u32,u33,fh,fj,u36,fk,u38,fw,fx,fy,fG,fH,u44,u45,fJ,fK,gC,gD,gw,gy,gj,gl,gm,gp,fM,fO,fP,fQ,fU,fV,fW,fX,u64,fY,fZ,gc,gg,gF,gO,gP,gQ,gR,gS,gT,gU,gV,gW,gX,gY,gZ,g9,hZ,ie,ig,ii,ij,il,im,io,ip,iw,ix,iy,iz,iJ,iK,iM,iO,cJ,cK,cL,cM,cN,cO,cP,cQ,bH,bI,bJ,bK,bM,bN,bO,bP,bQ,bR,bS,bT,bU,bV,bW,bX,bY,bZ,cd,cg,cj,cn,cq,ct,cz,cA,cC,cD,cE,cF,u138,cG,cR,cS,cT,cU],[]⟩ wc:=by
 have mG:=h_ hx;have dw:=h_ hc;have HF:=h_ hF;obtain⟨R,hR⟩:∃R,aF ah aC x ⟨1,a,b,n,s,t⟩=R:=⟨_,rfl⟩;rw[hR];have bp:=h_ hR.symm;clear hR
 have dH:Hid (∀W,aa ac wc W→W.cell? ⟨bx,0,none⟩=some (I J x.clock)∧W.cell? ⟨bx,1,none⟩=some (U fo.1 x.fols.length fo.2)∧W.cell? ⟨bx,2,none⟩=some (U fe.1 x.fees.length fe.2)∧W.cell? ⟨bx,3,none⟩=some (U it.1 x.itms.length it.2)∧W.cell? ⟨bx,4,none⟩=some (U se.1 x.seas.length se.2)∧W.cell? ⟨bx,5,none⟩=some (I J x.tFol)∧W.cell? ⟨bx,6,none⟩=some (I J x.tFee)∧W.cell? ⟨bx,7,none⟩=some (I J x.tItm)∧W.cell? ⟨bx,8,none⟩=some (I J x.tSea)∧W.cell? ⟨bc,0,none⟩=some (I J 1)∧W.cell? ⟨bc,1,none⟩=some (I J a)∧W.cell? ⟨bc,2,none⟩=some (I J b)∧W.cell? ⟨bc,3,none⟩=some (I J n)∧W.cell? ⟨bc,4,none⟩=some (V s)∧W.cell? ⟨bc,5,none⟩=some (V t)):=λW hW=>by
  obtain⟨y0,y1,y2,y3,y4,y5,y6,y7,y8⟩:=ak (hx.frm hW id);obtain⟨d0,d1,d2,d3,d4,d5⟩:=bn (hc.frm hW id);exact⟨y0,y1,y2,y3,y4,y5,y6,y7,y8,d0,d1,d2,d3,d4,d5⟩
 obtain⟨x0,x1,x2,x3,x4,x5,x6,x7,x8⟩:=ak hx;obtain⟨c0,c1,c2,c3,c4,c5⟩:=bn hc;have JR:Hid (∀W,aa ac wc W→Calls pQ 104 #[V s,I J 64] W λe w'=>e=.returned (V (ah s 64))∧aa ac W w'):=λW hW=>iu s hs 64 (by unfold bj;decide) W
 have KM:Hid (∀W,aa ac wc W→Calls pQ 103 #[bE fo fe it se x,.agg #[I J 1,I J a,I J b,I J n,V s,V t],V (ah s 64)] W λe w'=>e=.returned (I J (iV x 1 b (ah s 64)))∧aa ac W w'):=λW hW=>Ot (hS.nix hW) hsm a b n s t (ah s 64)
 have HR:Hid (R=iV x 1 b (ah s 64)):=by unfold Hid;rw[bp.out];unfold aF;simp
 clear hS hsm hx hc hF hs ht;generalize iV x 1 b (ah s 64)=md at *;generalize ah s 64=ss at *;simp only[aj,ae,Tryz.f54];go_wp2_with fail
 go_region_held3 (λW=>W.cell? ⟨bx,0,none⟩=some (I J x.clock)∧W.cell? ⟨bx,1,none⟩=some (U fo.1 x.fols.length fo.2)∧W.cell? ⟨bx,2,none⟩=some (U fe.1 x.fees.length fe.2)∧W.cell? ⟨bx,3,none⟩=some (U it.1 x.itms.length it.2)∧W.cell? ⟨bx,4,none⟩=some (U se.1 x.seas.length se.2)∧W.cell? ⟨bx,5,none⟩=some (I J x.tFol)∧W.cell? ⟨bx,6,none⟩=some (I J x.tFee)∧W.cell? ⟨bx,7,none⟩=some (I J x.tItm)∧W.cell? ⟨bx,8,none⟩=some (I J x.tSea)∧W.cell? ⟨bc,0,none⟩=some (I J 1)∧W.cell? ⟨bc,1,none⟩=some (I J a)∧W.cell? ⟨bc,2,none⟩=some (I J b)∧W.cell? ⟨bc,3,none⟩=some (I J n)∧W.cell? ⟨bc,4,none⟩=some (V s)∧W.cell? ⟨bc,5,none⟩=some (V t)) ((refine dH.out _ ?_;first|exact(fR wc).drew|exact dI.out|exact pW.out))
  (first|(go_at_call 104;refine(JR.out _ (fR wc).drew).mono ?_;rintro e w1 ⟨rfl,hf⟩;have dI:Hid (aa ac wc w1):=((fR wc).drew).trans hf;clear hf)|(go_at_call 103;refine(KM.out _ dI.out).mono ?_;rintro e w2 ⟨rfl,hf⟩;have pW:Hid (aa ac wc w2):=(dI.out).trans hf;clear hf))
 all_goals
  go_wp2;go_ret;exact⟨by rw[HR.out];rfl,HF.out.trans pW.out⟩
theorem Ov(hS:aM wc G fo fe it se ts x)(hsm:aH x)(hx:ai wc bx 36 #[I J x.clock,U fo.1 x.fols.length fo.2,U fe.1 x.fees.length fe.2,U it.1 x.itms.length it.2,U se.1 x.seas.length se.2,I J x.tFol,I J x.tFee,I J x.tItm,I J x.tSea])(hc:ai wc bc 49 #[I J 3,I J a,I J b,I J n,V s,V t])(hF:aa ac w wc)(hs:s.size≤10000)(ht:t.size≤10000):
  Code.wp pQ (aj 2 (ae Tryz.f54)) (bodyPost pQ Tryz.f54 λe w'=>e=.returned (I J (aF ah aC x ⟨3,a,b,n,s,t⟩))∧aa ac w w') ⟨#[u0,u1,O (some ⟨bx,0,none⟩),O (some ⟨bc,0,none⟩),I J 0,.bool fl,u6,u7,u8,u9,u10,u11,u12,u13,u14,u15,u16,eG,eH,eI,eJ,eK,eM,u23,u24,eO,u26,eW,u28,eX,eY,eZ,u32,u33,fh,fj,u36,fk,u38,fw,fx,fy,fG,fH,u44,u45,fJ,fK,gC,gD,gw,gy,gj,gl,gm,gp,fM,fO,fP,fQ,fU,fV,fW,fX,u64,fY,fZ,gc,gg,gF,gO,gP,gQ,gR,gS,gT,gU,gV,gW,gX,gY,gZ,g9,hZ,ie,ig,ii,ij,il,im,io,ip,iw,ix,iy,iz,iJ,iK,iM,iO,cJ,cK,cL,cM,cN,cO,cP,cQ,bH,bI,bJ,bK,bM,bN,bO,bP,bQ,bR,bS,bT,bU,bV,bW,bX,bY,bZ,cd,cg,cj,cn,cq,ct,cz,cA,cC,cD,cE,cF,u138,cG,cR,cS,cT,cU],[]⟩ wc:=by
 have mG:=h_ hx;have dw:=h_ hc;have HF:=h_ hF;obtain⟨R,hR⟩:∃R,aF ah aC x ⟨3,a,b,n,s,t⟩=R:=⟨_,rfl⟩;rw[hR];have bp:=h_ hR.symm;clear hR
 have dH:Hid (∀W,aa ac wc W→W.cell? ⟨bx,0,none⟩=some (I J x.clock)∧W.cell? ⟨bx,1,none⟩=some (U fo.1 x.fols.length fo.2)∧W.cell? ⟨bx,2,none⟩=some (U fe.1 x.fees.length fe.2)∧W.cell? ⟨bx,3,none⟩=some (U it.1 x.itms.length it.2)∧W.cell? ⟨bx,4,none⟩=some (U se.1 x.seas.length se.2)∧W.cell? ⟨bx,5,none⟩=some (I J x.tFol)∧W.cell? ⟨bx,6,none⟩=some (I J x.tFee)∧W.cell? ⟨bx,7,none⟩=some (I J x.tItm)∧W.cell? ⟨bx,8,none⟩=some (I J x.tSea)∧W.cell? ⟨bc,0,none⟩=some (I J 3)∧W.cell? ⟨bc,1,none⟩=some (I J a)∧W.cell? ⟨bc,2,none⟩=some (I J b)∧W.cell? ⟨bc,3,none⟩=some (I J n)∧W.cell? ⟨bc,4,none⟩=some (V s)∧W.cell? ⟨bc,5,none⟩=some (V t)):=λW hW=>by
  obtain⟨y0,y1,y2,y3,y4,y5,y6,y7,y8⟩:=ak (hx.frm hW id);obtain⟨d0,d1,d2,d3,d4,d5⟩:=bn (hc.frm hW id);exact⟨y0,y1,y2,y3,y4,y5,y6,y7,y8,d0,d1,d2,d3,d4,d5⟩
 obtain⟨x0,x1,x2,x3,x4,x5,x6,x7,x8⟩:=ak hx;obtain⟨c0,c1,c2,c3,c4,c5⟩:=bn hc;have JR:Hid (∀W,aa ac wc W→Calls pQ 104 #[V s,I J 512] W λe w'=>e=.returned (V (ah s 512))∧aa ac W w'):=λW hW=>iu s hs 512 (by unfold bj;decide) W
 have KM:Hid (∀W,aa ac wc W→Calls pQ 103 #[bE fo fe it se x,.agg #[I J 3,I J a,I J b,I J n,V s,V t],V (ah s 512)] W λe w'=>e=.returned (I J (iV x 3 b (ah s 512)))∧aa ac W w'):=λW hW=>Oq (hS.nix hW) hsm a b n s t (ah s 512)
 have HR:Hid (R=iV x 3 b (ah s 512)):=by unfold Hid;rw[bp.out];unfold aF;simp
 clear hS hsm hx hc hF hs ht;generalize iV x 3 b (ah s 512)=md at *;generalize ah s 512=ss at *;simp only[aj,ae,Tryz.f54];go_wp2_with fail
 go_region_held3 (λW=>W.cell? ⟨bx,0,none⟩=some (I J x.clock)∧W.cell? ⟨bx,1,none⟩=some (U fo.1 x.fols.length fo.2)∧W.cell? ⟨bx,2,none⟩=some (U fe.1 x.fees.length fe.2)∧W.cell? ⟨bx,3,none⟩=some (U it.1 x.itms.length it.2)∧W.cell? ⟨bx,4,none⟩=some (U se.1 x.seas.length se.2)∧W.cell? ⟨bx,5,none⟩=some (I J x.tFol)∧W.cell? ⟨bx,6,none⟩=some (I J x.tFee)∧W.cell? ⟨bx,7,none⟩=some (I J x.tItm)∧W.cell? ⟨bx,8,none⟩=some (I J x.tSea)∧W.cell? ⟨bc,0,none⟩=some (I J 3)∧W.cell? ⟨bc,1,none⟩=some (I J a)∧W.cell? ⟨bc,2,none⟩=some (I J b)∧W.cell? ⟨bc,3,none⟩=some (I J n)∧W.cell? ⟨bc,4,none⟩=some (V s)∧W.cell? ⟨bc,5,none⟩=some (V t)) ((refine dH.out _ ?_;first|exact(fR wc).drew|exact dI.out|exact pW.out))
  (first|(go_at_call 104;refine(JR.out _ (fR wc).drew).mono ?_;rintro e w1 ⟨rfl,hf⟩;have dI:Hid (aa ac wc w1):=((fR wc).drew).trans hf;clear hf)|(go_at_call 103;refine(KM.out _ dI.out).mono ?_;rintro e w2 ⟨rfl,hf⟩;have pW:Hid (aa ac wc w2):=(dI.out).trans hf;clear hf))
 all_goals
  go_wp2;go_ret;exact⟨by rw[HR.out];rfl,HF.out.trans pW.out⟩
theorem L6(hS:aM wc G fo fe it se ts x)(hsm:aH x)(hx:ai wc bx 36 #[I J x.clock,U fo.1 x.fols.length fo.2,U fe.1 x.fees.length fe.2,U it.1 x.itms.length it.2,U se.1 x.seas.length se.2,I J x.tFol,I J x.tFee,I J x.tItm,I J x.tSea])(hc:ai wc bc 49 #[I J 12,I J a,I J b,I J n,V s,V t])(hF:aa ac w wc)(hs:s.size≤10000)(ht:t.size≤10000):
  Code.wp pQ (aj 2 (ae Tryz.f54)) (bodyPost pQ Tryz.f54 λe w'=>e=.returned (I J (aF ah aC x ⟨12,a,b,n,s,t⟩))∧aa ac w w') ⟨#[u0,u1,O (some ⟨bx,0,none⟩),O (some ⟨bc,0,none⟩),I J 0,.bool fl,u6,u7,u8,u9,u10,u11,u12,u13,u14,u15,u16,eG,eH,eI,eJ,eK,eM,u23,u24,eO,u26,eW,u28,eX,eY,eZ,u32,u33,fh,fj,u36,fk,u38,fw,fx,fy,fG,fH,u44,u45,fJ,fK,gC,gD,gw,gy,gj,gl,gm,gp,fM,fO,fP,fQ,fU,fV,fW,fX,u64,fY,fZ,gc,gg,gF,gO,gP,gQ,gR,gS,gT,gU,gV,gW,gX,gY,gZ,g9,hZ,ie,ig,ii,ij,il,im,io,ip,iw,ix,iy,iz,iJ,iK,iM,iO,cJ,cK,cL,cM,cN,cO,cP,cQ,bH,bI,bJ,bK,bM,bN,bO,bP,bQ,bR,bS,bT,bU,bV,bW,bX,bY,bZ,cd,cg,cj,cn,cq,ct,cz,cA,cC,cD,cE,cF,u138,cG,cR,cS,cT,cU],[]⟩ wc:=by
 have mG:=h_ hx;have dw:=h_ hc;have HF:=h_ hF;obtain⟨R,hR⟩:∃R,aF ah aC x ⟨12,a,b,n,s,t⟩=R:=⟨_,rfl⟩;rw[hR];have bp:=h_ hR.symm;clear hR
 have dH:Hid (∀W,aa ac wc W→W.cell? ⟨bx,0,none⟩=some (I J x.clock)∧W.cell? ⟨bx,1,none⟩=some (U fo.1 x.fols.length fo.2)∧W.cell? ⟨bx,2,none⟩=some (U fe.1 x.fees.length fe.2)∧W.cell? ⟨bx,3,none⟩=some (U it.1 x.itms.length it.2)∧W.cell? ⟨bx,4,none⟩=some (U se.1 x.seas.length se.2)∧W.cell? ⟨bx,5,none⟩=some (I J x.tFol)∧W.cell? ⟨bx,6,none⟩=some (I J x.tFee)∧W.cell? ⟨bx,7,none⟩=some (I J x.tItm)∧W.cell? ⟨bx,8,none⟩=some (I J x.tSea)∧W.cell? ⟨bc,0,none⟩=some (I J 12)∧W.cell? ⟨bc,1,none⟩=some (I J a)∧W.cell? ⟨bc,2,none⟩=some (I J b)∧W.cell? ⟨bc,3,none⟩=some (I J n)∧W.cell? ⟨bc,4,none⟩=some (V s)∧W.cell? ⟨bc,5,none⟩=some (V t)):=λW hW=>by
  obtain⟨y0,y1,y2,y3,y4,y5,y6,y7,y8⟩:=ak (hx.frm hW id);obtain⟨d0,d1,d2,d3,d4,d5⟩:=bn (hc.frm hW id);exact⟨y0,y1,y2,y3,y4,y5,y6,y7,y8,d0,d1,d2,d3,d4,d5⟩
 obtain⟨x0,x1,x2,x3,x4,x5,x6,x7,x8⟩:=ak hx;obtain⟨c0,c1,c2,c3,c4,c5⟩:=bn hc;have MH:Hid (∀W,aa ac wc W→Calls pQ 104 #[V t,I J 512] W λe w'=>e=.returned (V (ah t 512))∧aa ac W w'):=λW hW=>iu t ht 512 (by unfold bj;decide) W
 have JR:Hid (∀W,aa ac wc W→Calls pQ 104 #[V s,I J 64] W λe w'=>e=.returned (V (ah s 64))∧aa ac W w'):=λW hW=>iu s hs 64 (by unfold bj;decide) W
 have KM:Hid (∀W,aa ac wc W→Calls pQ 103 #[bE fo fe it se x,.agg #[I J 12,I J a,I J b,I J n,V s,V t],V (ah s 64)] W λe w'=>e=.returned (I J (iV x 12 b (ah s 64)))∧aa ac W w'):=λW hW=>L0 (hS.nix hW) hsm a b n s t (ah s 64)
 have HE:Hid (R=if ah t 512=eS then 1 else iV x 12 b (ah s 64)):=by unfold Hid;rw[bp.out];unfold aF;simp
 clear hS hsm hx hc hF hs ht;generalize iV x 12 b (ah s 64)=md at *;generalize ah s 64=ss at *;generalize ah t 512=st at *
 by_cases hq:st=eS
 ·have HR:Hid (R=1):=by unfold Hid;rw[HE.out,if_pos hq]
  have JM:st.toList=[]:=cX.2 hq;have JN:st.toList.isEmpty=true:=by rw[JM];rfl
  clear hq;simp only[aj,ae,Tryz.f54];go_wp2_with (first|(go_at_call 104;refine(MH.out _ (fR wc)).mono ?_;rintro e w1 ⟨rfl,hf⟩;have dI:Hid (aa ac wc w1):=((fR wc)).trans hf;obtain⟨x0,x1,x2,x3,x4,x5,x6,x7,x8,c0,c1,c2,c3,c4,c5⟩:=dH.out _ dI.out;clear hf)|fail);go_ret;exact⟨by rw[HR.out];rfl,HF.out.trans dI.out⟩
 ·have HR:Hid (R=md):=by unfold Hid;rw[HE.out,if_neg hq]
  have JM:¬st.toList=[]:=λe=>hq (cX.1 e)
  have JN:st.toList.isEmpty=false:=by cases hh:st.toList.isEmpty with|false=>rfl|true=>exact absurd (List.isEmpty_iff.1 hh) JM
  clear hq;simp only[aj,ae,Tryz.f54];go_wp2_with (first|(go_at_call 104;refine(MH.out _ (fR wc)).mono ?_;rintro e w0 ⟨rfl,hf⟩;have RM:Hid (aa ac wc w0):=((fR wc)).trans hf;obtain⟨x0,x1,x2,x3,x4,x5,x6,x7,x8,c0,c1,c2,c3,c4,c5⟩:=dH.out _ RM.out;clear hf)|fail)
  go_region_held3 (λW=>W.cell? ⟨bx,0,none⟩=some (I J x.clock)∧W.cell? ⟨bx,1,none⟩=some (U fo.1 x.fols.length fo.2)∧W.cell? ⟨bx,2,none⟩=some (U fe.1 x.fees.length fe.2)∧W.cell? ⟨bx,3,none⟩=some (U it.1 x.itms.length it.2)∧W.cell? ⟨bx,4,none⟩=some (U se.1 x.seas.length se.2)∧W.cell? ⟨bx,5,none⟩=some (I J x.tFol)∧W.cell? ⟨bx,6,none⟩=some (I J x.tFee)∧W.cell? ⟨bx,7,none⟩=some (I J x.tItm)∧W.cell? ⟨bx,8,none⟩=some (I J x.tSea)∧W.cell? ⟨bc,0,none⟩=some (I J 12)∧W.cell? ⟨bc,1,none⟩=some (I J a)∧W.cell? ⟨bc,2,none⟩=some (I J b)∧W.cell? ⟨bc,3,none⟩=some (I J n)∧W.cell? ⟨bc,4,none⟩=some (V s)∧W.cell? ⟨bc,5,none⟩=some (V t)) ((refine dH.out _ ?_;first|exact RM.out.drew|exact dI.out|exact pW.out))
   (first|(go_at_call 104;refine(JR.out _ RM.out.drew).mono ?_;rintro e w1 ⟨rfl,hf⟩;have dI:Hid (aa ac wc w1):=(RM.out.drew).trans hf;clear hf)|(go_at_call 103;refine(KM.out _ dI.out).mono ?_;rintro e w2 ⟨rfl,hf⟩;have pW:Hid (aa ac wc w2):=(dI.out).trans hf;clear hf))
  all_goals
   go_wp2;go_ret;exact⟨by rw[HR.out];rfl,HF.out.trans pW.out⟩
theorem Ow(hS:aM wc G fo fe it se ts x)(hsm:aH x)(hx:ai wc bx 36 #[I J x.clock,U fo.1 x.fols.length fo.2,U fe.1 x.fees.length fe.2,U it.1 x.itms.length it.2,U se.1 x.seas.length se.2,I J x.tFol,I J x.tFee,I J x.tItm,I J x.tSea])(hc:ai wc bc 49 #[I J 2,I J a,I J b,I J n,V s,V t])(hF:aa ac w wc)(hs:s.size≤10000)(ht:t.size≤10000):
  Code.wp pQ (aj 2 (ae Tryz.f54)) (bodyPost pQ Tryz.f54 λe w'=>e=.returned (I J (aF ah aC x ⟨2,a,b,n,s,t⟩))∧aa ac w w') ⟨#[u0,u1,O (some ⟨bx,0,none⟩),O (some ⟨bc,0,none⟩),I J 0,.bool fl,u6,u7,u8,u9,u10,u11,u12,u13,u14,u15,u16,eG,eH,eI,eJ,eK,eM,u23,u24,eO,u26,eW,u28,eX,eY,eZ,u32,u33,fh,fj,u36,fk,u38,fw,fx,fy,fG,fH,u44,u45,fJ,fK,gC,gD,gw,gy,gj,gl,gm,gp,fM,fO,fP,fQ,fU,fV,fW,fX,u64,fY,fZ,gc,gg,gF,gO,gP,gQ,gR,gS,gT,gU,gV,gW,gX,gY,gZ,g9,hZ,ie,ig,ii,ij,il,im,io,ip,iw,ix,iy,iz,iJ,iK,iM,iO,cJ,cK,cL,cM,cN,cO,cP,cQ,bH,bI,bJ,bK,bM,bN,bO,bP,bQ,bR,bS,bT,bU,bV,bW,bX,bY,bZ,cd,cg,cj,cn,cq,ct,cz,cA,cC,cD,cE,cF,u138,cG,cR,cS,cT,cU],[]⟩ wc:=by
 have mG:=h_ hx;have dw:=h_ hc;have HF:=h_ hF;obtain⟨R,hR⟩:∃R,aF ah aC x ⟨2,a,b,n,s,t⟩=R:=⟨_,rfl⟩;rw[hR];have bp:=h_ hR.symm;clear hR
 have dH:Hid (∀W,aa ac wc W→W.cell? ⟨bx,0,none⟩=some (I J x.clock)∧W.cell? ⟨bx,1,none⟩=some (U fo.1 x.fols.length fo.2)∧W.cell? ⟨bx,2,none⟩=some (U fe.1 x.fees.length fe.2)∧W.cell? ⟨bx,3,none⟩=some (U it.1 x.itms.length it.2)∧W.cell? ⟨bx,4,none⟩=some (U se.1 x.seas.length se.2)∧W.cell? ⟨bx,5,none⟩=some (I J x.tFol)∧W.cell? ⟨bx,6,none⟩=some (I J x.tFee)∧W.cell? ⟨bx,7,none⟩=some (I J x.tItm)∧W.cell? ⟨bx,8,none⟩=some (I J x.tSea)∧W.cell? ⟨bc,0,none⟩=some (I J 2)∧W.cell? ⟨bc,1,none⟩=some (I J a)∧W.cell? ⟨bc,2,none⟩=some (I J b)∧W.cell? ⟨bc,3,none⟩=some (I J n)∧W.cell? ⟨bc,4,none⟩=some (V s)∧W.cell? ⟨bc,5,none⟩=some (V t)):=λW hW=>by
  obtain⟨y0,y1,y2,y3,y4,y5,y6,y7,y8⟩:=ak (hx.frm hW id);obtain⟨d0,d1,d2,d3,d4,d5⟩:=bn (hc.frm hW id);exact⟨y0,y1,y2,y3,y4,y5,y6,y7,y8,d0,d1,d2,d3,d4,d5⟩
 obtain⟨x0,x1,x2,x3,x4,x5,x6,x7,x8⟩:=ak hx;obtain⟨c0,c1,c2,c3,c4,c5⟩:=bn hc;have Ox:Hid (∀W,aa ac wc W→Calls pQ 72 #[bE fo fe it se x,I J a] W λe w'=>e=.returned (I J (gA bg.id a x.fols))∧aa ac W w'):=λW hW=>ja (hS.nix hW) hsm a
 have pp:Hid (∀W,aa ac wc W→Calls pQ 30 #[bE fo fe it se x,.agg #[I J 2,I J a,I J 0,I J 0,V ⟨#[]⟩,V ⟨#[]⟩,V ⟨#[]⟩]] W λe w'=>e=.returned (.bool (av x ⟨2,a,0,0,eS,eS,eS⟩))∧aa ac W w'):=λW hW=>gJ (hS.nix hW) hsm ⟨2,a,0,0,eS,eS,eS⟩
 have HE:Hid (R=if aS bg.id a x.fols=false then 4 else if av x ⟨2,a,0,0,eS,eS,eS⟩=false then 220 else 0):=by unfold Hid;rw[bp.out];unfold aF;simp
 have HN:=h_ (λh=>tG (g:=bg.id) (i:=a) (l:=x.fols) h);have HY:=h_ (λh=>tH (g:=bg.id) (i:=a) (l:=x.fols) h);clear hS hsm hx hc hF hs ht;generalize av x ⟨2,a,0,0,eS,eS,eS⟩=ft at *;generalize gA bg.id a x.fols=p at *
 cases hi:aS bg.id a x.fols with
 | false=>
   have hp:=HN.out hi;have HR:Hid (R=4):=by unfold Hid;rw[HE.out,if_pos hi]
   clear hi;simp only[aj,ae,Tryz.f54];go_wp2_with (first|(go_at_call 72;refine(Ox.out _ (fR wc)).mono ?_;rintro e w1 ⟨rfl,hf⟩;have dI:Hid (aa ac wc w1):=((fR wc)).trans hf;obtain⟨x0,x1,x2,x3,x4,x5,x6,x7,x8,c0,c1,c2,c3,c4,c5⟩:=dH.out _ dI.out;clear hf)|fail);go_ret
   exact⟨by rw[HR.out];rfl,HF.out.trans dI.out⟩
 | true=>
   have hp:=HY.out hi
   cases ft with
   | false=>
     have HR:Hid (R=220):=by unfold Hid;rw[HE.out,if_neg (by simp[hi]),if_pos rfl]
     clear hi;simp only[aj,ae,Tryz.f54];go_wp2_with (first|(go_at_call 72;refine(Ox.out _ (fR wc)).mono ?_;rintro e w1 ⟨rfl,hf⟩;have dI:Hid (aa ac wc w1):=((fR wc)).trans hf;obtain⟨x0,x1,x2,x3,x4,x5,x6,x7,x8,c0,c1,c2,c3,c4,c5⟩:=dH.out _ dI.out;clear hf)|(go_at_call 30;refine(pp.out _ dI.out).mono ?_;rintro e w2 ⟨rfl,hf⟩;have pW:Hid (aa ac wc w2):=(dI.out).trans hf;obtain⟨x0,x1,x2,x3,x4,x5,x6,x7,x8,c0,c1,c2,c3,c4,c5⟩:=dH.out _ pW.out;clear hf)|fail);go_ret
     exact⟨by rw[HR.out];rfl,HF.out.trans pW.out⟩
   | true=>
     have HR:Hid (R=0):=by unfold Hid;rw[HE.out,if_neg (by simp[hi]),if_neg (by simp)]
     clear hi;simp only[aj,ae,Tryz.f54];go_wp2_with (first|(go_at_call 72;refine(Ox.out _ (fR wc)).mono ?_;rintro e w1 ⟨rfl,hf⟩;have dI:Hid (aa ac wc w1):=((fR wc)).trans hf;obtain⟨x0,x1,x2,x3,x4,x5,x6,x7,x8,c0,c1,c2,c3,c4,c5⟩:=dH.out _ dI.out;clear hf)|(go_at_call 30;refine(pp.out _ dI.out).mono ?_;rintro e w2 ⟨rfl,hf⟩;have pW:Hid (aa ac wc w2):=(dI.out).trans hf;obtain⟨x0,x1,x2,x3,x4,x5,x6,x7,x8,c0,c1,c2,c3,c4,c5⟩:=dH.out _ pW.out;clear hf)|fail);go_ret;exact⟨by rw[HR.out];rfl,HF.out.trans pW.out⟩
theorem Oy(hS:aM wc G fo fe it se ts x)(hsm:aH x)(hx:ai wc bx 36 #[I J x.clock,U fo.1 x.fols.length fo.2,U fe.1 x.fees.length fe.2,U it.1 x.itms.length it.2,U se.1 x.seas.length se.2,I J x.tFol,I J x.tFee,I J x.tItm,I J x.tSea])(hc:ai wc bc 49 #[I J 4,I J a,I J b,I J n,V s,V t])(hF:aa ac w wc)(hs:s.size≤10000)(ht:t.size≤10000):
  Code.wp pQ (aj 2 (ae Tryz.f54)) (bodyPost pQ Tryz.f54 λe w'=>e=.returned (I J (aF ah aC x ⟨4,a,b,n,s,t⟩))∧aa ac w w') ⟨#[u0,u1,O (some ⟨bx,0,none⟩),O (some ⟨bc,0,none⟩),I J 0,.bool fl,u6,u7,u8,u9,u10,u11,u12,u13,u14,u15,u16,eG,eH,eI,eJ,eK,eM,u23,u24,eO,u26,eW,u28,eX,eY,eZ,u32,u33,fh,fj,u36,fk,u38,fw,fx,fy,fG,fH,u44,u45,fJ,fK,gC,gD,gw,gy,gj,gl,gm,gp,fM,fO,fP,fQ,fU,fV,fW,fX,u64,fY,fZ,gc,gg,gF,gO,gP,gQ,gR,gS,gT,gU,gV,gW,gX,gY,gZ,g9,hZ,ie,ig,ii,ij,il,im,io,ip,iw,ix,iy,iz,iJ,iK,iM,iO,cJ,cK,cL,cM,cN,cO,cP,cQ,bH,bI,bJ,bK,bM,bN,bO,bP,bQ,bR,bS,bT,bU,bV,bW,bX,bY,bZ,cd,cg,cj,cn,cq,ct,cz,cA,cC,cD,cE,cF,u138,cG,cR,cS,cT,cU],[]⟩ wc:=by
 have mG:=h_ hx;have dw:=h_ hc;have HF:=h_ hF;obtain⟨R,hR⟩:∃R,aF ah aC x ⟨4,a,b,n,s,t⟩=R:=⟨_,rfl⟩;rw[hR];have bp:=h_ hR.symm;clear hR
 have dH:Hid (∀W,aa ac wc W→W.cell? ⟨bx,0,none⟩=some (I J x.clock)∧W.cell? ⟨bx,1,none⟩=some (U fo.1 x.fols.length fo.2)∧W.cell? ⟨bx,2,none⟩=some (U fe.1 x.fees.length fe.2)∧W.cell? ⟨bx,3,none⟩=some (U it.1 x.itms.length it.2)∧W.cell? ⟨bx,4,none⟩=some (U se.1 x.seas.length se.2)∧W.cell? ⟨bx,5,none⟩=some (I J x.tFol)∧W.cell? ⟨bx,6,none⟩=some (I J x.tFee)∧W.cell? ⟨bx,7,none⟩=some (I J x.tItm)∧W.cell? ⟨bx,8,none⟩=some (I J x.tSea)∧W.cell? ⟨bc,0,none⟩=some (I J 4)∧W.cell? ⟨bc,1,none⟩=some (I J a)∧W.cell? ⟨bc,2,none⟩=some (I J b)∧W.cell? ⟨bc,3,none⟩=some (I J n)∧W.cell? ⟨bc,4,none⟩=some (V s)∧W.cell? ⟨bc,5,none⟩=some (V t)):=λW hW=>by
  obtain⟨y0,y1,y2,y3,y4,y5,y6,y7,y8⟩:=ak (hx.frm hW id);obtain⟨d0,d1,d2,d3,d4,d5⟩:=bn (hc.frm hW id);exact⟨y0,y1,y2,y3,y4,y5,y6,y7,y8,d0,d1,d2,d3,d4,d5⟩
 obtain⟨x0,x1,x2,x3,x4,x5,x6,x7,x8⟩:=ak hx;obtain⟨c0,c1,c2,c3,c4,c5⟩:=bn hc;have Ho:Hid (∀W,aa ac wc W→Calls pQ 33 #[bE fo fe it se x,I J a] W λe w'=>e=.returned (I J (gA aP.id a x.fees))∧aa ac W w'):=λW hW=>gi (hS.nix hW) hsm a
 have HE:Hid (R=if aS aP.id a x.fees=false then 4 else 0):=by unfold Hid;rw[bp.out];unfold aF;simp
 have HN:=h_ (λh=>tG (g:=aP.id) (i:=a) (l:=x.fees) h);have HY:=h_ (λh=>tH (g:=aP.id) (i:=a) (l:=x.fees) h);clear hS hsm hx hc hF hs ht;generalize gA aP.id a x.fees=p at *
 cases hi:aS aP.id a x.fees with
 | false=>
   have hp:=HN.out hi;have HR:Hid (R=4):=by unfold Hid;rw[HE.out,if_pos hi]
   clear hi;simp only[aj,ae,Tryz.f54];go_wp2_with (first|(go_at_call 33;refine(Ho.out _ (fR wc)).mono ?_;rintro e w1 ⟨rfl,hf⟩;have dI:Hid (aa ac wc w1):=((fR wc)).trans hf;obtain⟨x0,x1,x2,x3,x4,x5,x6,x7,x8,c0,c1,c2,c3,c4,c5⟩:=dH.out _ dI.out;clear hf)|fail);go_ret
   exact⟨by rw[HR.out];rfl,HF.out.trans dI.out⟩
 | true=>
   have hp:=HY.out hi;have HR:Hid (R=0):=by unfold Hid;rw[HE.out,if_neg (by simp[hi])]
   clear hi;simp only[aj,ae,Tryz.f54];go_wp2_with (first|(go_at_call 33;refine(Ho.out _ (fR wc)).mono ?_;rintro e w1 ⟨rfl,hf⟩;have dI:Hid (aa ac wc w1):=((fR wc)).trans hf;obtain⟨x0,x1,x2,x3,x4,x5,x6,x7,x8,c0,c1,c2,c3,c4,c5⟩:=dH.out _ dI.out;clear hf)|fail);go_ret;exact⟨by rw[HR.out];rfl,HF.out.trans dI.out⟩
theorem Oz(hS:aM wc G fo fe it se ts x)(hsm:aH x)(hx:ai wc bx 36 #[I J x.clock,U fo.1 x.fols.length fo.2,U fe.1 x.fees.length fe.2,U it.1 x.itms.length it.2,U se.1 x.seas.length se.2,I J x.tFol,I J x.tFee,I J x.tItm,I J x.tSea])(hc:ai wc bc 49 #[I J 5,I J a,I J b,I J n,V s,V t])(hF:aa ac w wc)(hs:s.size≤10000)(ht:t.size≤10000):
  Code.wp pQ (aj 2 (ae Tryz.f54)) (bodyPost pQ Tryz.f54 λe w'=>e=.returned (I J (aF ah aC x ⟨5,a,b,n,s,t⟩))∧aa ac w w') ⟨#[u0,u1,O (some ⟨bx,0,none⟩),O (some ⟨bc,0,none⟩),I J 0,.bool fl,u6,u7,u8,u9,u10,u11,u12,u13,u14,u15,u16,eG,eH,eI,eJ,eK,eM,u23,u24,eO,u26,eW,u28,eX,eY,eZ,u32,u33,fh,fj,u36,fk,u38,fw,fx,fy,fG,fH,u44,u45,fJ,fK,gC,gD,gw,gy,gj,gl,gm,gp,fM,fO,fP,fQ,fU,fV,fW,fX,u64,fY,fZ,gc,gg,gF,gO,gP,gQ,gR,gS,gT,gU,gV,gW,gX,gY,gZ,g9,hZ,ie,ig,ii,ij,il,im,io,ip,iw,ix,iy,iz,iJ,iK,iM,iO,cJ,cK,cL,cM,cN,cO,cP,cQ,bH,bI,bJ,bK,bM,bN,bO,bP,bQ,bR,bS,bT,bU,bV,bW,bX,bY,bZ,cd,cg,cj,cn,cq,ct,cz,cA,cC,cD,cE,cF,u138,cG,cR,cS,cT,cU],[]⟩ wc:=by
 have mG:=h_ hx;have dw:=h_ hc;have HF:=h_ hF;obtain⟨R,hR⟩:∃R,aF ah aC x ⟨5,a,b,n,s,t⟩=R:=⟨_,rfl⟩;rw[hR];have bp:=h_ hR.symm;clear hR
 have dH:Hid (∀W,aa ac wc W→W.cell? ⟨bx,0,none⟩=some (I J x.clock)∧W.cell? ⟨bx,1,none⟩=some (U fo.1 x.fols.length fo.2)∧W.cell? ⟨bx,2,none⟩=some (U fe.1 x.fees.length fe.2)∧W.cell? ⟨bx,3,none⟩=some (U it.1 x.itms.length it.2)∧W.cell? ⟨bx,4,none⟩=some (U se.1 x.seas.length se.2)∧W.cell? ⟨bx,5,none⟩=some (I J x.tFol)∧W.cell? ⟨bx,6,none⟩=some (I J x.tFee)∧W.cell? ⟨bx,7,none⟩=some (I J x.tItm)∧W.cell? ⟨bx,8,none⟩=some (I J x.tSea)∧W.cell? ⟨bc,0,none⟩=some (I J 5)∧W.cell? ⟨bc,1,none⟩=some (I J a)∧W.cell? ⟨bc,2,none⟩=some (I J b)∧W.cell? ⟨bc,3,none⟩=some (I J n)∧W.cell? ⟨bc,4,none⟩=some (V s)∧W.cell? ⟨bc,5,none⟩=some (V t)):=λW hW=>by
  obtain⟨y0,y1,y2,y3,y4,y5,y6,y7,y8⟩:=ak (hx.frm hW id);obtain⟨d0,d1,d2,d3,d4,d5⟩:=bn (hc.frm hW id);exact⟨y0,y1,y2,y3,y4,y5,y6,y7,y8,d0,d1,d2,d3,d4,d5⟩
 obtain⟨x0,x1,x2,x3,x4,x5,x6,x7,x8⟩:=ak hx;obtain⟨c0,c1,c2,c3,c4,c5⟩:=bn hc;have Ho:Hid (∀W,aa ac wc W→Calls pQ 33 #[bE fo fe it se x,I J a] W λe w'=>e=.returned (I J (gA aP.id a x.fees))∧aa ac W w'):=λW hW=>gi (hS.nix hW) hsm a
 have HE:Hid (R=if aS aP.id a x.fees=false then 4 else 0):=by unfold Hid;rw[bp.out];unfold aF;simp
 have HN:=h_ (λh=>tG (g:=aP.id) (i:=a) (l:=x.fees) h);have HY:=h_ (λh=>tH (g:=aP.id) (i:=a) (l:=x.fees) h);clear hS hsm hx hc hF hs ht;generalize gA aP.id a x.fees=p at *
 cases hi:aS aP.id a x.fees with
 | false=>
   have hp:=HN.out hi;have HR:Hid (R=4):=by unfold Hid;rw[HE.out,if_pos hi]
   clear hi;simp only[aj,ae,Tryz.f54];go_wp2_with (first|(go_at_call 33;refine(Ho.out _ (fR wc)).mono ?_;rintro e w1 ⟨rfl,hf⟩;have dI:Hid (aa ac wc w1):=((fR wc)).trans hf;obtain⟨x0,x1,x2,x3,x4,x5,x6,x7,x8,c0,c1,c2,c3,c4,c5⟩:=dH.out _ dI.out;clear hf)|fail);go_ret
   exact⟨by rw[HR.out];rfl,HF.out.trans dI.out⟩
 | true=>
   have hp:=HY.out hi;have HR:Hid (R=0):=by unfold Hid;rw[HE.out,if_neg (by simp[hi])]
   clear hi;simp only[aj,ae,Tryz.f54];go_wp2_with (first|(go_at_call 33;refine(Ho.out _ (fR wc)).mono ?_;rintro e w1 ⟨rfl,hf⟩;have dI:Hid (aa ac wc w1):=((fR wc)).trans hf;obtain⟨x0,x1,x2,x3,x4,x5,x6,x7,x8,c0,c1,c2,c3,c4,c5⟩:=dH.out _ dI.out;clear hf)|fail);go_ret;exact⟨by rw[HR.out];rfl,HF.out.trans dI.out⟩
theorem L8(hS:aM wc G fo fe it se ts x)(hsm:aH x)(hx:ai wc bx 36 #[I J x.clock,U fo.1 x.fols.length fo.2,U fe.1 x.fees.length fe.2,U it.1 x.itms.length it.2,U se.1 x.seas.length se.2,I J x.tFol,I J x.tFee,I J x.tItm,I J x.tSea])(hc:ai wc bc 49 #[I J 10,I J a,I J b,I J n,V s,V t])(hF:aa ac w wc)(hs:s.size≤10000)(ht:t.size≤10000):
  Code.wp pQ (aj 2 (ae Tryz.f54)) (bodyPost pQ Tryz.f54 λe w'=>e=.returned (I J (aF ah aC x ⟨10,a,b,n,s,t⟩))∧aa ac w w') ⟨#[u0,u1,O (some ⟨bx,0,none⟩),O (some ⟨bc,0,none⟩),I J 0,.bool fl,u6,u7,u8,u9,u10,u11,u12,u13,u14,u15,u16,eG,eH,eI,eJ,eK,eM,u23,u24,eO,u26,eW,u28,eX,eY,eZ,u32,u33,fh,fj,u36,fk,u38,fw,fx,fy,fG,fH,u44,u45,fJ,fK,gC,gD,gw,gy,gj,gl,gm,gp,fM,fO,fP,fQ,fU,fV,fW,fX,u64,fY,fZ,gc,gg,gF,gO,gP,gQ,gR,gS,gT,gU,gV,gW,gX,gY,gZ,g9,hZ,ie,ig,ii,ij,il,im,io,ip,iw,ix,iy,iz,iJ,iK,iM,iO,cJ,cK,cL,cM,cN,cO,cP,cQ,bH,bI,bJ,bK,bM,bN,bO,bP,bQ,bR,bS,bT,bU,bV,bW,bX,bY,bZ,cd,cg,cj,cn,cq,ct,cz,cA,cC,cD,cE,cF,u138,cG,cR,cS,cT,cU],[]⟩ wc:=by
 have mG:=h_ hx;have dw:=h_ hc;have HF:=h_ hF;obtain⟨R,hR⟩:∃R,aF ah aC x ⟨10,a,b,n,s,t⟩=R:=⟨_,rfl⟩;rw[hR];have bp:=h_ hR.symm;clear hR
 have dH:Hid (∀W,aa ac wc W→W.cell? ⟨bx,0,none⟩=some (I J x.clock)∧W.cell? ⟨bx,1,none⟩=some (U fo.1 x.fols.length fo.2)∧W.cell? ⟨bx,2,none⟩=some (U fe.1 x.fees.length fe.2)∧W.cell? ⟨bx,3,none⟩=some (U it.1 x.itms.length it.2)∧W.cell? ⟨bx,4,none⟩=some (U se.1 x.seas.length se.2)∧W.cell? ⟨bx,5,none⟩=some (I J x.tFol)∧W.cell? ⟨bx,6,none⟩=some (I J x.tFee)∧W.cell? ⟨bx,7,none⟩=some (I J x.tItm)∧W.cell? ⟨bx,8,none⟩=some (I J x.tSea)∧W.cell? ⟨bc,0,none⟩=some (I J 10)∧W.cell? ⟨bc,1,none⟩=some (I J a)∧W.cell? ⟨bc,2,none⟩=some (I J b)∧W.cell? ⟨bc,3,none⟩=some (I J n)∧W.cell? ⟨bc,4,none⟩=some (V s)∧W.cell? ⟨bc,5,none⟩=some (V t)):=λW hW=>by
  obtain⟨y0,y1,y2,y3,y4,y5,y6,y7,y8⟩:=ak (hx.frm hW id);obtain⟨d0,d1,d2,d3,d4,d5⟩:=bn (hc.frm hW id);exact⟨y0,y1,y2,y3,y4,y5,y6,y7,y8,d0,d1,d2,d3,d4,d5⟩
 obtain⟨x0,x1,x2,x3,x4,x5,x6,x7,x8⟩:=ak hx;obtain⟨c0,c1,c2,c3,c4,c5⟩:=bn hc;have Ho:Hid (∀W,aa ac wc W→Calls pQ 33 #[bE fo fe it se x,I J a] W λe w'=>e=.returned (I J (gA aP.id a x.fees))∧aa ac W w'):=λW hW=>gi (hS.nix hW) hsm a
 have HE:Hid (R=if aS aP.id a x.fees=false then 4 else 0):=by unfold Hid;rw[bp.out];unfold aF;simp
 have HN:=h_ (λh=>tG (g:=aP.id) (i:=a) (l:=x.fees) h);have HY:=h_ (λh=>tH (g:=aP.id) (i:=a) (l:=x.fees) h);clear hS hsm hx hc hF hs ht;generalize gA aP.id a x.fees=p at *
 cases hi:aS aP.id a x.fees with
 | false=>
   have hp:=HN.out hi;have HR:Hid (R=4):=by unfold Hid;rw[HE.out,if_pos hi]
   clear hi;simp only[aj,ae,Tryz.f54];go_wp2_with (first|(go_at_call 33;refine(Ho.out _ (fR wc)).mono ?_;rintro e w1 ⟨rfl,hf⟩;have dI:Hid (aa ac wc w1):=((fR wc)).trans hf;obtain⟨x0,x1,x2,x3,x4,x5,x6,x7,x8,c0,c1,c2,c3,c4,c5⟩:=dH.out _ dI.out;clear hf)|fail);go_ret
   exact⟨by rw[HR.out];rfl,HF.out.trans dI.out⟩
 | true=>
   have hp:=HY.out hi;have HR:Hid (R=0):=by unfold Hid;rw[HE.out,if_neg (by simp[hi])]
   clear hi;simp only[aj,ae,Tryz.f54];go_wp2_with (first|(go_at_call 33;refine(Ho.out _ (fR wc)).mono ?_;rintro e w1 ⟨rfl,hf⟩;have dI:Hid (aa ac wc w1):=((fR wc)).trans hf;obtain⟨x0,x1,x2,x3,x4,x5,x6,x7,x8,c0,c1,c2,c3,c4,c5⟩:=dH.out _ dI.out;clear hf)|fail);go_ret;exact⟨by rw[HR.out];rfl,HF.out.trans dI.out⟩
theorem L9(hS:aM wc G fo fe it se ts x)(hsm:aH x)(hx:ai wc bx 36 #[I J x.clock,U fo.1 x.fols.length fo.2,U fe.1 x.fees.length fe.2,U it.1 x.itms.length it.2,U se.1 x.seas.length se.2,I J x.tFol,I J x.tFee,I J x.tItm,I J x.tSea])(hc:ai wc bc 49 #[I J 13,I J a,I J b,I J n,V s,V t])(hF:aa ac w wc)(hs:s.size≤10000)(ht:t.size≤10000):
  Code.wp pQ (aj 2 (ae Tryz.f54)) (bodyPost pQ Tryz.f54 λe w'=>e=.returned (I J (aF ah aC x ⟨13,a,b,n,s,t⟩))∧aa ac w w') ⟨#[u0,u1,O (some ⟨bx,0,none⟩),O (some ⟨bc,0,none⟩),I J 0,.bool fl,u6,u7,u8,u9,u10,u11,u12,u13,u14,u15,u16,eG,eH,eI,eJ,eK,eM,u23,u24,eO,u26,eW,u28,eX,eY,eZ,u32,u33,fh,fj,u36,fk,u38,fw,fx,fy,fG,fH,u44,u45,fJ,fK,gC,gD,gw,gy,gj,gl,gm,gp,fM,fO,fP,fQ,fU,fV,fW,fX,u64,fY,fZ,gc,gg,gF,gO,gP,gQ,gR,gS,gT,gU,gV,gW,gX,gY,gZ,g9,hZ,ie,ig,ii,ij,il,im,io,ip,iw,ix,iy,iz,iJ,iK,iM,iO,cJ,cK,cL,cM,cN,cO,cP,cQ,bH,bI,bJ,bK,bM,bN,bO,bP,bQ,bR,bS,bT,bU,bV,bW,bX,bY,bZ,cd,cg,cj,cn,cq,ct,cz,cA,cC,cD,cE,cF,u138,cG,cR,cS,cT,cU],[]⟩ wc:=by
 have mG:=h_ hx;have dw:=h_ hc;have HF:=h_ hF;obtain⟨R,hR⟩:∃R,aF ah aC x ⟨13,a,b,n,s,t⟩=R:=⟨_,rfl⟩;rw[hR];have bp:=h_ hR.symm;clear hR
 have dH:Hid (∀W,aa ac wc W→W.cell? ⟨bx,0,none⟩=some (I J x.clock)∧W.cell? ⟨bx,1,none⟩=some (U fo.1 x.fols.length fo.2)∧W.cell? ⟨bx,2,none⟩=some (U fe.1 x.fees.length fe.2)∧W.cell? ⟨bx,3,none⟩=some (U it.1 x.itms.length it.2)∧W.cell? ⟨bx,4,none⟩=some (U se.1 x.seas.length se.2)∧W.cell? ⟨bx,5,none⟩=some (I J x.tFol)∧W.cell? ⟨bx,6,none⟩=some (I J x.tFee)∧W.cell? ⟨bx,7,none⟩=some (I J x.tItm)∧W.cell? ⟨bx,8,none⟩=some (I J x.tSea)∧W.cell? ⟨bc,0,none⟩=some (I J 13)∧W.cell? ⟨bc,1,none⟩=some (I J a)∧W.cell? ⟨bc,2,none⟩=some (I J b)∧W.cell? ⟨bc,3,none⟩=some (I J n)∧W.cell? ⟨bc,4,none⟩=some (V s)∧W.cell? ⟨bc,5,none⟩=some (V t)):=λW hW=>by
  obtain⟨y0,y1,y2,y3,y4,y5,y6,y7,y8⟩:=ak (hx.frm hW id);obtain⟨d0,d1,d2,d3,d4,d5⟩:=bn (hc.frm hW id);exact⟨y0,y1,y2,y3,y4,y5,y6,y7,y8,d0,d1,d2,d3,d4,d5⟩
 obtain⟨x0,x1,x2,x3,x4,x5,x6,x7,x8⟩:=ak hx;obtain⟨c0,c1,c2,c3,c4,c5⟩:=bn hc;have VF:Hid (∀W,aa ac wc W→Calls pQ 79 #[bE fo fe it se x,I J a] W λe w'=>e=.returned (I J (gA dE.id a x.seas))∧aa ac W w'):=λW hW=>px (hS.nix hW) hsm a
 have HE:Hid (R=if aS dE.id a x.seas=false then 4 else 0):=by unfold Hid;rw[bp.out];unfold aF;simp
 have HN:=h_ (λh=>tG (g:=dE.id) (i:=a) (l:=x.seas) h);have HY:=h_ (λh=>tH (g:=dE.id) (i:=a) (l:=x.seas) h);clear hS hsm hx hc hF hs ht;generalize gA dE.id a x.seas=p at *
 cases hi:aS dE.id a x.seas with
 | false=>
   have hp:=HN.out hi;have HR:Hid (R=4):=by unfold Hid;rw[HE.out,if_pos hi]
   clear hi;simp only[aj,ae,Tryz.f54];go_wp2_with (first|(go_at_call 79;refine(VF.out _ (fR wc)).mono ?_;rintro e w1 ⟨rfl,hf⟩;have dI:Hid (aa ac wc w1):=((fR wc)).trans hf;obtain⟨x0,x1,x2,x3,x4,x5,x6,x7,x8,c0,c1,c2,c3,c4,c5⟩:=dH.out _ dI.out;clear hf)|fail);go_ret
   exact⟨by rw[HR.out];rfl,HF.out.trans dI.out⟩
 | true=>
   have hp:=HY.out hi;have HR:Hid (R=0):=by unfold Hid;rw[HE.out,if_neg (by simp[hi])]
   clear hi;simp only[aj,ae,Tryz.f54];go_wp2_with (first|(go_at_call 79;refine(VF.out _ (fR wc)).mono ?_;rintro e w1 ⟨rfl,hf⟩;have dI:Hid (aa ac wc w1):=((fR wc)).trans hf;obtain⟨x0,x1,x2,x3,x4,x5,x6,x7,x8,c0,c1,c2,c3,c4,c5⟩:=dH.out _ dI.out;clear hf)|fail);go_ret;exact⟨by rw[HR.out];rfl,HF.out.trans dI.out⟩
theorem Ma(hS:aM wc G fo fe it se ts x)(hsm:aH x)(hx:ai wc bx 36 #[I J x.clock,U fo.1 x.fols.length fo.2,U fe.1 x.fees.length fe.2,U it.1 x.itms.length it.2,U se.1 x.seas.length se.2,I J x.tFol,I J x.tFee,I J x.tItm,I J x.tSea])(hc:ai wc bc 49 #[I J 11,I J a,I J b,I J n,V s,V t])(hF:aa ac w wc)(hs:s.size≤10000)(ht:t.size≤10000):
  Code.wp pQ (aj 2 (ae Tryz.f54)) (bodyPost pQ Tryz.f54 λe w'=>e=.returned (I J (aF ah aC x ⟨11,a,b,n,s,t⟩))∧aa ac w w') ⟨#[u0,u1,O (some ⟨bx,0,none⟩),O (some ⟨bc,0,none⟩),I J 0,.bool fl,u6,u7,u8,u9,u10,u11,u12,u13,u14,u15,u16,eG,eH,eI,eJ,eK,eM,u23,u24,eO,u26,eW,u28,eX,eY,eZ,u32,u33,fh,fj,u36,fk,u38,fw,fx,fy,fG,fH,u44,u45,fJ,fK,gC,gD,gw,gy,gj,gl,gm,gp,fM,fO,fP,fQ,fU,fV,fW,fX,u64,fY,fZ,gc,gg,gF,gO,gP,gQ,gR,gS,gT,gU,gV,gW,gX,gY,gZ,g9,hZ,ie,ig,ii,ij,il,im,io,ip,iw,ix,iy,iz,iJ,iK,iM,iO,cJ,cK,cL,cM,cN,cO,cP,cQ,bH,bI,bJ,bK,bM,bN,bO,bP,bQ,bR,bS,bT,bU,bV,bW,bX,bY,bZ,cd,cg,cj,cn,cq,ct,cz,cA,cC,cD,cE,cF,u138,cG,cR,cS,cT,cU],[]⟩ wc:=by
 have mG:=h_ hx;have dw:=h_ hc;have HF:=h_ hF;obtain⟨R,hR⟩:∃R,aF ah aC x ⟨11,a,b,n,s,t⟩=R:=⟨_,rfl⟩;rw[hR];have bp:=h_ hR.symm;clear hR
 have dH:Hid (∀W,aa ac wc W→W.cell? ⟨bx,0,none⟩=some (I J x.clock)∧W.cell? ⟨bx,1,none⟩=some (U fo.1 x.fols.length fo.2)∧W.cell? ⟨bx,2,none⟩=some (U fe.1 x.fees.length fe.2)∧W.cell? ⟨bx,3,none⟩=some (U it.1 x.itms.length it.2)∧W.cell? ⟨bx,4,none⟩=some (U se.1 x.seas.length se.2)∧W.cell? ⟨bx,5,none⟩=some (I J x.tFol)∧W.cell? ⟨bx,6,none⟩=some (I J x.tFee)∧W.cell? ⟨bx,7,none⟩=some (I J x.tItm)∧W.cell? ⟨bx,8,none⟩=some (I J x.tSea)∧W.cell? ⟨bc,0,none⟩=some (I J 11)∧W.cell? ⟨bc,1,none⟩=some (I J a)∧W.cell? ⟨bc,2,none⟩=some (I J b)∧W.cell? ⟨bc,3,none⟩=some (I J n)∧W.cell? ⟨bc,4,none⟩=some (V s)∧W.cell? ⟨bc,5,none⟩=some (V t)):=λW hW=>by
  obtain⟨y0,y1,y2,y3,y4,y5,y6,y7,y8⟩:=ak (hx.frm hW id);obtain⟨d0,d1,d2,d3,d4,d5⟩:=bn (hc.frm hW id);exact⟨y0,y1,y2,y3,y4,y5,y6,y7,y8,d0,d1,d2,d3,d4,d5⟩
 obtain⟨x0,x1,x2,x3,x4,x5,x6,x7,x8⟩:=ak hx;obtain⟨c0,c1,c2,c3,c4,c5⟩:=bn hc;have yr:Hid (∀W,aa ac wc W→Calls pQ 105 #[bE fo fe it se x,I J a] W λe w'=>e=.returned (.bool (eQ x a))∧aa ac W w'):=λW hW=>sr (hS.nix hW) hsm a
 have HE:Hid (R=if eQ x a=false then 4 else 0):=by unfold Hid;rw[bp.out];unfold aF;simp
 clear hS hsm hx hc hF hs ht;generalize eQ x a=ib at *
 cases ib with
 | false=>
   have HR:Hid (R=4):=by unfold Hid;rw[HE.out,if_pos rfl]
   simp only[aj,ae,Tryz.f54];go_wp2_with (first|(go_at_call 105;refine(yr.out _ (fR wc)).mono ?_;rintro e w1 ⟨rfl,hf⟩;have dI:Hid (aa ac wc w1):=((fR wc)).trans hf;obtain⟨x0,x1,x2,x3,x4,x5,x6,x7,x8,c0,c1,c2,c3,c4,c5⟩:=dH.out _ dI.out;clear hf)|fail);go_ret
   exact⟨by rw[HR.out];rfl,HF.out.trans dI.out⟩
 | true=>
   have HR:Hid (R=0):=by unfold Hid;rw[HE.out,if_neg (by simp)]
   simp only[aj,ae,Tryz.f54];go_wp2_with (first|(go_at_call 105;refine(yr.out _ (fR wc)).mono ?_;rintro e w1 ⟨rfl,hf⟩;have dI:Hid (aa ac wc w1):=((fR wc)).trans hf;obtain⟨x0,x1,x2,x3,x4,x5,x6,x7,x8,c0,c1,c2,c3,c4,c5⟩:=dH.out _ dI.out;clear hf)|fail);go_ret;exact⟨by rw[HR.out];rfl,HF.out.trans dI.out⟩
theorem OA(hS:aM wc G fo fe it se ts x)(hsm:aH x)(hx:ai wc bx 36 #[I J x.clock,U fo.1 x.fols.length fo.2,U fe.1 x.fees.length fe.2,U it.1 x.itms.length it.2,U se.1 x.seas.length se.2,I J x.tFol,I J x.tFee,I J x.tItm,I J x.tSea])(hc:ai wc bc 49 #[I J 6,I J a,I J b,I J n,V s,V t])(hF:aa ac w wc)(hs:s.size≤10000)(ht:t.size≤10000):
  Code.wp pQ (aj 2 (ae Tryz.f54)) (bodyPost pQ Tryz.f54 λe w'=>e=.returned (I J (aF ah aC x ⟨6,a,b,n,s,t⟩))∧aa ac w w') ⟨#[u0,u1,O (some ⟨bx,0,none⟩),O (some ⟨bc,0,none⟩),I J 0,.bool fl,u6,u7,u8,u9,u10,u11,u12,u13,u14,u15,u16,eG,eH,eI,eJ,eK,eM,u23,u24,eO,u26,eW,u28,eX,eY,eZ,u32,u33,fh,fj,u36,fk,u38,fw,fx,fy,fG,fH,u44,u45,fJ,fK,gC,gD,gw,gy,gj,gl,gm,gp,fM,fO,fP,fQ,fU,fV,fW,fX,u64,fY,fZ,gc,gg,gF,gO,gP,gQ,gR,gS,gT,gU,gV,gW,gX,gY,gZ,g9,hZ,ie,ig,ii,ij,il,im,io,ip,iw,ix,iy,iz,iJ,iK,iM,iO,cJ,cK,cL,cM,cN,cO,cP,cQ,bH,bI,bJ,bK,bM,bN,bO,bP,bQ,bR,bS,bT,bU,bV,bW,bX,bY,bZ,cd,cg,cj,cn,cq,ct,cz,cA,cC,cD,cE,cF,u138,cG,cR,cS,cT,cU],[]⟩ wc:=by
 have mG:=h_ hx;have dw:=h_ hc;have HF:=h_ hF;obtain⟨R,hR⟩:∃R,aF ah aC x ⟨6,a,b,n,s,t⟩=R:=⟨_,rfl⟩;rw[hR];have bp:=h_ hR.symm;clear hR
 have dH:Hid (∀W,aa ac wc W→W.cell? ⟨bx,0,none⟩=some (I J x.clock)∧W.cell? ⟨bx,1,none⟩=some (U fo.1 x.fols.length fo.2)∧W.cell? ⟨bx,2,none⟩=some (U fe.1 x.fees.length fe.2)∧W.cell? ⟨bx,3,none⟩=some (U it.1 x.itms.length it.2)∧W.cell? ⟨bx,4,none⟩=some (U se.1 x.seas.length se.2)∧W.cell? ⟨bx,5,none⟩=some (I J x.tFol)∧W.cell? ⟨bx,6,none⟩=some (I J x.tFee)∧W.cell? ⟨bx,7,none⟩=some (I J x.tItm)∧W.cell? ⟨bx,8,none⟩=some (I J x.tSea)∧W.cell? ⟨bc,0,none⟩=some (I J 6)∧W.cell? ⟨bc,1,none⟩=some (I J a)∧W.cell? ⟨bc,2,none⟩=some (I J b)∧W.cell? ⟨bc,3,none⟩=some (I J n)∧W.cell? ⟨bc,4,none⟩=some (V s)∧W.cell? ⟨bc,5,none⟩=some (V t)):=λW hW=>by
  obtain⟨y0,y1,y2,y3,y4,y5,y6,y7,y8⟩:=ak (hx.frm hW id);obtain⟨d0,d1,d2,d3,d4,d5⟩:=bn (hc.frm hW id);exact⟨y0,y1,y2,y3,y4,y5,y6,y7,y8,d0,d1,d2,d3,d4,d5⟩
 obtain⟨x0,x1,x2,x3,x4,x5,x6,x7,x8⟩:=ak hx;obtain⟨c0,c1,c2,c3,c4,c5⟩:=bn hc;have Ho:Hid (∀W,aa ac wc W→Calls pQ 33 #[bE fo fe it se x,I J a] W λe w'=>e=.returned (I J (gA aP.id a x.fees))∧aa ac W w'):=λW hW=>gi (hS.nix hW) hsm a
 have yr:Hid (∀W,aa ac wc W→Calls pQ 105 #[bE fo fe it se x,I J b] W λe w'=>e=.returned (.bool (eQ x b))∧aa ac W w'):=λW hW=>sr (hS.nix hW) hsm b
 have HE:Hid (R=if aS aP.id a x.fees=false∨eQ x b=false then 4 else 0):=by unfold Hid;rw[bp.out];unfold aF;simp
 have HN:=h_ (λh=>tG (g:=aP.id) (i:=a) (l:=x.fees) h);have HY:=h_ (λh=>tH (g:=aP.id) (i:=a) (l:=x.fees) h);clear hS hsm hx hc hF hs ht;generalize gA aP.id a x.fees=p at *;generalize eQ x b=ib at *
 cases hi:aS aP.id a x.fees with
 | false=>
   have hp:=HN.out hi;have HR:Hid (R=4):=by unfold Hid;rw[HE.out,if_pos (.inl hi)]
   clear hi;simp only[aj,ae,Tryz.f54];go_wp2_with (first|(go_at_call 33;refine(Ho.out _ (fR wc)).mono ?_;rintro e w1 ⟨rfl,hf⟩;have dI:Hid (aa ac wc w1):=((fR wc)).trans hf;obtain⟨x0,x1,x2,x3,x4,x5,x6,x7,x8,c0,c1,c2,c3,c4,c5⟩:=dH.out _ dI.out;clear hf)|fail);go_ret
   exact⟨by rw[HR.out];rfl,HF.out.trans dI.out⟩
 | true=>
   have hp:=HY.out hi
   cases ib with
   | false=>
     have HR:Hid (R=4):=by unfold Hid;rw[HE.out,if_pos (.inr rfl)]
     clear hi;simp only[aj,ae,Tryz.f54];go_wp2_with (first|(go_at_call 33;refine(Ho.out _ (fR wc)).mono ?_;rintro e w1 ⟨rfl,hf⟩;have dI:Hid (aa ac wc w1):=((fR wc)).trans hf;obtain⟨x0,x1,x2,x3,x4,x5,x6,x7,x8,c0,c1,c2,c3,c4,c5⟩:=dH.out _ dI.out;clear hf)|(go_at_call 105;refine(yr.out _ dI.out).mono ?_;rintro e w2 ⟨rfl,hf⟩;have pW:Hid (aa ac wc w2):=(dI.out).trans hf;obtain⟨x0,x1,x2,x3,x4,x5,x6,x7,x8,c0,c1,c2,c3,c4,c5⟩:=dH.out _ pW.out;clear hf)|fail);go_ret
     exact⟨by rw[HR.out];rfl,HF.out.trans pW.out⟩
   | true=>
     have HR:Hid (R=0):=by unfold Hid;rw[HE.out,if_neg (by simp[hi])]
     clear hi;simp only[aj,ae,Tryz.f54];go_wp2_with (first|(go_at_call 33;refine(Ho.out _ (fR wc)).mono ?_;rintro e w1 ⟨rfl,hf⟩;have dI:Hid (aa ac wc w1):=((fR wc)).trans hf;obtain⟨x0,x1,x2,x3,x4,x5,x6,x7,x8,c0,c1,c2,c3,c4,c5⟩:=dH.out _ dI.out;clear hf)|(go_at_call 105;refine(yr.out _ dI.out).mono ?_;rintro e w2 ⟨rfl,hf⟩;have pW:Hid (aa ac wc w2):=(dI.out).trans hf;obtain⟨x0,x1,x2,x3,x4,x5,x6,x7,x8,c0,c1,c2,c3,c4,c5⟩:=dH.out _ pW.out;clear hf)|fail);go_ret;exact⟨by rw[HR.out];rfl,HF.out.trans pW.out⟩
end Go.Proofs.YtaecjmiobllhmaaGreat
