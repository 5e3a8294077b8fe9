/- Words. -/
import Derived.Test.YtaecjmiobllhmaaGreatGr69
set_option linter.unusedVariables false
set_option linter.unusedSimpArgs false
set_option maxRecDepth 100000
set_option maxHeartbeats 16000000
namespace Go.Proofs.YtaecjmiobllhmaaGreat
open Go.Value renaming int→I,slice→U,pointer→O
open Go.IntKind renaming i64→J
open Tryz renaming prog→pQ
open Go.RowKit Go.Lib
variable {b1:Nat}{fo fe it se:Sl}{ts:List (Sl×aR)}{x:St}{G:Nat→Prop}{w wc:World}{r:Bool}{u0 u2 u3 u4 u5 u6 u7 u8 u9 u10 u11 u12 u13 u14 u15 u16 cG cH cI cR cS cT u23 u24 cN u26 dc u28 dm dp dr u32 u33 df dg u36 dt u38 dB dC dO dP dQ u44 u45 dI dJ dK dL dD dE dF dR dS dT dM dG dH dw dx dy dz dA u64 dh di dl cU cX fA fB fF fG fw iO iP iQ jN jO jP jQ jR jS jT jU jJ jK jV jW jX jY kZ k9 lc nd nT nU nV nW fH fJ fK fM fO fP fQ fU ej eo ep ew ey eA eB eC eD eF eG eH eI eJ eK eM eO eP eQ eU eV eW eX eY eZ fh fj fk fl fp u138 fq fV fW fX fY fZ gb gc gg gh gS gT gU gV gW gX gY gZ g9 hZ ie ig ii:Value}
structure qC(w wc:World)(b1:Nat)(fo fe it se:Sl)(ts:List (Sl×aR))(x:St)(G:Nat→Prop):Prop where
 st:aY wc G fo fe it se ts x
 frm:aa ag w wc
 b1:aj wc b1 36 #[I J x.clock,U fo.1 x.fols.length fo.2,U fe.1 x.fees.length fe.2,U it.1 x.itms.length it.2,U se.1 x.seas.length se.2,I J x.tFol,I J x.tFee,I J x.tItm,I J x.tSea]
 fols:x.fols.length≤70
 fees:x.fees.length≤70
 itms:x.itms.length≤120
 seas:x.seas.length≤40
theorem qC.nix{w wc w1:World}(h:qC w wc b1 fo fe it se ts x G)(hf:aa ag wc w1):qC w w1 b1 fo fe it se ts x G:=
 ⟨h.st.nix hf,h.frm.trans hf,h.b1.frm hf id,h.fols,h.fees,h.itms,h.seas⟩
theorem Iz{k:Nat}(h:aY w G fo fe it se ts x)(hk:k<x.itms.length):∃Bg:k<ts.length,(ts[k]'Bg).2=x.itms[k]:=by
 have Bg:k<ts.length:=by rw[h.len];exact hk
 refine⟨Bg,?_⟩;have:(ts.map (·.2))[k]'(by simpa using Bg)=(ts[k]'Bg).2:=by simp
 rw[←this]
 congr 1
 exact h.same
theorem Uu(h:qC w wc b1 fo fe it se ts x G)(hr:(x.seas.any bU)=r):
  Code.wp pQ (ai 5 (ae Tryz.f13)) (bodyPost pQ Tryz.f13 λe w'=>e=.returned (.bool r)∧aa ag w w') ⟨#[u0,O (some ⟨b1,0,none⟩),u2,u3,u4,u5,u6,u7,u8,u9,u10,u11,u12,u13,u14,u15,u16,cG,cH,cI,cR,cS,cT,u23,u24,cN,u26,dc,u28,dm,dp,dr,u32,u33,df,dg,u36,dt,u38,dB,dC,dO,dP,dQ,u44,u45,dI,dJ,dK,dL,dD,dE,dF,dR,dS,dT,dM,dG,dH,dw,dx,dy,dz,dA,u64,dh,di,dl,cU,cX,fA,fB,fF,fG,fw,iO,iP,iQ,jN,jO,jP,jQ,jR,jS,jT,jU,jJ,jK,jV,jW,jX,jY,kZ,k9,lc,nd,nT,nU,nV,nW,fH,fJ,fK,fM,fO,fP,fQ,fU,ej,eo,ep,ew,ey,eA,eB,eC,eD,eF,eG,eH,eI,eJ,eK,eM,eO,eP,eQ,eU,eV,eW,eX,eY,eZ,fh,fj,fk,fl,fp,u138,fq,fV,fW,fX,fY,fZ,gb,gc,gg,gh,gS,gT,gU,gV,gW,gX,gY,gZ,g9,hZ,ie,ig,ii],[]⟩ wc:=by
 have HS:=h_ h;obtain⟨x0,x1,x2,x3,x4,x5,x6,x7,x8⟩:=aA h.b1;have cm:=h.seas;have HY:Hid (x.seas.any bU=true→r=true):=λh=>by rw[←hr,h]<;>simp
 have HN:Hid (x.seas.any bU=false→(false)=r):=λh=>by rw[←hr,h]<;>simp
 clear hr;obtain⟨A,c⟩:=se;dsimp only at x1 x2 x3 x4;clear h;simp only[ai,ae,Tryz.f13];go_wp2
 go_loopw [7] (λkv wr=>∃k:Nat,k≤x.seas.length∧kv=I J k∧(x.seas.take k).any bU=false∧aa ag wc wr) (λkv _=>x.seas.length-(intOf kv).toNat)
 case atStart=>exact⟨0,by omega,rfl,by simp,aa.refl _ _⟩
 case round=>
  obtain⟨k,hk,rfl,ht,hf⟩:=hrel;have HT:=h_ ht;have HF:=h_ hf;have HR:=h_ (HS.out.nix hf);clear ht hf x0 x1 x2 x3 x4 x5 x6 x7 x8;obtain⟨x0,x1,x2,x3,x4,x5,x6,x7,x8⟩:=aA HR.out.b1;dsimp only at x1 x2 x3 x4
  by_cases hlt:k<x.seas.length
  ·obtain⟨b,off,hA,-,hbl,hcell⟩:=HR.out.st.seas.at_ ce.clen (by decide) (by omega)
   dsimp only at hA;subst hA;obtain⟨p0,p1,p2⟩:=xZ (w:=wr) (b:=b) (off:=off+k * 3) (e:=x.seas[k]) (hcell k hlt);have cO:=h_ (λhe=>HY.out (mF (p:=bU) hlt he));have bv:=h_ (λhe=>iI (p:=bU) hlt HT.out he);obtain⟨q,hq⟩:∃q,x.seas[k]=q:=⟨_,rfl⟩;rw[hq] at p0 p1 p2 cO bv;clear hcell hq
   by_cases rE:1000<(q.name.size:Int)
   case pos=>
    have hy:bU q=true:=by unfold bU;simp;omega
    have HE:=h_ (cO.out hy);go_wp2;go_ret;exact⟨by rw[HE.out]<;>rfl,HR.out.frm⟩
   by_cases I4:1000<(q.query.size:Int)
   case pos=>
    have hy:bU q=true:=by unfold bU;simp;omega
    have HE:=h_ (cO.out hy);go_wp2;go_ret;exact⟨by rw[HE.out]<;>rfl,HR.out.frm⟩
   have HQ:Hid (bU q=false):=by unfold Hid bU;simp;omega
   go_wp2;go_roundw
   case rel=>exact⟨k+1,by omega,by go_num,bv.out HQ.out,HF.out⟩
   case measure=>simp[intOf];omega
  ·obtain rfl:k=x.seas.length:=by omega
   have HE:Hid (x.seas.any bU=false):=by have:=HT.out;rw[List.take_length] at this;exact this
   go_wp2;go_ret;exact⟨by rw[←HN.out HE.out]<;>rfl,HR.out.frm⟩
theorem Uv(h:qC w wc b1 fo fe it se ts x G)(hr:(x.itms.any bL||x.seas.any bU)=r):
  Code.wp pQ (ai 4 (ae Tryz.f13)) (bodyPost pQ Tryz.f13 λe w'=>e=.returned (.bool r)∧aa ag w w') ⟨#[u0,O (some ⟨b1,0,none⟩),u2,u3,u4,u5,u6,u7,u8,u9,u10,u11,u12,u13,u14,u15,u16,cG,cH,cI,cR,cS,cT,u23,u24,cN,u26,dc,u28,dm,dp,dr,u32,u33,df,dg,u36,dt,u38,dB,dC,dO,dP,dQ,u44,u45,dI,dJ,dK,dL,dD,dE,dF,dR,dS,dT,dM,dG,dH,dw,dx,dy,dz,dA,u64,dh,di,dl,cU,cX,fA,fB,fF,fG,fw,iO,iP,iQ,jN,jO,jP,jQ,jR,jS,jT,jU,jJ,jK,jV,jW,jX,jY,kZ,k9,lc,nd,nT,nU,nV,nW,fH,fJ,fK,fM,fO,fP,fQ,fU,ej,eo,ep,ew,ey,eA,eB,eC,eD,eF,eG,eH,eI,eJ,eK,eM,eO,eP,eQ,eU,eV,eW,eX,eY,eZ,fh,fj,fk,fl,fp,u138,fq,fV,fW,fX,fY,fZ,gb,gc,gg,gh,gS,gT,gU,gV,gW,gX,gY,gZ,g9,hZ,ie,ig,ii],[]⟩ wc:=by
 have HS:=h_ h;obtain⟨x0,x1,x2,x3,x4,x5,x6,x7,x8⟩:=aA h.b1;have cm:=h.itms;have HY:Hid (x.itms.any bL=true→r=true):=λh=>by rw[←hr,h]<;>simp
 have HN:Hid (x.itms.any bL=false→(x.seas.any bU)=r):=λh=>by rw[←hr,h]<;>simp
 clear hr;obtain⟨A,c⟩:=it;dsimp only at x1 x2 x3 x4;clear h;refine aC (k':=5) λK hK=>?_
 conv in aD _=>whnf
 go_wp2
 go_loopw [5] (λkv wr=>∃k:Nat,k≤x.itms.length∧kv=I J k∧(x.itms.take k).any bL=false∧aa ag wc wr) (λkv _=>x.itms.length-(intOf kv).toNat)
 case atStart=>exact⟨0,by omega,rfl,by simp,aa.refl _ _⟩
 case round=>
  obtain⟨k,hk,rfl,ht,hf⟩:=hrel;have HT:=h_ ht;have HF:=h_ hf;have HR:=h_ (HS.out.nix hf);clear ht hf x0 x1 x2 x3 x4 x5 x6 x7 x8;obtain⟨x0,x1,x2,x3,x4,x5,x6,x7,x8⟩:=aA HR.out.b1;dsimp only at x1 x2 x3 x4
  by_cases hlt:k<x.itms.length
  ·obtain⟨mG,uj⟩:=Iz HR.out.st hlt
   obtain⟨b,off,hA,-,hbl,hcell⟩:=HR.out.st.itms.row.at_ bN (by decide) (by omega);dsimp only at hA;subst hA;have hc:=hcell k mG;have qW:=HR.out.st.itms.tags _ (List.getElem_mem mG);obtain⟨tp,Es⟩:∃tp,ts[k]=tp:=⟨_,rfl⟩;rw[Es] at hc uj qW;obtain⟨p0,p1,p2,p3,p4,p5,p6,p7,p8⟩:=rU (w:=wr) (b:=b) (off:=off+k * 9) (p:=tp) hc;have cO:=h_ (λhe=>HY.out (mF (p:=bL) hlt he));have bv:=h_ (λhe=>iI (p:=bL) hlt HT.out he);rw[←uj] at cO bv;clear hcell hc Es uj;obtain⟨tv,q⟩:=tp;dsimp only at *
   by_cases rE:1000<(q.guid.size:Int)
   case pos=>
    have hy:bL q=true:=by unfold bL;simp;omega
    have HE:=h_ (cO.out hy);go_wp2;go_ret;exact⟨by rw[HE.out]<;>rfl,HR.out.frm⟩
   by_cases I4:1000<(q.title.size:Int)
   case pos=>
    have hy:bL q=true:=by unfold bL;simp;omega
    have HE:=h_ (cO.out hy);go_wp2;go_ret;exact⟨by rw[HE.out]<;>rfl,HR.out.frm⟩
   by_cases he2:1000<(q.link.size:Int)
   case pos=>
    have hy:bL q=true:=by unfold bL;simp;omega
    have HE:=h_ (cO.out hy);go_wp2;go_ret;exact⟨by rw[HE.out]<;>rfl,HR.out.frm⟩
   by_cases he3:20<(q.tags.length:Int)
   case pos=>
    have hy:bL q=true:=by unfold bL;simp;omega
    have HE:=h_ (cO.out hy);go_wp2;go_ret;exact⟨by rw[HE.out]<;>rfl,HR.out.frm⟩
   have HQ:Hid (bL q=q.tags.any mM):=by unfold Hid bL;simp;omega
   have qH:q.tags.length≤20:=by omega
   have Qt:=h_ qW;have hb1l:=HR.out.b1.lt;clear qW;go_wp2
   go_loopw [6] (λjv wv=>∃j:Nat,j≤q.tags.length∧jv=I J j∧(q.tags.take j).any mM=false∧aa ag wr wv) (λjv _=>q.tags.length-(intOf jv).toNat)
   case atStart=>exact⟨0,by omega,rfl,by simp,aa.refl _ _⟩
   case round=>
    obtain⟨j,hj,rfl,Ob,hf2⟩:=hrel;have HT2:=h_ Ob;have kX:=h_ hf2;have z3:=(hf2.cell (p:=⟨b1,3,none⟩) hb1l id).trans x3;have z8:=(hf2.cell (p:=⟨b,off+k * 9+8,none⟩) hbl id).trans p8;clear Ob hf2 x0 x1 x2 x3 x4 x5 x6 x7 x8 p0 p1 p2 p3 p4 p5 p6 p7 p8
    by_cases uO:j<q.tags.length
    ·have htg2:=Qt.out.nix kX.out
     rw[tj] at htg2;obtain⟨b3,off3,hA3,-,Og,si⟩:=htg2.at_ (f:=λi=>[Value.string i]) (λ_=>rfl) (by decide) (by omega);obtain⟨tA,tc⟩:=tv;dsimp only at hA3 z8;subst hA3;have y0:=si j uO 0 _ rfl;rw[Nat.mul_one,Nat.add_zero] at y0;have HHit2:=h_ (λhe=>mF (p:=mM) uO he);have HStep2:=h_ (λhe=>iI (p:=mM) uO HT2.out he);obtain⟨tq,SI⟩:∃tq,q.tags[j]=tq:=⟨_,rfl⟩;rw[SI] at y0 HHit2 HStep2;clear si SI htg2
     by_cases h300:300<(tq.size:Int)
     case pos=>
      have HE:=h_ (cO.out (HQ.out.trans (HHit2.out (by unfold mM;exact decide_eq_true h300))));go_wp2;go_ret;exact⟨by rw[HE.out]<;>rfl,HR.out.frm.trans kX.out⟩
     go_wp2;go_roundw
     case rel=>exact⟨j+1,by omega,by go_num,HStep2.out (by unfold mM;exact decide_eq_false h300),kX.out⟩
     case measure=>simp[intOf];omega
    ·obtain rfl:j=q.tags.length:=by omega
     have xa:Hid (q.tags.any mM=false):=by have:=HT2.out;rw[List.take_length] at this;exact this
     go_wp2;go_roundw
     case rel=>exact⟨k+1,by omega,by go_num,bv.out (HQ.out.trans xa.out),HF.out.trans kX.out⟩
     case measure=>simp[intOf];omega
  ·obtain rfl:k=x.itms.length:=by omega
   have HE:Hid (x.itms.any bL=false):=by have:=HT.out;rw[List.take_length] at this;exact this
   go_wp2;exact Uu HR.out (HN.out HE.out)
theorem Uw(h:qC w wc b1 fo fe it se ts x G)(hr:(x.fees.any cP||(x.itms.any bL||x.seas.any bU))=r):
  Code.wp pQ (ai 3 (ae Tryz.f13)) (bodyPost pQ Tryz.f13 λe w'=>e=.returned (.bool r)∧aa ag w w') ⟨#[u0,O (some ⟨b1,0,none⟩),u2,u3,u4,u5,u6,u7,u8,u9,u10,u11,u12,u13,u14,u15,u16,cG,cH,cI,cR,cS,cT,u23,u24,cN,u26,dc,u28,dm,dp,dr,u32,u33,df,dg,u36,dt,u38,dB,dC,dO,dP,dQ,u44,u45,dI,dJ,dK,dL,dD,dE,dF,dR,dS,dT,dM,dG,dH,dw,dx,dy,dz,dA,u64,dh,di,dl,cU,cX,fA,fB,fF,fG,fw,iO,iP,iQ,jN,jO,jP,jQ,jR,jS,jT,jU,jJ,jK,jV,jW,jX,jY,kZ,k9,lc,nd,nT,nU,nV,nW,fH,fJ,fK,fM,fO,fP,fQ,fU,ej,eo,ep,ew,ey,eA,eB,eC,eD,eF,eG,eH,eI,eJ,eK,eM,eO,eP,eQ,eU,eV,eW,eX,eY,eZ,fh,fj,fk,fl,fp,u138,fq,fV,fW,fX,fY,fZ,gb,gc,gg,gh,gS,gT,gU,gV,gW,gX,gY,gZ,g9,hZ,ie,ig,ii],[]⟩ wc:=by
 have HS:=h_ h;obtain⟨x0,x1,x2,x3,x4,x5,x6,x7,x8⟩:=aA h.b1;have cm:=h.fees;have HY:Hid (x.fees.any cP=true→r=true):=λh=>by rw[←hr,h]<;>simp
 have HN:Hid (x.fees.any cP=false→(x.itms.any bL||x.seas.any bU)=r):=λh=>by rw[←hr,h]<;>simp
 clear hr;obtain⟨A,c⟩:=fe;dsimp only at x1 x2 x3 x4;clear h;refine aC (k':=4) λK hK=>?_
 conv in aD _=>whnf
 go_wp2
 go_loopw [4] (λkv wr=>∃k:Nat,k≤x.fees.length∧kv=I J k∧(x.fees.take k).any cP=false∧aa ag wc wr) (λkv _=>x.fees.length-(intOf kv).toNat)
 case atStart=>exact⟨0,by omega,rfl,by simp,aa.refl _ _⟩
 case round=>
  obtain⟨k,hk,rfl,ht,hf⟩:=hrel;have HT:=h_ ht;have HF:=h_ hf;have HR:=h_ (HS.out.nix hf);clear ht hf x0 x1 x2 x3 x4 x5 x6 x7 x8;obtain⟨x0,x1,x2,x3,x4,x5,x6,x7,x8⟩:=aA HR.out.b1;dsimp only at x1 x2 x3 x4
  by_cases hlt:k<x.fees.length
  ·obtain⟨b,off,hA,-,hbl,hcell⟩:=HR.out.st.fees.at_ aX.clen (by decide) (by omega)
   dsimp only at hA;subst hA;obtain⟨p0,p1,p2,p3⟩:=uC (w:=wr) (b:=b) (off:=off+k * 4) (e:=x.fees[k]) (hcell k hlt);have cO:=h_ (λhe=>HY.out (mF (p:=cP) hlt he));have bv:=h_ (λhe=>iI (p:=cP) hlt HT.out he);obtain⟨q,hq⟩:∃q,x.fees[k]=q:=⟨_,rfl⟩;rw[hq] at p0 p1 p2 p3 cO bv;clear hcell hq
   by_cases rE:1000<(q.url.size:Int)
   case pos=>
    have hy:cP q=true:=by unfold cP;simp;omega
    have HE:=h_ (cO.out hy);go_wp2;go_ret;exact⟨by rw[HE.out]<;>rfl,HR.out.frm⟩
   by_cases I4:1000<(q.title.size:Int)
   case pos=>
    have hy:cP q=true:=by unfold cP;simp;omega
    have HE:=h_ (cO.out hy);go_wp2;go_ret;exact⟨by rw[HE.out]<;>rfl,HR.out.frm⟩
   have HQ:Hid (cP q=false):=by unfold Hid cP;simp;omega
   go_wp2;go_roundw
   case rel=>exact⟨k+1,by omega,by go_num,bv.out HQ.out,HF.out⟩
   case measure=>simp[intOf];omega
  ·obtain rfl:k=x.fees.length:=by omega
   have HE:Hid (x.fees.any cP=false):=by have:=HT.out;rw[List.take_length] at this;exact this
   go_wp2;exact Uv HR.out (HN.out HE.out)
theorem Ux(h:qC w wc b1 fo fe it se ts x G)(hr:(x.fols.any gB||(x.fees.any cP||(x.itms.any bL||x.seas.any bU)))=r):
  Code.wp pQ (ai 2 (ae Tryz.f13)) (bodyPost pQ Tryz.f13 λe w'=>e=.returned (.bool r)∧aa ag w w') ⟨#[u0,O (some ⟨b1,0,none⟩),u2,u3,u4,u5,u6,u7,u8,u9,u10,u11,u12,u13,u14,u15,u16,cG,cH,cI,cR,cS,cT,u23,u24,cN,u26,dc,u28,dm,dp,dr,u32,u33,df,dg,u36,dt,u38,dB,dC,dO,dP,dQ,u44,u45,dI,dJ,dK,dL,dD,dE,dF,dR,dS,dT,dM,dG,dH,dw,dx,dy,dz,dA,u64,dh,di,dl,cU,cX,fA,fB,fF,fG,fw,iO,iP,iQ,jN,jO,jP,jQ,jR,jS,jT,jU,jJ,jK,jV,jW,jX,jY,kZ,k9,lc,nd,nT,nU,nV,nW,fH,fJ,fK,fM,fO,fP,fQ,fU,ej,eo,ep,ew,ey,eA,eB,eC,eD,eF,eG,eH,eI,eJ,eK,eM,eO,eP,eQ,eU,eV,eW,eX,eY,eZ,fh,fj,fk,fl,fp,u138,fq,fV,fW,fX,fY,fZ,gb,gc,gg,gh,gS,gT,gU,gV,gW,gX,gY,gZ,g9,hZ,ie,ig,ii],[]⟩ wc:=by
 have HS:=h_ h;obtain⟨x0,x1,x2,x3,x4,x5,x6,x7,x8⟩:=aA h.b1;have cm:=h.fols;have HY:Hid (x.fols.any gB=true→r=true):=λh=>by rw[←hr,h]<;>simp
 have HN:Hid (x.fols.any gB=false→(x.fees.any cP||(x.itms.any bL||x.seas.any bU))=r):=λh=>by rw[←hr,h]<;>simp
 clear hr;obtain⟨A,c⟩:=fo;dsimp only at x1 x2 x3 x4;clear h;refine aC (k':=3) λK hK=>?_
 conv in aD _=>whnf
 go_wp2
 go_loopw [3] (λkv wr=>∃k:Nat,k≤x.fols.length∧kv=I J k∧(x.fols.take k).any gB=false∧aa ag wc wr) (λkv _=>x.fols.length-(intOf kv).toNat)
 case atStart=>exact⟨0,by omega,rfl,by simp,aa.refl _ _⟩
 case round=>
  obtain⟨k,hk,rfl,ht,hf⟩:=hrel;have HT:=h_ ht;have HF:=h_ hf;have HR:=h_ (HS.out.nix hf);clear ht hf x0 x1 x2 x3 x4 x5 x6 x7 x8;obtain⟨x0,x1,x2,x3,x4,x5,x6,x7,x8⟩:=aA HR.out.b1;dsimp only at x1 x2 x3 x4
  by_cases hlt:k<x.fols.length
  ·obtain⟨b,off,hA,-,hbl,hcell⟩:=HR.out.st.fols.at_ bh.clen (by decide) (by omega)
   dsimp only at hA;subst hA;obtain⟨p0,p1,p2⟩:=uB (w:=wr) (b:=b) (off:=off+k * 3) (e:=x.fols[k]) (hcell k hlt);have cO:=h_ (λhe=>HY.out (mF (p:=gB) hlt he));have bv:=h_ (λhe=>iI (p:=gB) hlt HT.out he);obtain⟨q,hq⟩:∃q,x.fols[k]=q:=⟨_,rfl⟩;rw[hq] at p0 p1 p2 cO bv;clear hcell hq
   by_cases rE:1000<(q.name.size:Int)
   case pos=>
    have hy:gB q=true:=by unfold gB;simp;omega
    have HE:=h_ (cO.out hy);go_wp2;go_ret;exact⟨by rw[HE.out]<;>rfl,HR.out.frm⟩
   have HQ:Hid (gB q=false):=by unfold Hid gB;simp;omega
   go_wp2;go_roundw
   case rel=>exact⟨k+1,by omega,by go_num,bv.out HQ.out,HF.out⟩
   case measure=>simp[intOf];omega
  ·obtain rfl:k=x.fols.length:=by omega
   have HE:Hid (x.fols.any gB=false):=by have:=HT.out;rw[List.take_length] at this;exact this
   go_wp2;exact Uw HR.out (HN.out HE.out)
theorem zE(hS:aY w G fo fe it se ts x):
  Calls pQ 13 #[cC fo fe it se x] w λr w'=>r=.returned (.bool (lw x))∧aa ag w w':=by
 obtain⟨w0,hw0,hf0,hb0⟩:=pH w fo fe it se x;obtain⟨x0,x1,x2,x3,x4,x5,x6,x7,x8⟩:=aA hb0;have HS:=h_ (hS.nix hf0);have HB:=h_ hb0;have HF:=h_ hf0;have HW:=h_ hw0;have HE:Hid (lw x=((decide (70<(x.fols.length:Int))||(decide (70<(x.fees.length:Int))||(decide (120<(x.itms.length:Int))||decide (40<(x.seas.length:Int)))))||(x.fols.any gB||(x.fees.any cP||(x.itms.any bL||x.seas.any bU))))):=rfl;rw[hw0] at x0 x1 x2 x3 x4 x5 x6 x7 x8;clear hS hf0 hb0 hw0;unfold cC
 by_cases h0:70<(x.fols.length:Int)
 case pos=>
  have HY:Hid (lw x=true):=by unfold Hid;rw[HE.out,decide_eq_true h0];simp
  go_enter Tryz.func13,Tryz.ntmps13;go_wp2;rw[←HW.out];go_ret;exact⟨by rw[HY.out]<;>rfl,HF.out⟩
 by_cases h1:70<(x.fees.length:Int)
 case pos=>
  have HY:Hid (lw x=true):=by unfold Hid;rw[HE.out,decide_eq_true h1];simp
  go_enter Tryz.func13,Tryz.ntmps13;go_wp2;rw[←HW.out];go_ret;exact⟨by rw[HY.out]<;>rfl,HF.out⟩
 by_cases h2:120<(x.itms.length:Int)
 case pos=>
  have HY:Hid (lw x=true):=by unfold Hid;rw[HE.out,decide_eq_true h2];simp
  go_enter Tryz.func13,Tryz.ntmps13;go_wp2;rw[←HW.out];go_ret;exact⟨by rw[HY.out]<;>rfl,HF.out⟩
 by_cases h3:40<(x.seas.length:Int)
 case pos=>
  have HY:Hid (lw x=true):=by unfold Hid;rw[HE.out,decide_eq_true h3];simp
  go_enter Tryz.func13,Tryz.ntmps13;go_wp2;rw[←HW.out];go_ret;exact⟨by rw[HY.out]<;>rfl,HF.out⟩
 have HY:Hid (lw x=(x.fols.any gB||(x.fees.any cP||(x.itms.any bL||x.seas.any bU)))):=by unfold Hid;rw[HE.out,decide_eq_false h0,decide_eq_false h1,decide_eq_false h2,decide_eq_false h3];rfl
 go_enter Tryz.func13,Tryz.ntmps13;show Code.wp pQ (ai 0 (ae Tryz.f13)) _ _ _
 refine aC (k':=1) λK hK=>?_
 conv in aD _=>whnf
 go_wp2;refine aC (k':=2) λK hK=>?_
 conv in aD _=>whnf
 go_wp2;rw[←HW.out];exact Ux ⟨HS.out,HF.out,HB.out,by omega,by omega,by omega,by omega⟩ HY.out.symm
end Go.Proofs.YtaecjmiobllhmaaGreat
