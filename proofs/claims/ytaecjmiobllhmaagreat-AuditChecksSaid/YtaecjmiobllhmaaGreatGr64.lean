/- Words. -/
import Derived.Test.YtaecjmiobllhmaaGreatGr63
set_option linter.unusedVariables false
set_option linter.unusedSimpArgs false
set_option maxRecDepth 100000
set_option maxHeartbeats 16000000
namespace Go.Proofs.YtaecjmiobllhmaaGreat
open Go.Value renaming int→I,string→V,slice→U,pointer→O
open Go.IntKind renaming i64→J
open Tryz renaming prog→pQ
open Go.RowKit Go.Lib
variable {w wc:World}{b1 b2:Nat}{fo fe it se:Sl}{ts:List (Sl×aR)}{G:Nat→Prop}{s t u:ByteArray}
theorem ML{x:St}{a b n:Int}(h:bD w wc b1 b2 fo fe it se ts x G ⟨10,a,b,n,s,t,u⟩)(ho:aM ⟨10,a,b,n,s,t,u⟩=true){v:Nat→Value}:
  Code.wp pQ (ai 3 (ae Tryz.f30)) (bodyPost pQ Tryz.f30 λe w'=>e=.returned (.bool (aG x ⟨10,a,b,n,s,t,u⟩))∧aa ag w w') (bS b1 b2 (nL x b) v) wc:=by
 unfold bS
 have HE:Hid (aG x ⟨10,a,b,n,s,t,u⟩=match kS aR.id a x.itms with|none=>false|some t=>decide (n=0)||t.tags.any (λy=>y=s)||decide (t.tags.length<8)):=by
  unfold Hid aG;rw[ho];simp
  cases kS aR.id a x.itms<;>rfl
 have bE:=h_ h;have KI:Hid (∀W,bD w W b1 b2 fo fe it se ts x G ⟨10,a,b,n,s,t,u⟩→Calls pQ 34 #[cC fo fe it se x,I J a] W λe w'=>e=.returned (I J (mY aR.id a x.itms))∧bD w w' b1 b2 fo fe it se ts x G ⟨10,a,b,n,s,t,u⟩∧aa ag W w'):=λW hW=>(my hW.st hW.small a).mono λe w' q=>⟨q.1,hW.nix q.2,q.2⟩
 obtain⟨x0,x1,x2,x3,x4,x5,x6,x7,x8⟩:=aA (bE.out.b1);obtain⟨e0,e1,e2,e3,e4,e5,e6⟩:=az (bE.out.b2);clear h ho;simp only[ai,ae,Tryz.f30]
 cases hc:bl aR.id a x.itms with
 | false=>
   have hat:kS aR.id a x.itms=none:=by
    have:=@qm aR aR.id a x.itms;rw[hc] at this
    cases ha:kS aR.id a x.itms with
    | none=>rfl
    | some f=>rw[ha] at this;cases this
   rw[hat] at HE;rw[bZ hc] at KI;have pw:Hid (∀W,aa ag wc W→aa ag wc W):=λW hW=>hW
   clear hc hat;go_wp2_with (go_at_call 34;refine(KI.out _ bE.out).mono ?_;rintro e w1 ⟨rfl,hr,-⟩;have bo:=h_ hr;clear x0 x1 x2 x3 x4 x5 x6 x7 x8 e0 e1 e2 e3 e4 e5 e6;obtain⟨x0,x1,x2,x3,x4,x5,x6,x7,x8⟩:=aA (bo.out.b1);obtain⟨e0,e1,e2,e3,e4,e5,e6⟩:=az (bo.out.b2);clear hr);go_quiet (fail);go_wp2;go_ret
   exact⟨by rw[HE.out]<;>rfl,bo.out.frm.drewN _⟩
 | true=>
   obtain⟨p,hpl,hp,-,hat,-⟩:=cj hc;rw[hp] at KI;rw[hat] at HE;have qI:(0:Int)≤(p:Int):=by omega
   obtain⟨A,c⟩:=it;dsimp only at x3 KI bE;obtain⟨mG,uj⟩:=py bE.out.st hpl;obtain⟨bk,off,hA,-,hbl,hcell⟩:=bE.out.st.itms.row.at_ bN (by decide) (by omega);dsimp only at hA;subst hA;have qW:=bE.out.st.itms.tags _ (List.getElem_mem mG);have PO:=hcell p mG;have hsm:=bE.out.small.tags _ (List.getElem_mem hpl);obtain⟨tp,Es⟩:∃tp,ts[p]'mG=tp:=⟨_,rfl⟩;rw[Es] at PO uj qW;rw[←uj] at HE hsm;have PN:wc.cell? ⟨bk,off+p * 9+8,none⟩=some (U tp.1.1 tp.2.tags.length tp.1.2):=PO 8 _ rfl;have OT:wc.cell? ⟨bk,off+p * 9,none⟩=some (I J tp.2.id):=PO 0 _ rfl;have KT:Hid (∀W,aa ag wc W→Calls pQ 78 #[U tp.1.1 tp.2.tags.length tp.1.2,V s] W λe w'=>e=.returned (.bool (tp.2.tags.any λy=>decide (y=s)))∧aa ag wc w'∧aa ag W w'):=λW hW=>(BO tp.2.tags (qW.nix hW) (by omega) s).mono λe w' q=>⟨q.1,hW.trans q.2,q.2⟩
   have Vq:=bE.out.small.itms;clear hcell PO Es uj hat hp hc qW;obtain⟨tv,J9⟩:∃tv:Sl,tp.1=tv:=⟨_,rfl⟩;obtain⟨tb,Rg⟩:∃tb:Bool,(tp.2.tags.any λy=>decide (y=s))=tb:=⟨_,rfl⟩;obtain⟨tl,xi⟩:∃tl:Nat,tp.2.tags.length=tl:=⟨_,rfl⟩;rw[J9,Rg,xi] at KT;rw[J9,xi] at PN;simp only[Rg,xi] at HE;rw[xi] at hsm;clear J9 Rg xi;have Im:=h_ (And.intro PN (And.intro OT hbl));have kp:decide ((0:Int)≤(p:Int))=true:=by simp
   go_wp2_with (go_at_call 34;refine(KI.out _ bE.out).mono ?_;rintro e w1 ⟨rfl,hr,gI⟩;have bo:=h_ hr;have pG:=h_ gI;clear x0 x1 x2 x3 x4 x5 x6 x7 x8 e0 e1 e2 e3 e4 e5 e6;obtain⟨x0,x1,x2,x3,x4,x5,x6,x7,x8⟩:=aA (bo.out.b1);obtain⟨e0,e1,e2,e3,e4,e5,e6⟩:=az (bo.out.b2);clear hr gI);have zz:=λy:FW (aa ag w1)=>aA (bo.out.b1.frm y.h id)
   have q0:=λy=>(zz y).1
   have q3:=λy=>(zz y).2.2.2.1
   have ee:=λy:FW (aa ag w1)=>az (bo.out.b2.frm y.h id)
   have g0:=λy=>(ee y).1
   have g3:=λy=>(ee y).2.2.2.1
   have g4:=λy=>(ee y).2.2.2.2.1
   have i8:=λy:FW (aa ag w1)=>((pG.out.trans y.h).cell (p:=⟨bk,off+p * 9+8,none⟩) Im.out.2.2 id).trans Im.out.1
   have i0:=λy:FW (aa ag w1)=>((pG.out.trans y.h).cell (p:=⟨bk,off+p * 9,none⟩) Im.out.2.2 id).trans Im.out.2.1
   have Nw:=λy:FW (aa ag w1)=>(show Calls pQ 78 #[U tv.1 tl tv.2,V s] y.w λe w'=>e=.returned (.bool tb)∧aa ag y.w w' from (KT.out y.w (pG.out.trans y.h)).mono λe w' q=>⟨q.1,q.2.2⟩)
   clear zz ee PN OT
   by_cases h0:n=0
   ·have kb:(n==0)=true:=by rw[h0];rfl
    have HY:Hid (aG x ⟨10,a,b,n,s,t,u⟩=true):=by unfold Hid;rw[HE.out,decide_eq_true h0];rfl
    clear h0;go_wp2_with fail;refine ak (aa ag w1) ((fR w1).drew) (by kernel_rfl) (by kernel_rfl) ?_
    repeat (go_big_quiet_step (first
     | (rename_i y;go_at_call 78;refine y.call (Nw y) ?_;exact λw' hf=>y.h.trans hf)
     | fail))
    refine wpQuiet_nil ?_;rintro w2 ⟨⟨_,wD⟩,rfl⟩;go_wp2;go_ret;exact⟨af HY.out.symm,bo.out.frm.trans wD⟩
   have kb:(n==0)=false:=by simp[h0]
   rw[decide_eq_false h0] at HE
   cases tb with
   | true=>
     go_wp2_with fail;refine ak (aa ag w1) ((fR w1).drew) (by kernel_rfl) (by kernel_rfl) ?_
     repeat (go_big_quiet_step (first
      | (rename_i y;go_at_call 78;refine y.call (Nw y) ?_;exact λw' hf=>y.h.trans hf)
      | fail))
     refine wpQuiet_nil ?_;rintro w2 ⟨⟨_,wD⟩,rfl⟩;go_wp2;go_ret
     exact⟨af (by rw[HE.out];rfl),bo.out.frm.trans wD⟩
   | false=>
     by_cases h8:tl<8
     ·have k8:decide ((tl:Int)<8)=true:=by simp;omega
      rw[decide_eq_true h8] at HE;go_wp2_with fail;refine ak (aa ag w1) ((fR w1).drew) (by kernel_rfl) (by kernel_rfl) ?_
      repeat (go_big_quiet_step (first
       | (rename_i y;go_at_call 78;refine y.call (Nw y) ?_;exact λw' hf=>y.h.trans hf)
       | fail))
      refine wpQuiet_nil ?_;rintro w2 ⟨⟨_,wD⟩,rfl⟩;go_wp2;go_ret;exact⟨af (by rw[HE.out]<;>first|rfl|(simp;done)|(simp;omega)),bo.out.frm.trans wD⟩
     ·have k8:decide ((tl:Int)<8)=false:=by simp;omega
      rw[decide_eq_false h8] at HE;go_wp2_with fail;refine ak (aa ag w1) ((fR w1).drew) (by kernel_rfl) (by kernel_rfl) ?_
      repeat (go_big_quiet_step (first
       | (rename_i y;go_at_call 78;refine y.call (Nw y) ?_;exact λw' hf=>y.h.trans hf)
       | fail))
      refine wpQuiet_nil ?_;rintro w2 ⟨⟨_,wD⟩,rfl⟩;go_wp2;go_ret;exact⟨af (by rw[HE.out]<;>first|rfl|(simp;done)|(simp;omega)),bo.out.frm.trans wD⟩
theorem Ug{x:St}{k a b n:Int}(h:bD w wc b1 b2 fo fe it se ts x G ⟨k,a,b,n,s,t,u⟩)(ho:aM ⟨k,a,b,n,s,t,u⟩=true){u0 u1 u4 u5 u6 u7 u8 u9 u10 u11 u12 u13 u14 u15 u16 cG cH cI cR cS cT u23 u24 cN u26 dc u28 dm dp dr u32 u33 df dg u36 dt u38 dB dC dO dP dQ u44 u45 dI dJ dK dL dD dE dF dR dS dT dM dG dH dw dx dy dz dA u64 dh di dl cU cX fA fB fF fG fw iO iP iQ jN jO jP jQ jR jS jT jU jJ jK jV jW jX jY kZ k9 lc nd nT nU nV nW fH fJ fK fM fO fP fQ fU ej eo ep ew ey eA eB eC eD eF eG eH eI eJ eK eM eO eP eQ eU eV eW eX eY eZ fh fj fk fl fp u138 fq fV fW fX fY fZ gb gc gg gh gS gT gU gV gW gX gY gZ g9 hZ ie ig ii jZ j9 iW iX iY iZ i7 ja jb jc jd je jf jg jh ji jk jl jm jn jo jp jq jr js jt ju jw jz jA jB u193 jC jD ke kg u198 kh ki kj km ko:Value}:
  Code.wp pQ (ai 2 (ae Tryz.f30)) (bodyPost pQ Tryz.f30 λe w'=>e=.returned (.bool (aG x ⟨k,a,b,n,s,t,u⟩))∧aa ag w w') ⟨#[u0,u1,O (some ⟨b1,0,none⟩),O (some ⟨b2,0,none⟩),u4,u5,u6,u7,u8,u9,u10,u11,u12,u13,u14,u15,u16,cG,cH,cI,cR,cS,cT,u23,u24,cN,u26,dc,u28,dm,dp,dr,u32,u33,df,dg,u36,dt,u38,dB,dC,dO,dP,dQ,u44,u45,dI,dJ,dK,dL,dD,dE,dF,dR,dS,dT,dM,dG,dH,dw,dx,dy,dz,dA,u64,dh,di,dl,cU,cX,fA,fB,fF,fG,fw,iO,iP,iQ,jN,jO,jP,jQ,jR,jS,jT,jU,jJ,jK,jV,jW,jX,jY,kZ,k9,lc,nd,nT,nU,nV,nW,fH,fJ,fK,fM,fO,fP,fQ,fU,ej,eo,ep,ew,ey,eA,eB,eC,eD,eF,eG,eH,eI,eJ,eK,eM,eO,eP,eQ,eU,eV,eW,eX,eY,eZ,fh,fj,fk,fl,fp,u138,fq,fV,fW,fX,fY,fZ,gb,gc,gg,gh,gS,gT,gU,gV,gW,gX,gY,gZ,g9,hZ,ie,ig,ii,jZ,j9,iW,iX,iY,iZ,i7,ja,jb,jc,jd,je,jf,jg,jh,ji,jk,jl,jm,jn,jo,jp,jq,jr,js,jt,ju,jw,jz,jA,jB,u193,jC,jD,ke,kg,u198,kh,ki,kj,km,ko],[]⟩ wc:=by
 have HO:=h_ ho;have bE:=h_ h;have K0:Hid (∀W,bD w W b1 b2 fo fe it se ts x G ⟨k,a,b,n,s,t,u⟩→Calls pQ 72 #[cC fo fe it se x,I J b] W λe w'=>e=.returned (I J (mY bh.id b x.fols))∧bD w w' b1 b2 fo fe it se ts x G ⟨k,a,b,n,s,t,u⟩):=λW hW=>(mK hW.st hW.small b).mono λe w' q=>⟨q.1,hW.nix q.2⟩
 have OU:Hid (∀(W:World) (bb:Bool),bb=nL x b→∀{v:Nat→Value},bD w W b1 b2 fo fe it se ts x G ⟨k,a,b,n,s,t,u⟩→Code.wp pQ (ai 3 (ae Tryz.f30)) (bodyPost pQ Tryz.f30 λe w'=>e=.returned (.bool (aG x ⟨k,a,b,n,s,t,u⟩))∧aa ag w w') (bS b1 b2 bb v) W):=by
  intro W bb vp;subst vp;intros;have hk:=vZ ho;dsimp only at hk;rename_i hW;rcases hk with rfl|rfl|rfl|rfl|rfl|rfl|rfl|rfl|rfl|rfl|rfl|rfl|rfl
  ·exact OH hW ho
  ·exact OI hW ho
  ·exact OJ hW ho
  ·exact OL hW ho
  ·exact OM hW ho
  ·exact OO hW ho
  ·exact OP hW ho
  ·exact OQ hW ho
  ·exact OS hW ho
  ·exact ML hW ho
  ·exact MI hW ho
  ·exact MJ hW ho
  ·exact MK hW ho
 have fin:Hid (∀(W:World) (bb:Bool),bb=nL x b→∀{u0 u1 u4 u6 u7 u8 u9 u10 u11 u12 u13 u14 u15 u16 cG cH cI cR cS cT u23 u24 cN u26 dc u28 dm dp dr u32 u33 df dg u36 dt u38 dB dC dO dP dQ u44 u45 dI dJ dK dL dD dE dF dR dS dT dM dG dH dw dx dy dz dA u64 dh di dl cU cX fA fB fF fG fw iO iP iQ jN jO jP jQ jR jS jT jU jJ jK jV jW jX jY kZ k9 lc nd nT nU nV nW fH fJ fK fM fO fP fQ fU ej eo ep ew ey eA eB eC eD eF eG eH eI eJ eK eM eO eP eQ eU eV eW eX eY eZ fh fj fk fl fp u138 fq fV fW fX fY fZ gb gc gg gh gS gT gU gV gW gX gY gZ g9 hZ ie ig ii jZ j9 iW iX iY iZ i7 ja jb jc jd je jf jg jh ji jk jl jm jn jo jp jq jr js jt ju jw jz jA jB u193 jC jD ke kg u198 kh ki kj km ko:Value},bD w W b1 b2 fo fe it se ts x G ⟨k,a,b,n,s,t,u⟩→Code.wp pQ (ai 3 (ae Tryz.f30)) (bodyPost pQ Tryz.f30 λe w'=>e=.returned (.bool (aG x ⟨k,a,b,n,s,t,u⟩))∧aa ag w w') ⟨#[u0,u1,O (some ⟨b1,0,none⟩),O (some ⟨b2,0,none⟩),u4,.bool bb,u6,u7,u8,u9,u10,u11,u12,u13,u14,u15,u16,cG,cH,cI,cR,cS,cT,u23,u24,cN,u26,dc,u28,dm,dp,dr,u32,u33,df,dg,u36,dt,u38,dB,dC,dO,dP,dQ,u44,u45,dI,dJ,dK,dL,dD,dE,dF,dR,dS,dT,dM,dG,dH,dw,dx,dy,dz,dA,u64,dh,di,dl,cU,cX,fA,fB,fF,fG,fw,iO,iP,iQ,jN,jO,jP,jQ,jR,jS,jT,jU,jJ,jK,jV,jW,jX,jY,kZ,k9,lc,nd,nT,nU,nV,nW,fH,fJ,fK,fM,fO,fP,fQ,fU,ej,eo,ep,ew,ey,eA,eB,eC,eD,eF,eG,eH,eI,eJ,eK,eM,eO,eP,eQ,eU,eV,eW,eX,eY,eZ,fh,fj,fk,fl,fp,u138,fq,fV,fW,fX,fY,fZ,gb,gc,gg,gh,gS,gT,gU,gV,gW,gX,gY,gZ,g9,hZ,ie,ig,ii,jZ,j9,iW,iX,iY,iZ,i7,ja,jb,jc,jd,je,jf,jg,jh,ji,jk,jl,jm,jn,jo,jp,jq,jr,js,jt,ju,jw,jz,jA,jB,u193,jC,jD,ke,kg,u198,kh,ki,kj,km,ko],[]⟩ W):=by
  intro W bb vp u0 u1 u4 u6 u7 u8 u9 u10 u11 u12 u13 u14 u15 u16 cG cH cI cR cS cT u23 u24 cN u26 dc u28 dm dp dr u32 u33 df dg u36 dt u38 dB dC dO dP dQ u44 u45 dI dJ dK dL dD dE dF dR dS dT dM dG dH dw dx dy dz dA u64 dh di dl cU cX fA fB fF fG fw iO iP iQ jN jO jP jQ jR jS jT jU jJ jK jV jW jX jY kZ k9 lc nd nT nU nV nW fH fJ fK fM fO fP fQ fU ej eo ep ew ey eA eB eC eD eF eG eH eI eJ eK eM eO eP eQ eU eV eW eX eY eZ fh fj fk fl fp u138 fq fV fW fX fY fZ gb gc gg gh gS gT gU gV gW gX gY gZ g9 hZ ie ig ii jZ j9 iW iX iY iZ i7 ja jb jc jd je jf jg jh ji jk jl jm jn jo jp jq jr js jt ju jw jz jA jB u193 jC jD ke kg u198 kh ki kj km ko hW;exact OU.out W bb vp (v:=λn=>[u0,u1,undef,undef,u4,undef,u6,u7,u8,u9,u10,u11,u12,u13,u14,u15,u16,cG,cH,cI,cR,cS,cT,u23,u24,cN,u26,dc,u28,dm,dp,dr,u32,u33,df,dg,u36,dt,u38,dB,dC,dO,dP,dQ,u44,u45,dI,dJ,dK,dL,dD,dE,dF,dR,dS,dT,dM,dG,dH,dw,dx,dy,dz,dA,u64,dh,di,dl,cU,cX,fA,fB,fF,fG,fw,iO,iP,iQ,jN,jO,jP,jQ,jR,jS,jT,jU,jJ,jK,jV,jW,jX,jY,kZ,k9,lc,nd,nT,nU,nV,nW,fH,fJ,fK,fM,fO,fP,fQ,fU,ej,eo,ep,ew,ey,eA,eB,eC,eD,eF,eG,eH,eI,eJ,eK,eM,eO,eP,eQ,eU,eV,eW,eX,eY,eZ,fh,fj,fk,fl,fp,u138,fq,fV,fW,fX,fY,fZ,gb,gc,gg,gh,gS,gT,gU,gV,gW,gX,gY,gZ,g9,hZ,ie,ig,ii,jZ,j9,iW,iX,iY,iZ,i7,ja,jb,jc,jd,je,jf,jg,jh,ji,jk,jl,jm,jn,jo,jp,jq,jr,js,jt,ju,jw,jz,jA,jB,u193,jC,jD,ke,kg,u198,kh,ki,kj,km,ko].getD n undef) hW
 clear OU;obtain⟨x0,x1,x2,x3,x4,x5,x6,x7,x8⟩:=aA (bE.out.b1);obtain⟨e0,e1,e2,e3,e4,e5,e6⟩:=az (bE.out.b2);clear h ho;refine aC (k':=3) λK hK=>?_
 conv in aD _=>whnf
 by_cases h0:b=0
 ·have OV:Hid (true=nL x b):=by unfold Hid;rw[h0];rfl
  subst h0;go_wp2;exact fin.out _ _ OV.out bE.out
 ·have hb0:(b==0)=false:=by simp[h0]
  cases hc:bl bh.id b x.fols with
  | true=>
    obtain⟨p,-,hp,-⟩:=cj hc;have OV:Hid (true=nL x b):=by unfold Hid nL;rw[hc];simp
    rw[hp] at K0;have qI:(0:Int)≤(p:Int):=by omega
    clear hc hp;go_wp2_with (go_at_call 72;refine(K0.out _ bE.out).mono ?_;rintro e w1 ⟨rfl,hr⟩;have bo:=h_ hr;clear hr)
    exact fin.out _ _ OV.out bo.out
  | false=>
    have OV:Hid (false=nL x b):=by unfold Hid nL;rw[hc,decide_eq_false h0];rfl
    rw[bZ hc] at K0;clear hc;go_wp2_with (go_at_call 72;refine(K0.out _ bE.out).mono ?_;rintro e w1 ⟨rfl,hr⟩;have bo:=h_ hr;clear hr);exact fin.out _ _ OV.out bo.out
theorem MM(w:World)(fo fe it se:Sl)(x:St)(e:Ev):∃w0,w0=(w.alloc (.cells #[I J x.clock,U fo.1 x.fols.length fo.2,U fe.1 x.fees.length fe.2,U it.1 x.itms.length it.2,U se.1 x.seas.length se.2,I J x.tFol,I J x.tFee,I J x.tItm,I J x.tSea] 36)).alloc (.cells #[I J e.kind,I J e.a,I J e.b,I J e.n,V e.s,V e.t,V e.u] 42)∧aa ag w w0∧aj w0 w.heap.size 36 #[I J x.clock,U fo.1 x.fols.length fo.2,U fe.1 x.fees.length fe.2,U it.1 x.itms.length it.2,U se.1 x.seas.length se.2,I J x.tFol,I J x.tFee,I J x.tItm,I J x.tSea]∧aj w0 (w.heap.size+1) 42 #[I J e.kind,I J e.a,I J e.b,I J e.n,V e.s,V e.t,V e.u]:=by
 refine⟨_,rfl,((fR w).alloc _).alloc _,(aj.new w _ _).frm ((fR _).alloc _) id,?_⟩;have:=aj.new (w.alloc (.cells #[I J x.clock,U fo.1 x.fols.length fo.2,U fe.1 x.fees.length fe.2,U it.1 x.itms.length it.2,U se.1 x.seas.length se.2,I J x.tFol,I J x.tFee,I J x.tItm,I J x.tSea] 36)) 42 #[I J e.kind,I J e.a,I J e.b,I J e.n,V e.s,V e.t,V e.u]
 simpa using this
theorem iU{x:St}(hS:aY w G fo fe it se ts x)(hsm:aP x)(e:Ev):
  Calls pQ 30 #[cC fo fe it se x,bQ e] w λr w'=>r=.returned (.bool (aG x e))∧aa ag w w':=by
 obtain⟨w0,hw0,hf0,hb1,hb2⟩:=MM w fo fe it se x e;have HR:Hid (bD w w0 w.heap.size (w.heap.size+1) fo fe it se ts x G e):=⟨hS.nix hf0,hsm,hf0,hb1,hb2⟩;obtain⟨k,a,b,n,s,t,u⟩:=e;have HW:=h_ hw0;have KC:Hid (Calls pQ 71 #[.agg #[I J k,I J a,I J b,I J n,V s,V t,V u]] w0 λr w'=>r=.returned (.bool (aM ⟨k,a,b,n,s,t,u⟩))∧aa ag w0 w'):=wP ⟨k,a,b,n,s,t,u⟩ w0;obtain⟨e0,e1,e2,e3,e4,e5,e6⟩:=az hb2;rw[hw0] at e0 e1 e2 e3 e4 e5 e6;clear hS hsm hf0 hb1 hb2 hw0;unfold cC bQ;dsimp only at *
 cases ho:aM ⟨k,a,b,n,s,t,u⟩ with
 | false=>
   rw[ho] at KC;have HE:Hid (aG x ⟨k,a,b,n,s,t,u⟩=false):=by unfold Hid aG;rw[ho];rfl
   clear ho;go_enter Tryz.func30,Tryz.ntmps30;go_wp2_with (go_at_call 71;rw[←HW.out];refine KC.out.mono ?_;rintro r w1 ⟨rfl,hf⟩;have Z1:=h_ hf;clear hf);go_ret
   exact⟨by rw[HE.out]<;>rfl,HR.out.frm.trans Z1.out⟩
 | true=>
   rw[ho] at KC;have HO:=h_ ho;clear ho;go_enter Tryz.func30,Tryz.ntmps30;show Code.wp pQ (ai 0 (ae Tryz.f30)) _ _ _
   refine aC (k':=1) λK hK=>?_
   conv in aD _=>whnf
   go_wp2;refine aC (k':=2) λK hK=>?_
   conv in aD _=>whnf
   go_wp2_with (go_at_call 71;rw[←HW.out];refine KC.out.mono ?_;rintro r w1 ⟨rfl,hf⟩;have Z1:=h_ hf;clear hf);exact Ug (HR.out.nix Z1.out) HO.out
theorem rV:∀a b:List UInt8,Op.bytesLess a b=decide (a<b)
 | [],[]=>by simp[Op.bytesLess]
 | [],_::_=>by simp[Op.bytesLess]
 | _::_,[]=>by simp[Op.bytesLess]
 | a::la,b::lb=>by
   rw[Bool.eq_iff_iff];simp only[Op.bytesLess,rV la lb,Bool.or_eq_true,Bool.and_eq_true,beq_iff_eq,decide_eq_true_eq,List.cons_lt_cons_iff]
theorem Rh(a b:ByteArray):Op.bytesLess a.toList b.toList=decide (lU a b):=by
 rw[rV,ByteArray.toList_eq,ByteArray.toList_eq];rfl
theorem Dn(t:ByteArray)(d:Bool)(x:ByteArray)(r:List ByteArray):ip t d (x::r)=if d=false∧lU t x then t::(if x=t then ip t true r else x::ip t true r) else if x=t then ip t d r else x::ip t d r:=by rw[ip]
theorem rb(o:List ByteArray)(x:ByteArray):(o++[x]).map Value.string=o.map Value.string++[Value.string x]:=by simp
theorem FA{v:Sl}(l:List ByteArray)(hv:aF w G 1 v l.length (l.map Value.string))(hn:l.length≤1000)(t:ByteArray)(b:Bool):
  Calls pQ 35 #[U v.1 l.length v.2,V t,.bool b] w λe w'=>∃v':Sl,e=.returned (U v'.1 (cY l t b).length v'.2)∧aF w' (λk=>w.heap.size≤k) 1 v' (cY l t b).length ((cY l t b).map Value.string)∧aa ag w w':=by
 obtain⟨Av,cv⟩:=v;dsimp only;rw[tj] at hv;have HV:=h_ hv;obtain⟨T,hT⟩:∃T,cY l t b=T:=⟨_,rfl⟩;have HT:Hid (ip t (!b) l=T):=hT;obtain⟨n,d9⟩:∃n,l.length=n:=⟨_,rfl⟩;have HL:=h_ d9;rw[hT];rw[d9] at hn ⊢;clear hv hT d9;go_enter Tryz.func35,Tryz.ntmps35;go_wp2
 go_loopw [7,8,9] (λov dv kv wr=>∃(k:Nat) (d:Bool) (o:List ByteArray),(k≤n∧o.length≤2 * k)∧kv=I J k∧dv=.bool d∧aJ 9 w wr ov o.length (o.map Value.string)∧o++ip t d (l.drop k)=T) (λ_ _ kv _=>n-(intOf kv).toNat)
 case atStart=>exact⟨0,!b,[],by simp,rfl,rfl,aJ.nil_ _ (aa.refl _ _),by simpa using HT.out⟩
 case round=>
  obtain⟨k,d,o,⟨hk,S7⟩,rfl,rfl,hrow,Ss⟩:=hrel;have eh:=h_ hrow;have Su:=h_ Ss;obtain⟨B,c',rfl,-,-,-,-⟩:=hrow.shape;clear hrow Ss
  by_cases hlt:k<n
  ·have cQ:k<l.length:=by rw[HL.out];exact hlt
   obtain⟨bk,off,hA,-,hbl,hcell⟩:=(HV.out.nix eh.out.frm).at_ (f:=λi=>[Value.string i]) (λ_=>rfl) (by decide) (by omega);dsimp only at hA;subst hA
   have Io:∀W,aa ag w W→∀(i:Nat) (hi:i<l.length) (j:Nat) (u:Value),[Value.string l[i]][j]? =some u→W.cell? ⟨bk,off+i * 1+j,none⟩=some u:=λW hW i hi j u hu=>by
    obtain⟨bk',off',hA',-,wz,bX⟩:=(HV.out.nix hW).at_ (f:=λi=>[Value.string i]) (λ_=>rfl) (by decide) (by omega);dsimp only at hA';injection hA' with hA';injection hA' with e1 e2;subst e1;subst e2;exact bX i hi j u hu
   have x0:=hcell k cQ 0 _ rfl;rw[Nat.mul_one,Nat.add_zero] at x0;have Do:=h_ Su.out;rw[List.drop_eq_getElem_cons cQ,Dn] at Do
   have HB:Hid (∀W,aa ag w W→W.cell? ⟨bk,off+k,none⟩=some (V l[k])):=λW hW=>by
    have h1:=(Io W hW) k cQ 0 _ rfl;rw[Nat.mul_one,Nat.add_zero] at h1;exact h1
   obtain⟨x,hx⟩:∃x,l[k]=x:=⟨_,rfl⟩;rw[hx] at x0 Do HB;clear hcell Io hx;have yV:=Rh t x
   cases d with
   | true=>
     by_cases he:x=t
     ·have HE:Hid (o++ip t true (l.drop (k+1))=T):=by have:=Do.out;rw[if_neg (by simp),if_pos he] at this;exact this
      subst he;clear yV;go_wp2;go_roundw
      case rel=>exact⟨k+1,true,o,by omega,by go_num,rfl,eh.out,HE.out⟩
      case measure=>simp[intOf];omega
     ·have HE:Hid ((o++[x])++ip t true (l.drop (k+1))=T):=by have:=Do.out;rw[if_neg (by simp),if_neg he] at this;unfold Hid;simpa using this
      obtain⟨td,mR⟩:=sD he;have tP:(x.toList !=t.toList)=true:=by simp[bne,mR]
      obtain⟨v2,w2,hrun,mL,-,-⟩:=eh.out.push vK (V x) rfl (by unfold maxLen;omega) (by omega);rw[←rb] at mL;have gF:=h_ mL;clear mL yV;go_wp2_with (at_builtin;refine aq hrun rfl _ _ rfl rfl rfl ?_);go_roundw
      case rel=>exact⟨k+1,true,o++[x],by simp;omega,by go_num,rfl,by simpa using gF.out,HE.out⟩
      case measure=>simp[intOf];omega
   | false=>
     by_cases hl:lU t x
     ·rw[decide_eq_true hl] at yV
      have hne:¬x=t:=λe=>CQ hl e.symm
      have HE:Hid (((o++[t])++[x])++ip t true (l.drop (k+1))=T):=by have:=Do.out;rw[if_pos ⟨rfl,hl⟩,if_neg hne] at this;unfold Hid;simpa using this
      obtain⟨td,mR⟩:=sD hne;have tP:(x.toList !=t.toList)=true:=by simp[bne,mR]
      obtain⟨v2,w2,hrun,mL,-,-⟩:=eh.out.push vK (V t) rfl (by unfold maxLen;omega) (by omega);have x2:=HB.out w2 mL.frm;obtain⟨B2,c2,rfl,-,-,-,-⟩:=mL.shape;obtain⟨v3,w3,GV,Dp,-,-⟩:=mL.push vK (V x) rfl (by unfold maxLen;omega) (by omega);rw[←rb,←rb] at Dp;have nG:=h_ Dp;clear mL Dp;go_wp2_with (at_builtin;first|(refine aq hrun rfl _ _ rfl rfl rfl ?_)|(refine aq GV rfl _ _ rfl rfl rfl ?_));go_roundw
      case rel=>exact⟨k+1,true,(o++[t])++[x],by simp;omega,by go_num,rfl,by simpa using nG.out,HE.out⟩
      case measure=>simp[intOf];omega
     ·rw[decide_eq_false hl] at yV
      by_cases he:x=t
      ·have HE:Hid (o++ip t false (l.drop (k+1))=T):=by have:=Do.out;rw[if_neg (λe=>hl e.2),if_pos he] at this;exact this
       subst he;go_wp2;go_roundw
       case rel=>exact⟨k+1,false,o,by omega,by go_num,rfl,eh.out,HE.out⟩
       case measure=>simp[intOf];omega
      ·have HE:Hid ((o++[x])++ip t false (l.drop (k+1))=T):=by have:=Do.out;rw[if_neg (λe=>hl e.2),if_neg he] at this;unfold Hid;simpa using this
       obtain⟨td,mR⟩:=sD he;have tP:(x.toList !=t.toList)=true:=by simp[bne,mR]
       obtain⟨v2,w2,hrun,mL,-,-⟩:=eh.out.push vK (V x) rfl (by unfold maxLen;omega) (by omega);rw[←rb] at mL;have gF:=h_ mL;clear mL;go_wp2_with (at_builtin;refine aq hrun rfl _ _ rfl rfl rfl ?_);go_roundw
       case rel=>exact⟨k+1,false,o++[x],by simp;omega,by go_num,rfl,by simpa using gF.out,HE.out⟩
       case measure=>simp[intOf];omega
  ·obtain rfl:k=n:=by omega
   have PL:Hid (o++ip t d []=T):=by have:=Su.out;rw[List.drop_of_length_le (by rw[HL.out];exact Nat.le_refl _)] at this;exact this
   cases d with
   | true=>
     have HE:Hid (o=T):=by have:=PL.out;unfold Hid;simpa [ip] using this
     have OW:Hid (aJ 9 w wr (U B T.length c') T.length (T.map Value.string)):=by rw[←HE.out];exact eh.out
     have Ri:Hid (o.length=T.length):=by unfold Hid;rw[HE.out]
     go_wp2;go_ret
     exact⟨(B,c'),by first|rfl|(rw[Ri.out]<;>rfl),OW.out.toK.sl,OW.out.frm⟩
   | false=>
     have HE:Hid (o++[t]=T):=by have:=PL.out;unfold Hid;simpa [ip] using this
     obtain⟨v2,w2,hrun,mL,-,-⟩:=eh.out.push vK (V t) rfl (by unfold maxLen;omega) (by omega);rw[←rb] at mL;obtain⟨B2,c2,rfl,-,-,-,-⟩:=mL.shape;have OW:Hid (aJ 9 w w2 (U B2 T.length c2) T.length (T.map Value.string)):=by unfold Hid;rw[←HE.out];simpa using mL
     have Ri:Hid (o.length+1=T.length):=by unfold Hid;rw[←HE.out];simp
     clear mL;go_wp2_with (at_builtin;refine aq hrun rfl _ _ rfl rfl rfl ?_);go_ret;exact⟨(B2,c2),by first|rfl|(rw[Ri.out]<;>rfl),OW.out.toK.sl,OW.out.frm⟩
end Go.Proofs.YtaecjmiobllhmaaGreat
