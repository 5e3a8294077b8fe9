/- Words. -/
import Derived.Test.YtaecjmiobllhmaaGreatGq63
set_option linter.unusedVariables false
set_option linter.unusedSimpArgs false
set_option maxRecDepth 100000
set_option maxHeartbeats 16000000
namespace Go.Proofs.YtaecjmiobllhmaaGreat
open Go.Value renaming int→I,string→V,slice→U,pointer→O
open Go.IntKind renaming i64→J
open Tryz renaming prog→pQ
open Go.RowKit Go.Lib
variable {w wc:World}{b1 b2:Nat}{fo fe it se:Sl}{ts:List (Sl×aJ)}{G:Nat→Prop}{s t u:ByteArray}
theorem Oc{x:St}{a b n:Int}(h:bF w wc b1 b2 fo fe it se ts x G ⟨10,a,b,n,s,t,u⟩)(ho:aQ ⟨10,a,b,n,s,t,u⟩=true){v:Nat→Value}:
  Code.wp pQ (aj 3 (ae Tryz.f30)) (bodyPost pQ Tryz.f30 λe w'=>e=.returned (.bool (av x ⟨10,a,b,n,s,t,u⟩))∧aa ac w w') (dm b1 b2 (eQ x b) v) wc:=by
 unfold dm
 have HE:Hid (av x ⟨10,a,b,n,s,t,u⟩=match eV aJ.id a x.itms with|none=>false|some t=>decide (n=0)||t.tags.any (λy=>y=s)||decide (t.tags.length<8)):=by
  unfold Hid av;rw[ho];simp
  cases eV aJ.id a x.itms<;>rfl
 have bp:=h_ h;have KI:Hid (∀W,bF w W b1 b2 fo fe it se ts x G ⟨10,a,b,n,s,t,u⟩→Calls pQ 34 #[bE fo fe it se x,I J a] W λe w'=>e=.returned (I J (gA aJ.id a x.itms))∧bF w w' b1 b2 fo fe it se ts x G ⟨10,a,b,n,s,t,u⟩∧aa ac W w'):=λW hW=>(jr hW.st hW.small a).mono λe w' q=>⟨q.1,hW.nix q.2,q.2⟩
 obtain⟨x0,x1,x2,x3,x4,x5,x6,x7,x8⟩:=ak (bp.out.b1);obtain⟨e0,e1,e2,e3,e4,e5,e6⟩:=ap (bp.out.b2);clear h ho;simp only[aj,ae,Tryz.f30]
 cases hc:aS aJ.id a x.itms with
 | false=>
   have hat:eV aJ.id a x.itms=none:=by
    have:=@mJ aJ aJ.id a x.itms;rw[hc] at this
    cases ha:eV aJ.id a x.itms with
    | none=>rfl
    | some f=>rw[ha] at this;cases this
   rw[hat] at HE;rw[dr hc] at KI;have dH:Hid (∀W,aa ac wc W→aa ac wc W):=λW hW=>hW
   clear hc hat;go_wp2_with (go_at_call 34;refine(KI.out _ bp.out).mono ?_;rintro e w1 ⟨rfl,hr,-⟩;have bw:=h_ hr;clear x0 x1 x2 x3 x4 x5 x6 x7 x8 e0 e1 e2 e3 e4 e5 e6;obtain⟨x0,x1,x2,x3,x4,x5,x6,x7,x8⟩:=ak (bw.out.b1);obtain⟨e0,e1,e2,e3,e4,e5,e6⟩:=ap (bw.out.b2);clear hr);go_quiet (fail);go_wp2;go_ret
   exact⟨by rw[HE.out]<;>rfl,bw.out.frm.drewN _⟩
 | true=>
   obtain⟨p,hpl,hp,-,hat,-⟩:=dh hc;rw[hp] at KI;rw[hat] at HE;have qi:(0:Int)≤(p:Int):=by omega
   obtain⟨A,c⟩:=it;dsimp only at x3 KI bp;obtain⟨mZ,wR⟩:=pw bp.out.st hpl;obtain⟨bk,off,hA,-,hbl,hcell⟩:=bp.out.st.itms.row.at_ dp (by decide) (by omega);dsimp only at hA;subst hA;have sf:=bp.out.st.itms.tags _ (List.getElem_mem mZ);have RA:=hcell p mZ;have hsm:=bp.out.small.tags _ (List.getElem_mem hpl);obtain⟨tp,Ju⟩:∃tp,ts[p]'mZ=tp:=⟨_,rfl⟩;rw[Ju] at RA wR sf;rw[←wR] at HE hsm;have Rz:wc.cell? ⟨bk,off+p * 9+8,none⟩=some (U tp.1.1 tp.2.tags.length tp.1.2):=RA 8 _ rfl;have QA:wc.cell? ⟨bk,off+p * 9,none⟩=some (I J tp.2.id):=RA 0 _ rfl;have KT:Hid (∀W,aa ac wc W→Calls pQ 78 #[U tp.1.1 tp.2.tags.length tp.1.2,V s] W λe w'=>e=.returned (.bool (tp.2.tags.any λy=>decide (y=s)))∧aa ac wc w'∧aa ac W w'):=λW hW=>(Cl tp.2.tags (sf.nix hW) (by omega) s).mono λe w' q=>⟨q.1,hW.trans q.2,q.2⟩
   have Zg:=bp.out.small.itms;clear hcell RA Ju wR hat hp hc sf;obtain⟨tv,TU⟩:∃tv:Sl,tp.1=tv:=⟨_,rfl⟩;obtain⟨tb,TV⟩:∃tb:Bool,(tp.2.tags.any λy=>decide (y=s))=tb:=⟨_,rfl⟩;obtain⟨tl,zR⟩:∃tl:Nat,tp.2.tags.length=tl:=⟨_,rfl⟩;rw[TU,TV,zR] at KT;rw[TU,zR] at Rz;simp only[TV,zR] at HE;rw[zR] at hsm;clear TU TV zR;have RB:=h_ (And.intro Rz (And.intro QA hbl));have kp:decide ((0:Int)≤(p:Int))=true:=by simp
   go_wp2_with (go_at_call 34;refine(KI.out _ bp.out).mono ?_;rintro e w1 ⟨rfl,hr,jg⟩;have bw:=h_ hr;have Bq:=h_ jg;clear x0 x1 x2 x3 x4 x5 x6 x7 x8 e0 e1 e2 e3 e4 e5 e6;obtain⟨x0,x1,x2,x3,x4,x5,x6,x7,x8⟩:=ak (bw.out.b1);obtain⟨e0,e1,e2,e3,e4,e5,e6⟩:=ap (bw.out.b2);clear hr jg);have zz:=λy:FW (aa ac w1)=>ak (bw.out.b1.frm y.h id)
   have q0:=λy=>(zz y).1
   have q3:=λy=>(zz y).2.2.2.1
   have ee:=λy:FW (aa ac w1)=>ap (bw.out.b2.frm y.h id)
   have g0:=λy=>(ee y).1
   have g3:=λy=>(ee y).2.2.2.1
   have g4:=λy=>(ee y).2.2.2.2.1
   have i8:=λy:FW (aa ac w1)=>((Bq.out.trans y.h).cell (p:=⟨bk,off+p * 9+8,none⟩) RB.out.2.2 id).trans RB.out.1
   have i0:=λy:FW (aa ac w1)=>((Bq.out.trans y.h).cell (p:=⟨bk,off+p * 9,none⟩) RB.out.2.2 id).trans RB.out.2.1
   have OT:=λy:FW (aa ac w1)=>(show Calls pQ 78 #[U tv.1 tl tv.2,V s] y.w λe w'=>e=.returned (.bool tb)∧aa ac y.w w' from (KT.out y.w (Bq.out.trans y.h)).mono λe w' q=>⟨q.1,q.2.2⟩)
   clear zz ee Rz QA
   by_cases h0:n=0
   ·have kb:(n==0)=true:=by rw[h0];rfl
    have HY:Hid (av x ⟨10,a,b,n,s,t,u⟩=true):=by unfold Hid;rw[HE.out,decide_eq_true h0];rfl
    clear h0;go_wp2_with fail;refine au (aa ac w1) ((fR w1).drew) (by kernel_rfl) (by kernel_rfl) ?_
    repeat (go_big_quiet_step (first
     | (rename_i y;go_at_call 78;refine y.call (OT y) ?_;exact λw' hf=>y.h.trans hf)
     | fail))
    refine wpQuiet_nil ?_;rintro w2 ⟨⟨_,wu⟩,rfl⟩;go_wp2;go_ret;exact⟨af HY.out.symm,bw.out.frm.trans wu⟩
   have kb:(n==0)=false:=by simp[h0]
   rw[decide_eq_false h0] at HE
   cases tb with
   | true=>
     go_wp2_with fail;refine au (aa ac w1) ((fR w1).drew) (by kernel_rfl) (by kernel_rfl) ?_
     repeat (go_big_quiet_step (first
      | (rename_i y;go_at_call 78;refine y.call (OT y) ?_;exact λw' hf=>y.h.trans hf)
      | fail))
     refine wpQuiet_nil ?_;rintro w2 ⟨⟨_,wu⟩,rfl⟩;go_wp2;go_ret
     exact⟨af (by rw[HE.out];rfl),bw.out.frm.trans wu⟩
   | false=>
     by_cases h8:tl<8
     ·have k8:decide ((tl:Int)<8)=true:=by simp;omega
      rw[decide_eq_true h8] at HE;go_wp2_with fail;refine au (aa ac w1) ((fR w1).drew) (by kernel_rfl) (by kernel_rfl) ?_
      repeat (go_big_quiet_step (first
       | (rename_i y;go_at_call 78;refine y.call (OT y) ?_;exact λw' hf=>y.h.trans hf)
       | fail))
      refine wpQuiet_nil ?_;rintro w2 ⟨⟨_,wu⟩,rfl⟩;go_wp2;go_ret;exact⟨af (by rw[HE.out]<;>first|rfl|(simp;done)|(simp;omega)),bw.out.frm.trans wu⟩
     ·have k8:decide ((tl:Int)<8)=false:=by simp;omega
      rw[decide_eq_false h8] at HE;go_wp2_with fail;refine au (aa ac w1) ((fR w1).drew) (by kernel_rfl) (by kernel_rfl) ?_
      repeat (go_big_quiet_step (first
       | (rename_i y;go_at_call 78;refine y.call (OT y) ?_;exact λw' hf=>y.h.trans hf)
       | fail))
      refine wpQuiet_nil ?_;rintro w2 ⟨⟨_,wu⟩,rfl⟩;go_wp2;go_ret;exact⟨af (by rw[HE.out]<;>first|rfl|(simp;done)|(simp;omega)),bw.out.frm.trans wu⟩
theorem Yk{x:St}{k a b n:Int}(h:bF w wc b1 b2 fo fe it se ts x G ⟨k,a,b,n,s,t,u⟩)(ho:aQ ⟨k,a,b,n,s,t,u⟩=true){u0 u1 u4 u5 u6 u7 u8 u9 u10 u11 u12 u13 u14 u15 u16 eG eH eI eJ eK eM u23 u24 eO u26 eW u28 eX eY eZ u32 u33 fh fj u36 fk u38 fw fx fy fG fH u44 u45 fJ fK gC gD gw gy gj gl gm gp fM fO fP fQ fU fV fW fX u64 fY fZ gc gg gF gO gP gQ gR gS gT gU gV gW gX gY gZ g9 hZ ie ig ii ij il im io ip iw ix iy iz iJ iK iM iO cJ cK cL cM cN cO cP cQ bH bI bJ bK bM bN bO bP bQ bR bS bT bU bV bW bX bY bZ cd cg cj cn cq ct cz cA cC cD cE cF u138 cG cR cS cT cU dz dA dB dC dD dS dT dU dV dW ki kj km ko kq kr kt ku kw kz jt ju jv jw jx jy jz jA jB jC jD jE jF jG jH jI jJ jK jL jM jN jO jP jQ jR jS jT jU jV u193 jW jX kA kB u198 kC kD kE kF kG:Value}:
  Code.wp pQ (aj 2 (ae Tryz.f30)) (bodyPost pQ Tryz.f30 λe w'=>e=.returned (.bool (av x ⟨k,a,b,n,s,t,u⟩))∧aa ac w w') ⟨#[u0,u1,O (some ⟨b1,0,none⟩),O (some ⟨b2,0,none⟩),u4,u5,u6,u7,u8,u9,u10,u11,u12,u13,u14,u15,u16,eG,eH,eI,eJ,eK,eM,u23,u24,eO,u26,eW,u28,eX,eY,eZ,u32,u33,fh,fj,u36,fk,u38,fw,fx,fy,fG,fH,u44,u45,fJ,fK,gC,gD,gw,gy,gj,gl,gm,gp,fM,fO,fP,fQ,fU,fV,fW,fX,u64,fY,fZ,gc,gg,gF,gO,gP,gQ,gR,gS,gT,gU,gV,gW,gX,gY,gZ,g9,hZ,ie,ig,ii,ij,il,im,io,ip,iw,ix,iy,iz,iJ,iK,iM,iO,cJ,cK,cL,cM,cN,cO,cP,cQ,bH,bI,bJ,bK,bM,bN,bO,bP,bQ,bR,bS,bT,bU,bV,bW,bX,bY,bZ,cd,cg,cj,cn,cq,ct,cz,cA,cC,cD,cE,cF,u138,cG,cR,cS,cT,cU,dz,dA,dB,dC,dD,dS,dT,dU,dV,dW,ki,kj,km,ko,kq,kr,kt,ku,kw,kz,jt,ju,jv,jw,jx,jy,jz,jA,jB,jC,jD,jE,jF,jG,jH,jI,jJ,jK,jL,jM,jN,jO,jP,jQ,jR,jS,jT,jU,jV,u193,jW,jX,kA,kB,u198,kC,kD,kE,kF,kG],[]⟩ wc:=by
 have HO:=h_ ho;have bp:=h_ h;have K0:Hid (∀W,bF w W b1 b2 fo fe it se ts x G ⟨k,a,b,n,s,t,u⟩→Calls pQ 72 #[bE fo fe it se x,I J b] W λe w'=>e=.returned (I J (gA bg.id b x.fols))∧bF w w' b1 b2 fo fe it se ts x G ⟨k,a,b,n,s,t,u⟩):=λW hW=>(ja hW.st hW.small b).mono λe w' q=>⟨q.1,hW.nix q.2⟩
 have QB:Hid (∀(W:World) (bb:Bool),bb=eQ x b→∀{v:Nat→Value},bF w W b1 b2 fo fe it se ts x G ⟨k,a,b,n,s,t,u⟩→Code.wp pQ (aj 3 (ae Tryz.f30)) (bodyPost pQ Tryz.f30 λe w'=>e=.returned (.bool (av x ⟨k,a,b,n,s,t,u⟩))∧aa ac w w') (dm b1 b2 bb v) W):=by
  intro W bb rI;subst rI;intros;have hk:=vX ho;dsimp only at hk;rename_i hW;rcases hk with rfl|rfl|rfl|rfl|rfl|rfl|rfl|rfl|rfl|rfl|rfl|rfl|rfl
  ·exact Qq hW ho
  ·exact Qs hW ho
  ·exact Qt hW ho
  ·exact Qu hW ho
  ·exact Qv hW ho
  ·exact Qw hW ho
  ·exact Qx hW ho
  ·exact Qy hW ho
  ·exact Qz hW ho
  ·exact Oc hW ho
  ·exact N9 hW ho
  ·exact Oa hW ho
  ·exact Ob hW ho
 have fin:Hid (∀(W:World) (bb:Bool),bb=eQ x b→∀{u0 u1 u4 u6 u7 u8 u9 u10 u11 u12 u13 u14 u15 u16 eG eH eI eJ eK eM u23 u24 eO u26 eW u28 eX eY eZ u32 u33 fh fj u36 fk u38 fw fx fy fG fH u44 u45 fJ fK gC gD gw gy gj gl gm gp fM fO fP fQ fU fV fW fX u64 fY fZ gc gg gF gO gP gQ gR gS gT gU gV gW gX gY gZ g9 hZ ie ig ii ij il im io ip iw ix iy iz iJ iK iM iO cJ cK cL cM cN cO cP cQ bH bI bJ bK bM bN bO bP bQ bR bS bT bU bV bW bX bY bZ cd cg cj cn cq ct cz cA cC cD cE cF u138 cG cR cS cT cU dz dA dB dC dD dS dT dU dV dW ki kj km ko kq kr kt ku kw kz jt ju jv jw jx jy jz jA jB jC jD jE jF jG jH jI jJ jK jL jM jN jO jP jQ jR jS jT jU jV u193 jW jX kA kB u198 kC kD kE kF kG:Value},bF w W b1 b2 fo fe it se ts x G ⟨k,a,b,n,s,t,u⟩→Code.wp pQ (aj 3 (ae Tryz.f30)) (bodyPost pQ Tryz.f30 λe w'=>e=.returned (.bool (av x ⟨k,a,b,n,s,t,u⟩))∧aa ac w w') ⟨#[u0,u1,O (some ⟨b1,0,none⟩),O (some ⟨b2,0,none⟩),u4,.bool bb,u6,u7,u8,u9,u10,u11,u12,u13,u14,u15,u16,eG,eH,eI,eJ,eK,eM,u23,u24,eO,u26,eW,u28,eX,eY,eZ,u32,u33,fh,fj,u36,fk,u38,fw,fx,fy,fG,fH,u44,u45,fJ,fK,gC,gD,gw,gy,gj,gl,gm,gp,fM,fO,fP,fQ,fU,fV,fW,fX,u64,fY,fZ,gc,gg,gF,gO,gP,gQ,gR,gS,gT,gU,gV,gW,gX,gY,gZ,g9,hZ,ie,ig,ii,ij,il,im,io,ip,iw,ix,iy,iz,iJ,iK,iM,iO,cJ,cK,cL,cM,cN,cO,cP,cQ,bH,bI,bJ,bK,bM,bN,bO,bP,bQ,bR,bS,bT,bU,bV,bW,bX,bY,bZ,cd,cg,cj,cn,cq,ct,cz,cA,cC,cD,cE,cF,u138,cG,cR,cS,cT,cU,dz,dA,dB,dC,dD,dS,dT,dU,dV,dW,ki,kj,km,ko,kq,kr,kt,ku,kw,kz,jt,ju,jv,jw,jx,jy,jz,jA,jB,jC,jD,jE,jF,jG,jH,jI,jJ,jK,jL,jM,jN,jO,jP,jQ,jR,jS,jT,jU,jV,u193,jW,jX,kA,kB,u198,kC,kD,kE,kF,kG],[]⟩ W):=by
  intro W bb rI u0 u1 u4 u6 u7 u8 u9 u10 u11 u12 u13 u14 u15 u16 eG eH eI eJ eK eM u23 u24 eO u26 eW u28 eX eY eZ u32 u33 fh fj u36 fk u38 fw fx fy fG fH u44 u45 fJ fK gC gD gw gy gj gl gm gp fM fO fP fQ fU fV fW fX u64 fY fZ gc gg gF gO gP gQ gR gS gT gU gV gW gX gY gZ g9 hZ ie ig ii ij il im io ip iw ix iy iz iJ iK iM iO cJ cK cL cM cN cO cP cQ bH bI bJ bK bM bN bO bP bQ bR bS bT bU bV bW bX bY bZ cd cg cj cn cq ct cz cA cC cD cE cF u138 cG cR cS cT cU dz dA dB dC dD dS dT dU dV dW ki kj km ko kq kr kt ku kw kz jt ju jv jw jx jy jz jA jB jC jD jE jF jG jH jI jJ jK jL jM jN jO jP jQ jR jS jT jU jV u193 jW jX kA kB u198 kC kD kE kF kG hW;exact QB.out W bb rI (v:=λn=>[u0,u1,undef,undef,u4,undef,u6,u7,u8,u9,u10,u11,u12,u13,u14,u15,u16,eG,eH,eI,eJ,eK,eM,u23,u24,eO,u26,eW,u28,eX,eY,eZ,u32,u33,fh,fj,u36,fk,u38,fw,fx,fy,fG,fH,u44,u45,fJ,fK,gC,gD,gw,gy,gj,gl,gm,gp,fM,fO,fP,fQ,fU,fV,fW,fX,u64,fY,fZ,gc,gg,gF,gO,gP,gQ,gR,gS,gT,gU,gV,gW,gX,gY,gZ,g9,hZ,ie,ig,ii,ij,il,im,io,ip,iw,ix,iy,iz,iJ,iK,iM,iO,cJ,cK,cL,cM,cN,cO,cP,cQ,bH,bI,bJ,bK,bM,bN,bO,bP,bQ,bR,bS,bT,bU,bV,bW,bX,bY,bZ,cd,cg,cj,cn,cq,ct,cz,cA,cC,cD,cE,cF,u138,cG,cR,cS,cT,cU,dz,dA,dB,dC,dD,dS,dT,dU,dV,dW,ki,kj,km,ko,kq,kr,kt,ku,kw,kz,jt,ju,jv,jw,jx,jy,jz,jA,jB,jC,jD,jE,jF,jG,jH,jI,jJ,jK,jL,jM,jN,jO,jP,jQ,jR,jS,jT,jU,jV,u193,jW,jX,kA,kB,u198,kC,kD,kE,kF,kG].getD n undef) hW
 clear QB;obtain⟨x0,x1,x2,x3,x4,x5,x6,x7,x8⟩:=ak (bp.out.b1);obtain⟨e0,e1,e2,e3,e4,e5,e6⟩:=ap (bp.out.b2);clear h ho;refine aG (k':=3) λK hK=>?_
 conv in bz _=>whnf
 by_cases h0:b=0
 ·have QC:Hid (true=eQ x b):=by unfold Hid;rw[h0];rfl
  subst h0;go_wp2;exact fin.out _ _ QC.out bp.out
 ·have hb0:(b==0)=false:=by simp[h0]
  cases hc:aS bg.id b x.fols with
  | true=>
    obtain⟨p,-,hp,-⟩:=dh hc;have QC:Hid (true=eQ x b):=by unfold Hid eQ;rw[hc];simp
    rw[hp] at K0;have qi:(0:Int)≤(p:Int):=by omega
    clear hc hp;go_wp2_with (go_at_call 72;refine(K0.out _ bp.out).mono ?_;rintro e w1 ⟨rfl,hr⟩;have bw:=h_ hr;clear hr)
    exact fin.out _ _ QC.out bw.out
  | false=>
    have QC:Hid (false=eQ x b):=by unfold Hid eQ;rw[hc,decide_eq_false h0];rfl
    rw[dr hc] at K0;clear hc;go_wp2_with (go_at_call 72;refine(K0.out _ bp.out).mono ?_;rintro e w1 ⟨rfl,hr⟩;have bw:=h_ hr;clear hr);exact fin.out _ _ QC.out bw.out
theorem Od(w:World)(fo fe it se:Sl)(x:St)(e:Ev):∃w0,w0=(w.alloc (.cells #[I J x.clock,U fo.1 x.fols.length fo.2,U fe.1 x.fees.length fe.2,U it.1 x.itms.length it.2,U se.1 x.seas.length se.2,I J x.tFol,I J x.tFee,I J x.tItm,I J x.tSea] 36)).alloc (.cells #[I J e.kind,I J e.a,I J e.b,I J e.n,V e.s,V e.t,V e.u] 42)∧aa ac w w0∧ai w0 w.heap.size 36 #[I J x.clock,U fo.1 x.fols.length fo.2,U fe.1 x.fees.length fe.2,U it.1 x.itms.length it.2,U se.1 x.seas.length se.2,I J x.tFol,I J x.tFee,I J x.tItm,I J x.tSea]∧ai w0 (w.heap.size+1) 42 #[I J e.kind,I J e.a,I J e.b,I J e.n,V e.s,V e.t,V e.u]:=by
 refine⟨_,rfl,((fR w).alloc _).alloc _,(ai.new w _ _).frm ((fR _).alloc _) id,?_⟩;have:=ai.new (w.alloc (.cells #[I J x.clock,U fo.1 x.fols.length fo.2,U fe.1 x.fees.length fe.2,U it.1 x.itms.length it.2,U se.1 x.seas.length se.2,I J x.tFol,I J x.tFee,I J x.tItm,I J x.tSea] 36)) 42 #[I J e.kind,I J e.a,I J e.b,I J e.n,V e.s,V e.t,V e.u]
 simpa using this
theorem gJ{x:St}(hS:aM w G fo fe it se ts x)(hsm:aH x)(e:Ev):
  Calls pQ 30 #[bE fo fe it se x,dt e] w λr w'=>r=.returned (.bool (av x e))∧aa ac w w':=by
 obtain⟨w0,hw0,hf0,hb1,hb2⟩:=Od w fo fe it se x e;have HR:Hid (bF w w0 w.heap.size (w.heap.size+1) fo fe it se ts x G e):=⟨hS.nix hf0,hsm,hf0,hb1,hb2⟩;obtain⟨k,a,b,n,s,t,u⟩:=e;have HW:=h_ hw0;have KC:Hid (Calls pQ 71 #[.agg #[I J k,I J a,I J b,I J n,V s,V t,V u]] w0 λr w'=>r=.returned (.bool (aQ ⟨k,a,b,n,s,t,u⟩))∧aa ac w0 w'):=D9 ⟨k,a,b,n,s,t,u⟩ w0;obtain⟨e0,e1,e2,e3,e4,e5,e6⟩:=ap hb2;rw[hw0] at e0 e1 e2 e3 e4 e5 e6;clear hS hsm hf0 hb1 hb2 hw0;unfold bE dt;dsimp only at *
 cases ho:aQ ⟨k,a,b,n,s,t,u⟩ with
 | false=>
   rw[ho] at KC;have HE:Hid (av x ⟨k,a,b,n,s,t,u⟩=false):=by unfold Hid av;rw[ho];rfl
   clear ho;go_enter Tryz.func30,Tryz.ntmps30;go_wp2_with (go_at_call 71;rw[←HW.out];refine KC.out.mono ?_;rintro r w1 ⟨rfl,hf⟩;have Z1:=h_ hf;clear hf);go_ret
   exact⟨by rw[HE.out]<;>rfl,HR.out.frm.trans Z1.out⟩
 | true=>
   rw[ho] at KC;have HO:=h_ ho;clear ho;go_enter Tryz.func30,Tryz.ntmps30;show Code.wp pQ (aj 0 (ae Tryz.f30)) _ _ _
   refine aG (k':=1) λK hK=>?_
   conv in bz _=>whnf
   go_wp2;refine aG (k':=2) λK hK=>?_
   conv in bz _=>whnf
   go_wp2_with (go_at_call 71;rw[←HW.out];refine KC.out.mono ?_;rintro r w1 ⟨rfl,hf⟩;have Z1:=h_ hf;clear hf);exact Yk (HR.out.nix Z1.out) HO.out
theorem rL:∀a b:List UInt8,Op.bytesLess a b=decide (a<b)
 | [],[]=>by simp[Op.bytesLess]
 | [],_::_=>by simp[Op.bytesLess]
 | _::_,[]=>by simp[Op.bytesLess]
 | a::la,b::lb=>by
   rw[Bool.eq_iff_iff];simp only[Op.bytesLess,rL la lb,Bool.or_eq_true,Bool.and_eq_true,beq_iff_eq,decide_eq_true_eq,List.cons_lt_cons_iff]
theorem TW(a b:ByteArray):Op.bytesLess a.toList b.toList=decide (lg a b):=by
 rw[rL,ByteArray.toList_eq,ByteArray.toList_eq];rfl
theorem Ef(t:ByteArray)(d:Bool)(x:ByteArray)(r:List ByteArray):iZ t d (x::r)=if d=false∧lg t x then t::(if x=t then iZ t true r else x::iZ t true r) else if x=t then iZ t d r else x::iZ t d r:=by rw[iZ]
theorem qT(o:List ByteArray)(x:ByteArray):(o++[x]).map Value.string=o.map Value.string++[Value.string x]:=by simp
theorem G9{v:Sl}(l:List ByteArray)(hv:aN w G 1 v l.length (l.map Value.string))(hn:l.length≤1000)(t:ByteArray)(b:Bool):
  Calls pQ 35 #[U v.1 l.length v.2,V t,.bool b] w λe w'=>∃v':Sl,e=.returned (U v'.1 (ei l t b).length v'.2)∧aN w' (λk=>w.heap.size≤k) 1 v' (ei l t b).length ((ei l t b).map Value.string)∧aa ac w w':=by
 obtain⟨Av,cv⟩:=v;dsimp only;rw[sV] at hv;have HV:=h_ hv;obtain⟨T,hT⟩:∃T,ei l t b=T:=⟨_,rfl⟩;have HT:Hid (iZ t (!b) l=T):=hT;obtain⟨n,lG⟩:∃n,l.length=n:=⟨_,rfl⟩;have HL:=h_ lG;rw[hT];rw[lG] at hn ⊢;clear hv hT lG;go_enter Tryz.func35,Tryz.ntmps35;go_wp2
 go_loopw [7,8,9] (λov dv kv wr=>∃(k:Nat) (d:Bool) (o:List ByteArray),(k≤n∧o.length≤2 * k)∧kv=I J k∧dv=.bool d∧aK 9 w wr ov o.length (o.map Value.string)∧o++iZ t d (l.drop k)=T) (λ_ _ kv _=>n-(intOf kv).toNat)
 case atStart=>exact⟨0,!b,[],by simp,rfl,rfl,aK.nil_ _ (aa.refl _ _),by simpa using HT.out⟩
 case round=>
  obtain⟨k,d,o,⟨hk,V2⟩,rfl,rfl,hrow,Vv⟩:=hrel;have ji:=h_ hrow;have Vw:=h_ Vv;obtain⟨B,c',rfl,-,-,-,-⟩:=hrow.shape;clear hrow Vv
  by_cases hlt:k<n
  ·have dX:k<l.length:=by rw[HL.out];exact hlt
   obtain⟨bk,off,hA,-,hbl,hcell⟩:=(HV.out.nix ji.out.frm).at_ (f:=λi=>[Value.string i]) (λ_=>rfl) (by decide) (by omega);dsimp only at hA;subst hA
   have Jy:∀W,aa ac w W→∀(i:Nat) (hi:i<l.length) (j:Nat) (u:Value),[Value.string l[i]][j]? =some u→W.cell? ⟨bk,off+i * 1+j,none⟩=some u:=λW hW i hi j u hu=>by
    obtain⟨bk',off',hA',-,DD,iQ⟩:=(HV.out.nix hW).at_ (f:=λi=>[Value.string i]) (λ_=>rfl) (by decide) (by omega);dsimp only at hA';injection hA' with hA';injection hA' with e1 e2;subst e1;subst e2;exact iQ i hi j u hu
   have x0:=hcell k dX 0 _ rfl;rw[Nat.mul_one,Nat.add_zero] at x0;have Eg:=h_ Vw.out;rw[List.drop_eq_getElem_cons dX,Ef] at Eg
   have HB:Hid (∀W,aa ac w W→W.cell? ⟨bk,off+k,none⟩=some (V l[k])):=λW hW=>by
    have h1:=(Jy W hW) k dX 0 _ rfl;rw[Nat.mul_one,Nat.add_zero] at h1;exact h1
   obtain⟨x,hx⟩:∃x,l[k]=x:=⟨_,rfl⟩;rw[hx] at x0 Eg HB;clear hcell Jy hx;have Bt:=TW t x
   cases d with
   | true=>
     by_cases he:x=t
     ·have HE:Hid (o++iZ t true (l.drop (k+1))=T):=by have:=Eg.out;rw[if_neg (by simp),if_pos he] at this;exact this
      subst he;clear Bt;go_wp2;go_roundw
      case rel=>exact⟨k+1,true,o,by omega,by go_num,rfl,ji.out,HE.out⟩
      case measure=>simp[intOf];omega
     ·have HE:Hid ((o++[x])++iZ t true (l.drop (k+1))=T):=by have:=Eg.out;rw[if_neg (by simp),if_neg he] at this;unfold Hid;simpa using this
      obtain⟨xh,nk⟩:=sj he;have tL:(x.toList !=t.toList)=true:=by simp[bne,nk]
      obtain⟨v2,w2,hrun,mR,-,-⟩:=ji.out.push vI (V x) rfl (by unfold maxLen;omega) (by omega);rw[←qT] at mR;have gI:=h_ mR;clear mR Bt;go_wp2_with (at_builtin;refine aq hrun rfl _ _ rfl rfl rfl ?_);go_roundw
      case rel=>exact⟨k+1,true,o++[x],by simp;omega,by go_num,rfl,by simpa using gI.out,HE.out⟩
      case measure=>simp[intOf];omega
   | false=>
     by_cases hl:lg t x
     ·rw[decide_eq_true hl] at Bt
      have hne:¬x=t:=λe=>C6 hl e.symm
      have HE:Hid (((o++[t])++[x])++iZ t true (l.drop (k+1))=T):=by have:=Eg.out;rw[if_pos ⟨rfl,hl⟩,if_neg hne] at this;unfold Hid;simpa using this
      obtain⟨xh,nk⟩:=sj hne;have tL:(x.toList !=t.toList)=true:=by simp[bne,nk]
      obtain⟨v2,w2,hrun,mR,-,-⟩:=ji.out.push vI (V t) rfl (by unfold maxLen;omega) (by omega);have x2:=HB.out w2 mR.frm;obtain⟨B2,c2,rfl,-,-,-,-⟩:=mR.shape;obtain⟨v3,w3,Ic,Eh,-,-⟩:=mR.push vI (V x) rfl (by unfold maxLen;omega) (by omega);rw[←qT,←qT] at Eh;have od:=h_ Eh;clear mR Eh;go_wp2_with (at_builtin;first|(refine aq hrun rfl _ _ rfl rfl rfl ?_)|(refine aq Ic rfl _ _ rfl rfl rfl ?_));go_roundw
      case rel=>exact⟨k+1,true,(o++[t])++[x],by simp;omega,by go_num,rfl,by simpa using od.out,HE.out⟩
      case measure=>simp[intOf];omega
     ·rw[decide_eq_false hl] at Bt
      by_cases he:x=t
      ·have HE:Hid (o++iZ t false (l.drop (k+1))=T):=by have:=Eg.out;rw[if_neg (λe=>hl e.2),if_pos he] at this;exact this
       subst he;go_wp2;go_roundw
       case rel=>exact⟨k+1,false,o,by omega,by go_num,rfl,ji.out,HE.out⟩
       case measure=>simp[intOf];omega
      ·have HE:Hid ((o++[x])++iZ t false (l.drop (k+1))=T):=by have:=Eg.out;rw[if_neg (λe=>hl e.2),if_neg he] at this;unfold Hid;simpa using this
       obtain⟨xh,nk⟩:=sj he;have tL:(x.toList !=t.toList)=true:=by simp[bne,nk]
       obtain⟨v2,w2,hrun,mR,-,-⟩:=ji.out.push vI (V x) rfl (by unfold maxLen;omega) (by omega);rw[←qT] at mR;have gI:=h_ mR;clear mR;go_wp2_with (at_builtin;refine aq hrun rfl _ _ rfl rfl rfl ?_);go_roundw
       case rel=>exact⟨k+1,false,o++[x],by simp;omega,by go_num,rfl,by simpa using gI.out,HE.out⟩
       case measure=>simp[intOf];omega
  ·obtain rfl:k=n:=by omega
   have Ry:Hid (o++iZ t d []=T):=by have:=Vw.out;rw[List.drop_of_length_le (by rw[HL.out];exact Nat.le_refl _)] at this;exact this
   cases d with
   | true=>
     have HE:Hid (o=T):=by have:=Ry.out;unfold Hid;simpa [iZ] using this
     have QD:Hid (aK 9 w wr (U B T.length c') T.length (T.map Value.string)):=by rw[←HE.out];exact ji.out
     have TX:Hid (o.length=T.length):=by unfold Hid;rw[HE.out]
     go_wp2;go_ret
     exact⟨(B,c'),by first|rfl|(rw[TX.out]<;>rfl),QD.out.toK.sl,QD.out.frm⟩
   | false=>
     have HE:Hid (o++[t]=T):=by have:=Ry.out;unfold Hid;simpa [iZ] using this
     obtain⟨v2,w2,hrun,mR,-,-⟩:=ji.out.push vI (V t) rfl (by unfold maxLen;omega) (by omega);rw[←qT] at mR;obtain⟨B2,c2,rfl,-,-,-,-⟩:=mR.shape;have QD:Hid (aK 9 w w2 (U B2 T.length c2) T.length (T.map Value.string)):=by unfold Hid;rw[←HE.out];simpa using mR
     have TX:Hid (o.length+1=T.length):=by unfold Hid;rw[←HE.out];simp
     clear mR;go_wp2_with (at_builtin;refine aq hrun rfl _ _ rfl rfl rfl ?_);go_ret;exact⟨(B2,c2),by first|rfl|(rw[TX.out]<;>rfl),QD.out.toK.sl,QD.out.frm⟩
end Go.Proofs.YtaecjmiobllhmaaGreat
