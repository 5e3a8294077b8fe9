/- Words. -/
import Derived.Test.YtaecjmiobllhmaaGreatGq91
set_option linter.unusedVariables false
set_option linter.unusedSimpArgs false
set_option maxRecDepth 100000
set_option maxHeartbeats 16000000
namespace Go.Proofs.YtaecjmiobllhmaaGreat
open Go.Value renaming int→I,string→V,slice→U,pointer→O
open Go.IntKind renaming i64→J
open Tryz renaming prog→pQ
open Go.RowKit Go.Lib
variable {w wc:World}{bx bc:Nat}{fo fe it se:Sl}{ts:List (Sl×aJ)}{x:St}{G:Nat→Prop}{a b n:Int}{s t:ByteArray}{fl:Bool}{u0 u1 u6 u7 u8 u9 u10 u11 u12 u13 u14 u15 u16 eG eH eI eJ eK eM u23 u24 eO u26 eW u28 eX eY eZ u32 u33 fh fj u36 fk u38 fw fx fy fG fH u44 u45 fJ fK gC gD gw gy gj gl gm gp fM fO fP fQ fU fV fW fX u64 fY fZ gc gg gF gO gP gQ gR gS gT gU gV gW gX gY gZ g9 hZ ie ig ii ij il im io ip iw ix iy iz iJ iK iM iO cJ cK cL cM cN cO cP cQ bH bI bJ bK bM bN bO bP bQ bR bS bT bU bV bW bX bY bZ cd cg cj cn cq ct cz cA cC cD cE cF u138 cG cR cS cT cU:Value}{k:Int}
theorem OB(hS:aM wc G fo fe it se ts x)(hsm:aH x)(hx:ai wc bx 36 #[I J x.clock,U fo.1 x.fols.length fo.2,U fe.1 x.fees.length fe.2,U it.1 x.itms.length it.2,U se.1 x.seas.length se.2,I J x.tFol,I J x.tFee,I J x.tItm,I J x.tSea])(hc:ai wc bc 49 #[I J 7,I J a,I J b,I J n,V s,V t])(hF:aa ac w wc)(hs:s.size≤10000)(ht:t.size≤10000)(zP:fl=true↔(n=0∨n=1)):
  Code.wp pQ (aj 2 (ae Tryz.f54)) (bodyPost pQ Tryz.f54 λe w'=>e=.returned (I J (aF ah aC x ⟨7,a,b,n,s,t⟩))∧aa ac w w') ⟨#[u0,u1,O (some ⟨bx,0,none⟩),O (some ⟨bc,0,none⟩),I J 0,.bool fl,u6,u7,u8,u9,u10,u11,u12,u13,u14,u15,u16,eG,eH,eI,eJ,eK,eM,u23,u24,eO,u26,eW,u28,eX,eY,eZ,u32,u33,fh,fj,u36,fk,u38,fw,fx,fy,fG,fH,u44,u45,fJ,fK,gC,gD,gw,gy,gj,gl,gm,gp,fM,fO,fP,fQ,fU,fV,fW,fX,u64,fY,fZ,gc,gg,gF,gO,gP,gQ,gR,gS,gT,gU,gV,gW,gX,gY,gZ,g9,hZ,ie,ig,ii,ij,il,im,io,ip,iw,ix,iy,iz,iJ,iK,iM,iO,cJ,cK,cL,cM,cN,cO,cP,cQ,bH,bI,bJ,bK,bM,bN,bO,bP,bQ,bR,bS,bT,bU,bV,bW,bX,bY,bZ,cd,cg,cj,cn,cq,ct,cz,cA,cC,cD,cE,cF,u138,cG,cR,cS,cT,cU],[]⟩ wc:=by
 have mG:=h_ hx;have dw:=h_ hc;have HF:=h_ hF;obtain⟨R,hR⟩:∃R,aF ah aC x ⟨7,a,b,n,s,t⟩=R:=⟨_,rfl⟩;rw[hR];have bp:=h_ hR.symm;clear hR
 have dH:Hid (∀W,aa ac wc W→W.cell? ⟨bx,0,none⟩=some (I J x.clock)∧W.cell? ⟨bx,1,none⟩=some (U fo.1 x.fols.length fo.2)∧W.cell? ⟨bx,2,none⟩=some (U fe.1 x.fees.length fe.2)∧W.cell? ⟨bx,3,none⟩=some (U it.1 x.itms.length it.2)∧W.cell? ⟨bx,4,none⟩=some (U se.1 x.seas.length se.2)∧W.cell? ⟨bx,5,none⟩=some (I J x.tFol)∧W.cell? ⟨bx,6,none⟩=some (I J x.tFee)∧W.cell? ⟨bx,7,none⟩=some (I J x.tItm)∧W.cell? ⟨bx,8,none⟩=some (I J x.tSea)∧W.cell? ⟨bc,0,none⟩=some (I J 7)∧W.cell? ⟨bc,1,none⟩=some (I J a)∧W.cell? ⟨bc,2,none⟩=some (I J b)∧W.cell? ⟨bc,3,none⟩=some (I J n)∧W.cell? ⟨bc,4,none⟩=some (V s)∧W.cell? ⟨bc,5,none⟩=some (V t)):=λW hW=>by
  obtain⟨y0,y1,y2,y3,y4,y5,y6,y7,y8⟩:=ak (hx.frm hW id);obtain⟨d0,d1,d2,d3,d4,d5⟩:=bn (hc.frm hW id);exact⟨y0,y1,y2,y3,y4,y5,y6,y7,y8,d0,d1,d2,d3,d4,d5⟩
 obtain⟨x0,x1,x2,x3,x4,x5,x6,x7,x8⟩:=ak hx;obtain⟨c0,c1,c2,c3,c4,c5⟩:=bn hc;have Mb:Hid (∀W,aa ac wc W→Calls pQ 34 #[bE fo fe it se x,I J a] W λe w'=>e=.returned (I J (gA aJ.id a x.itms))∧aa ac W w'):=λW hW=>jr (hS.nix hW) hsm a
 have HE:Hid (R=if ¬(n=0∨n=1) then 1 else if aS aJ.id a x.itms=false then 4 else 0):=by unfold Hid;rw[bp.out];unfold aF;simp
 have Fm:=h_ zP;have HN:=h_ (λh=>tG (g:=aJ.id) (i:=a) (l:=x.itms) h);have HY:=h_ (λh=>tH (g:=aJ.id) (i:=a) (l:=x.itms) h);clear hS hsm hx hc hF hs ht zP;generalize gA aJ.id a x.itms=p at *
 cases fl with
 | false=>
   have HR:Hid (R=1):=by unfold Hid;rw[HE.out,if_pos (λh=>by have:=Fm.out.2 h;cases this)]
   simp only[aj,ae,Tryz.f54];go_wp2_with (first|fail);go_ret
   exact⟨by rw[HR.out];rfl,HF.out⟩
 | true=>
   have qz:Hid (R=if aS aJ.id a x.itms=false then 4 else 0):=by unfold Hid;rw[HE.out,if_neg (λh=>h (Fm.out.1 rfl))]
   cases hi:aS aJ.id a x.itms with
   | false=>
     have hp:=HN.out hi;have HR:Hid (R=4):=by unfold Hid;rw[qz.out,if_pos hi]
     clear hi;simp only[aj,ae,Tryz.f54];go_wp2_with (first|(go_at_call 34;refine(Mb.out _ (fR wc)).mono ?_;rintro e w1 ⟨rfl,hf⟩;have dI:Hid (aa ac wc w1):=((fR wc)).trans hf;obtain⟨x0,x1,x2,x3,x4,x5,x6,x7,x8,c0,c1,c2,c3,c4,c5⟩:=dH.out _ dI.out;clear hf)|fail);go_ret
     exact⟨by rw[HR.out];rfl,HF.out.trans dI.out⟩
   | true=>
     have hp:=HY.out hi;have HR:Hid (R=0):=by unfold Hid;rw[qz.out,if_neg (by simp[hi])]
     have cyk:∀w1,aa ac wc w1→∀y:FW (aa ac w1),y.w.cell? ⟨bc,0,none⟩=some (I J 7):=λw1 h1 y=>((dw.out.frm (h1.trans y.h) id).cell 0).trans rfl
     have Ud:=h_ cyk;clear hi cyk;simp only[aj,ae,Tryz.f54];go_wp2_with (first|(go_at_call 34;refine(Mb.out _ (fR wc)).mono ?_;rintro e w1 ⟨rfl,hf⟩;have dI:Hid (aa ac wc w1):=((fR wc)).trans hf;obtain⟨x0,x1,x2,x3,x4,x5,x6,x7,x8,c0,c1,c2,c3,c4,c5⟩:=dH.out _ dI.out;clear hf)|fail);have cyk:=Ud.out w1 dI.out;refine au (aa ac w1) ((fR w1).drew) (by kernel_rfl) (by kernel_rfl) ?_
     repeat (go_big_quiet_step (fail))
     refine wpQuiet_nil ?_;rintro w5 ⟨⟨_,su⟩,rfl⟩;go_wp2;go_ret;exact⟨by rw[HR.out];rfl,HF.out.trans (dI.out.trans su)⟩
theorem OC(hS:aM wc G fo fe it se ts x)(hsm:aH x)(hx:ai wc bx 36 #[I J x.clock,U fo.1 x.fols.length fo.2,U fe.1 x.fees.length fe.2,U it.1 x.itms.length it.2,U se.1 x.seas.length se.2,I J x.tFol,I J x.tFee,I J x.tItm,I J x.tSea])(hc:ai wc bc 49 #[I J 8,I J a,I J b,I J n,V s,V t])(hF:aa ac w wc)(hs:s.size≤10000)(ht:t.size≤10000)(zP:fl=true↔(n=0∨n=1)):
  Code.wp pQ (aj 2 (ae Tryz.f54)) (bodyPost pQ Tryz.f54 λe w'=>e=.returned (I J (aF ah aC x ⟨8,a,b,n,s,t⟩))∧aa ac w w') ⟨#[u0,u1,O (some ⟨bx,0,none⟩),O (some ⟨bc,0,none⟩),I J 0,.bool fl,u6,u7,u8,u9,u10,u11,u12,u13,u14,u15,u16,eG,eH,eI,eJ,eK,eM,u23,u24,eO,u26,eW,u28,eX,eY,eZ,u32,u33,fh,fj,u36,fk,u38,fw,fx,fy,fG,fH,u44,u45,fJ,fK,gC,gD,gw,gy,gj,gl,gm,gp,fM,fO,fP,fQ,fU,fV,fW,fX,u64,fY,fZ,gc,gg,gF,gO,gP,gQ,gR,gS,gT,gU,gV,gW,gX,gY,gZ,g9,hZ,ie,ig,ii,ij,il,im,io,ip,iw,ix,iy,iz,iJ,iK,iM,iO,cJ,cK,cL,cM,cN,cO,cP,cQ,bH,bI,bJ,bK,bM,bN,bO,bP,bQ,bR,bS,bT,bU,bV,bW,bX,bY,bZ,cd,cg,cj,cn,cq,ct,cz,cA,cC,cD,cE,cF,u138,cG,cR,cS,cT,cU],[]⟩ wc:=by
 have mG:=h_ hx;have dw:=h_ hc;have HF:=h_ hF;obtain⟨R,hR⟩:∃R,aF ah aC x ⟨8,a,b,n,s,t⟩=R:=⟨_,rfl⟩;rw[hR];have bp:=h_ hR.symm;clear hR
 have dH:Hid (∀W,aa ac wc W→W.cell? ⟨bx,0,none⟩=some (I J x.clock)∧W.cell? ⟨bx,1,none⟩=some (U fo.1 x.fols.length fo.2)∧W.cell? ⟨bx,2,none⟩=some (U fe.1 x.fees.length fe.2)∧W.cell? ⟨bx,3,none⟩=some (U it.1 x.itms.length it.2)∧W.cell? ⟨bx,4,none⟩=some (U se.1 x.seas.length se.2)∧W.cell? ⟨bx,5,none⟩=some (I J x.tFol)∧W.cell? ⟨bx,6,none⟩=some (I J x.tFee)∧W.cell? ⟨bx,7,none⟩=some (I J x.tItm)∧W.cell? ⟨bx,8,none⟩=some (I J x.tSea)∧W.cell? ⟨bc,0,none⟩=some (I J 8)∧W.cell? ⟨bc,1,none⟩=some (I J a)∧W.cell? ⟨bc,2,none⟩=some (I J b)∧W.cell? ⟨bc,3,none⟩=some (I J n)∧W.cell? ⟨bc,4,none⟩=some (V s)∧W.cell? ⟨bc,5,none⟩=some (V t)):=λW hW=>by
  obtain⟨y0,y1,y2,y3,y4,y5,y6,y7,y8⟩:=ak (hx.frm hW id);obtain⟨d0,d1,d2,d3,d4,d5⟩:=bn (hc.frm hW id);exact⟨y0,y1,y2,y3,y4,y5,y6,y7,y8,d0,d1,d2,d3,d4,d5⟩
 obtain⟨x0,x1,x2,x3,x4,x5,x6,x7,x8⟩:=ak hx;obtain⟨c0,c1,c2,c3,c4,c5⟩:=bn hc;have Mb:Hid (∀W,aa ac wc W→Calls pQ 34 #[bE fo fe it se x,I J a] W λe w'=>e=.returned (I J (gA aJ.id a x.itms))∧aa ac W w'):=λW hW=>jr (hS.nix hW) hsm a
 have HE:Hid (R=if ¬(n=0∨n=1) then 1 else if aS aJ.id a x.itms=false then 4 else 0):=by unfold Hid;rw[bp.out];unfold aF;simp
 have Fm:=h_ zP;have HN:=h_ (λh=>tG (g:=aJ.id) (i:=a) (l:=x.itms) h);have HY:=h_ (λh=>tH (g:=aJ.id) (i:=a) (l:=x.itms) h);clear hS hsm hx hc hF hs ht zP;generalize gA aJ.id a x.itms=p at *
 cases fl with
 | false=>
   have HR:Hid (R=1):=by unfold Hid;rw[HE.out,if_pos (λh=>by have:=Fm.out.2 h;cases this)]
   simp only[aj,ae,Tryz.f54];go_wp2_with (first|fail);go_ret
   exact⟨by rw[HR.out];rfl,HF.out⟩
 | true=>
   have qz:Hid (R=if aS aJ.id a x.itms=false then 4 else 0):=by unfold Hid;rw[HE.out,if_neg (λh=>h (Fm.out.1 rfl))]
   cases hi:aS aJ.id a x.itms with
   | false=>
     have hp:=HN.out hi;have HR:Hid (R=4):=by unfold Hid;rw[qz.out,if_pos hi]
     clear hi;simp only[aj,ae,Tryz.f54];go_wp2_with (first|(go_at_call 34;refine(Mb.out _ (fR wc)).mono ?_;rintro e w1 ⟨rfl,hf⟩;have dI:Hid (aa ac wc w1):=((fR wc)).trans hf;obtain⟨x0,x1,x2,x3,x4,x5,x6,x7,x8,c0,c1,c2,c3,c4,c5⟩:=dH.out _ dI.out;clear hf)|fail);go_ret
     exact⟨by rw[HR.out];rfl,HF.out.trans dI.out⟩
   | true=>
     have hp:=HY.out hi;have HR:Hid (R=0):=by unfold Hid;rw[qz.out,if_neg (by simp[hi])]
     have cyk:∀w1,aa ac wc w1→∀y:FW (aa ac w1),y.w.cell? ⟨bc,0,none⟩=some (I J 8):=λw1 h1 y=>((dw.out.frm (h1.trans y.h) id).cell 0).trans rfl
     have Ud:=h_ cyk;clear hi cyk;simp only[aj,ae,Tryz.f54];go_wp2_with (first|(go_at_call 34;refine(Mb.out _ (fR wc)).mono ?_;rintro e w1 ⟨rfl,hf⟩;have dI:Hid (aa ac wc w1):=((fR wc)).trans hf;obtain⟨x0,x1,x2,x3,x4,x5,x6,x7,x8,c0,c1,c2,c3,c4,c5⟩:=dH.out _ dI.out;clear hf)|fail);have cyk:=Ud.out w1 dI.out;refine au (aa ac w1) ((fR w1).drew) (by kernel_rfl) (by kernel_rfl) ?_
     repeat (go_big_quiet_step (fail))
     refine wpQuiet_nil ?_;rintro w5 ⟨⟨_,su⟩,rfl⟩;go_wp2;go_ret;exact⟨by rw[HR.out];rfl,HF.out.trans (dI.out.trans su)⟩
theorem OD(hS:aM wc G fo fe it se ts x)(hsm:aH x)(hx:ai wc bx 36 #[I J x.clock,U fo.1 x.fols.length fo.2,U fe.1 x.fees.length fe.2,U it.1 x.itms.length it.2,U se.1 x.seas.length se.2,I J x.tFol,I J x.tFee,I J x.tItm,I J x.tSea])(hc:ai wc bc 49 #[I J 9,I J a,I J b,I J n,V s,V t])(hF:aa ac w wc)(hs:s.size≤10000)(ht:t.size≤10000)(zP:fl=true↔(n=0∨n=1)):
  Code.wp pQ (aj 2 (ae Tryz.f54)) (bodyPost pQ Tryz.f54 λe w'=>e=.returned (I J (aF ah aC x ⟨9,a,b,n,s,t⟩))∧aa ac w w') ⟨#[u0,u1,O (some ⟨bx,0,none⟩),O (some ⟨bc,0,none⟩),I J 0,.bool fl,u6,u7,u8,u9,u10,u11,u12,u13,u14,u15,u16,eG,eH,eI,eJ,eK,eM,u23,u24,eO,u26,eW,u28,eX,eY,eZ,u32,u33,fh,fj,u36,fk,u38,fw,fx,fy,fG,fH,u44,u45,fJ,fK,gC,gD,gw,gy,gj,gl,gm,gp,fM,fO,fP,fQ,fU,fV,fW,fX,u64,fY,fZ,gc,gg,gF,gO,gP,gQ,gR,gS,gT,gU,gV,gW,gX,gY,gZ,g9,hZ,ie,ig,ii,ij,il,im,io,ip,iw,ix,iy,iz,iJ,iK,iM,iO,cJ,cK,cL,cM,cN,cO,cP,cQ,bH,bI,bJ,bK,bM,bN,bO,bP,bQ,bR,bS,bT,bU,bV,bW,bX,bY,bZ,cd,cg,cj,cn,cq,ct,cz,cA,cC,cD,cE,cF,u138,cG,cR,cS,cT,cU],[]⟩ wc:=by
 have mG:=h_ hx;have dw:=h_ hc;have HF:=h_ hF;obtain⟨R,hR⟩:∃R,aF ah aC x ⟨9,a,b,n,s,t⟩=R:=⟨_,rfl⟩;rw[hR];have bp:=h_ hR.symm;clear hR
 have dH:Hid (∀W,aa ac wc W→W.cell? ⟨bx,0,none⟩=some (I J x.clock)∧W.cell? ⟨bx,1,none⟩=some (U fo.1 x.fols.length fo.2)∧W.cell? ⟨bx,2,none⟩=some (U fe.1 x.fees.length fe.2)∧W.cell? ⟨bx,3,none⟩=some (U it.1 x.itms.length it.2)∧W.cell? ⟨bx,4,none⟩=some (U se.1 x.seas.length se.2)∧W.cell? ⟨bx,5,none⟩=some (I J x.tFol)∧W.cell? ⟨bx,6,none⟩=some (I J x.tFee)∧W.cell? ⟨bx,7,none⟩=some (I J x.tItm)∧W.cell? ⟨bx,8,none⟩=some (I J x.tSea)∧W.cell? ⟨bc,0,none⟩=some (I J 9)∧W.cell? ⟨bc,1,none⟩=some (I J a)∧W.cell? ⟨bc,2,none⟩=some (I J b)∧W.cell? ⟨bc,3,none⟩=some (I J n)∧W.cell? ⟨bc,4,none⟩=some (V s)∧W.cell? ⟨bc,5,none⟩=some (V t)):=λW hW=>by
  obtain⟨y0,y1,y2,y3,y4,y5,y6,y7,y8⟩:=ak (hx.frm hW id);obtain⟨d0,d1,d2,d3,d4,d5⟩:=bn (hc.frm hW id);exact⟨y0,y1,y2,y3,y4,y5,y6,y7,y8,d0,d1,d2,d3,d4,d5⟩
 obtain⟨x0,x1,x2,x3,x4,x5,x6,x7,x8⟩:=ak hx;obtain⟨c0,c1,c2,c3,c4,c5⟩:=bn hc;have Mb:Hid (∀W,aa ac wc W→Calls pQ 34 #[bE fo fe it se x,I J a] W λe w'=>e=.returned (I J (gA aJ.id a x.itms))∧aa ac W w'):=λW hW=>jr (hS.nix hW) hsm a
 have MI:Hid (∀W,aa ac wc W→Calls pQ 106 #[V s] W λe w'=>e=.returned (V (aC s))∧aa ac W w'):=λW hW=>wZ s (by omega) W
 have pp:Hid (∀W,aa ac wc W→Calls pQ 30 #[bE fo fe it se x,.agg #[I J 10,I J a,I J 0,I J n,V (aC s),V ⟨#[]⟩,V ⟨#[]⟩]] W λe w'=>e=.returned (.bool (av x ⟨10,a,0,n,aC s,eS,eS⟩))∧aa ac W w'):=λW hW=>gJ (hS.nix hW) hsm ⟨10,a,0,n,aC s,eS,eS⟩
 have HE:Hid (R=if ¬(n=0∨n=1)∨aC s=eS then 1 else if aS aJ.id a x.itms=false then 4 else if av x ⟨10,a,0,n,aC s,eS,eS⟩=false then 2 else 0):=by unfold Hid;rw[bp.out];unfold aF;simp
 have Fm:=h_ zP;have HN:=h_ (λh=>tG (g:=aJ.id) (i:=a) (l:=x.itms) h);have HY:=h_ (λh=>tH (g:=aJ.id) (i:=a) (l:=x.itms) h);clear hS hsm hx hc hF hs ht zP;generalize gA aJ.id a x.itms=p at *;generalize av x ⟨10,a,0,n,aC s,eS,eS⟩=ft at *;generalize aC s=st at *
 cases fl with
 | false=>
   have HR:Hid (R=1):=by unfold Hid;rw[HE.out,if_pos (.inl (λh=>by have:=Fm.out.2 h;cases this))]
   simp only[aj,ae,Tryz.f54];go_wp2_with (first|fail);go_ret
   exact⟨by rw[HR.out];rfl,HF.out⟩
 | true=>
 by_cases hq:st=eS
 ·have HR:Hid (R=1):=by unfold Hid;rw[HE.out,if_pos (.inr hq)]
  have JM:st.toList=[]:=cX.2 hq;have JN:st.toList.isEmpty=true:=by rw[JM];rfl
  clear hq;simp only[aj,ae,Tryz.f54];go_wp2_with (first|(go_at_call 106;refine(MI.out _ (fR wc)).mono ?_;rintro e w1 ⟨rfl,hf⟩;have dI:Hid (aa ac wc w1):=((fR wc)).trans hf;obtain⟨x0,x1,x2,x3,x4,x5,x6,x7,x8,c0,c1,c2,c3,c4,c5⟩:=dH.out _ dI.out;clear hf)|fail);go_ret;exact⟨by rw[HR.out];rfl,HF.out.trans dI.out⟩
 ·have qz:Hid (R=if aS aJ.id a x.itms=false then 4 else if ft=false then 2 else 0):=by unfold Hid;rw[HE.out,if_neg (λh=>by rcases h with h|h;exact h (Fm.out.1 rfl);exact hq h)]
  have JM:¬st.toList=[]:=λe=>hq (cX.1 e)
  have JN:st.toList.isEmpty=false:=by cases hh:st.toList.isEmpty with|false=>rfl|true=>exact absurd (List.isEmpty_iff.1 hh) JM
  clear hq
  cases hi:aS aJ.id a x.itms with
  | false=>
    have hp:=HN.out hi;have HR:Hid (R=4):=by unfold Hid;rw[qz.out,if_pos hi]
    clear hi;simp only[aj,ae,Tryz.f54];go_wp2_with (first|(go_at_call 106;refine(MI.out _ (fR wc)).mono ?_;rintro e w1 ⟨rfl,hf⟩;have dI:Hid (aa ac wc w1):=((fR wc)).trans hf;obtain⟨x0,x1,x2,x3,x4,x5,x6,x7,x8,c0,c1,c2,c3,c4,c5⟩:=dH.out _ dI.out;clear hf)|(go_at_call 34;refine(Mb.out _ dI.out).mono ?_;rintro e w2 ⟨rfl,hf⟩;have pW:Hid (aa ac wc w2):=(dI.out).trans hf;obtain⟨x0,x1,x2,x3,x4,x5,x6,x7,x8,c0,c1,c2,c3,c4,c5⟩:=dH.out _ pW.out;clear hf)|fail);go_ret
    exact⟨by rw[HR.out];rfl,HF.out.trans pW.out⟩
  | true=>
    have hp:=HY.out hi
    cases ft with
    | false=>
      have HR:Hid (R=2):=by unfold Hid;rw[qz.out,if_neg (by simp[hi])];simp
      clear hi;simp only[aj,ae,Tryz.f54];go_wp2_with (first|(go_at_call 106;refine(MI.out _ (fR wc)).mono ?_;rintro e w1 ⟨rfl,hf⟩;have dI:Hid (aa ac wc w1):=((fR wc)).trans hf;obtain⟨x0,x1,x2,x3,x4,x5,x6,x7,x8,c0,c1,c2,c3,c4,c5⟩:=dH.out _ dI.out;clear hf)|(go_at_call 34;refine(Mb.out _ dI.out).mono ?_;rintro e w2 ⟨rfl,hf⟩;have pW:Hid (aa ac wc w2):=(dI.out).trans hf;obtain⟨x0,x1,x2,x3,x4,x5,x6,x7,x8,c0,c1,c2,c3,c4,c5⟩:=dH.out _ pW.out;clear hf)|fail)
      go_region_held3 (λW=>W.cell? ⟨bx,0,none⟩=some (I J x.clock)∧W.cell? ⟨bx,1,none⟩=some (U fo.1 x.fols.length fo.2)∧W.cell? ⟨bx,2,none⟩=some (U fe.1 x.fees.length fe.2)∧W.cell? ⟨bx,3,none⟩=some (U it.1 x.itms.length it.2)∧W.cell? ⟨bx,4,none⟩=some (U se.1 x.seas.length se.2)∧W.cell? ⟨bx,5,none⟩=some (I J x.tFol)∧W.cell? ⟨bx,6,none⟩=some (I J x.tFee)∧W.cell? ⟨bx,7,none⟩=some (I J x.tItm)∧W.cell? ⟨bx,8,none⟩=some (I J x.tSea)∧W.cell? ⟨bc,0,none⟩=some (I J 9)∧W.cell? ⟨bc,1,none⟩=some (I J a)∧W.cell? ⟨bc,2,none⟩=some (I J b)∧W.cell? ⟨bc,3,none⟩=some (I J n)∧W.cell? ⟨bc,4,none⟩=some (V s)∧W.cell? ⟨bc,5,none⟩=some (V t)) ((refine dH.out _ ?_;first|exact pW.out.drew|exact OE.out|exact QO.out))
       (first|(go_at_call 106;refine(MI.out _ pW.out.drew).mono ?_;rintro e w3 ⟨rfl,hf⟩;have OE:Hid (aa ac wc w3):=(pW.out.drew).trans hf;clear hf)|(go_at_call 30;refine(pp.out _ OE.out).mono ?_;rintro e w4 ⟨rfl,hf⟩;have QO:Hid (aa ac wc w4):=(OE.out).trans hf;clear hf))
      all_goals
       go_wp2;go_ret
       exact⟨by rw[HR.out];rfl,HF.out.trans QO.out⟩
    | true=>
      have HR:Hid (R=0):=by unfold Hid;rw[qz.out,if_neg (by simp[hi])];simp
      clear hi;simp only[aj,ae,Tryz.f54];go_wp2_with (first|(go_at_call 106;refine(MI.out _ (fR wc)).mono ?_;rintro e w1 ⟨rfl,hf⟩;have dI:Hid (aa ac wc w1):=((fR wc)).trans hf;obtain⟨x0,x1,x2,x3,x4,x5,x6,x7,x8,c0,c1,c2,c3,c4,c5⟩:=dH.out _ dI.out;clear hf)|(go_at_call 34;refine(Mb.out _ dI.out).mono ?_;rintro e w2 ⟨rfl,hf⟩;have pW:Hid (aa ac wc w2):=(dI.out).trans hf;obtain⟨x0,x1,x2,x3,x4,x5,x6,x7,x8,c0,c1,c2,c3,c4,c5⟩:=dH.out _ pW.out;clear hf)|fail)
      go_region_held3 (λW=>W.cell? ⟨bx,0,none⟩=some (I J x.clock)∧W.cell? ⟨bx,1,none⟩=some (U fo.1 x.fols.length fo.2)∧W.cell? ⟨bx,2,none⟩=some (U fe.1 x.fees.length fe.2)∧W.cell? ⟨bx,3,none⟩=some (U it.1 x.itms.length it.2)∧W.cell? ⟨bx,4,none⟩=some (U se.1 x.seas.length se.2)∧W.cell? ⟨bx,5,none⟩=some (I J x.tFol)∧W.cell? ⟨bx,6,none⟩=some (I J x.tFee)∧W.cell? ⟨bx,7,none⟩=some (I J x.tItm)∧W.cell? ⟨bx,8,none⟩=some (I J x.tSea)∧W.cell? ⟨bc,0,none⟩=some (I J 9)∧W.cell? ⟨bc,1,none⟩=some (I J a)∧W.cell? ⟨bc,2,none⟩=some (I J b)∧W.cell? ⟨bc,3,none⟩=some (I J n)∧W.cell? ⟨bc,4,none⟩=some (V s)∧W.cell? ⟨bc,5,none⟩=some (V t)) ((refine dH.out _ ?_;first|exact pW.out.drew|exact OE.out|exact QO.out))
       (first|(go_at_call 106;refine(MI.out _ pW.out.drew).mono ?_;rintro e w3 ⟨rfl,hf⟩;have OE:Hid (aa ac wc w3):=(pW.out.drew).trans hf;clear hf)|(go_at_call 30;refine(pp.out _ OE.out).mono ?_;rintro e w4 ⟨rfl,hf⟩;have QO:Hid (aa ac wc w4):=(OE.out).trans hf;clear hf))
      all_goals
       go_wp2;go_ret;exact⟨by rw[HR.out];rfl,HF.out.trans QO.out⟩
theorem Mc(hS:aM wc G fo fe it se ts x)(hsm:aH x)(hx:ai wc bx 36 #[I J x.clock,U fo.1 x.fols.length fo.2,U fe.1 x.fees.length fe.2,U it.1 x.itms.length it.2,U se.1 x.seas.length se.2,I J x.tFol,I J x.tFee,I J x.tItm,I J x.tSea])(hc:ai wc bc 49 #[I J 14,I J a,I J b,I J n,V s,V t])(hF:aa ac w wc)(hs:s.size≤10000)(ht:t.size≤10000):
  Code.wp pQ (aj 2 (ae Tryz.f54)) (bodyPost pQ Tryz.f54 λe w'=>e=.returned (I J (aF ah aC x ⟨14,a,b,n,s,t⟩))∧aa ac w w') ⟨#[u0,u1,O (some ⟨bx,0,none⟩),O (some ⟨bc,0,none⟩),I J 0,.bool fl,u6,u7,u8,u9,u10,u11,u12,u13,u14,u15,u16,eG,eH,eI,eJ,eK,eM,u23,u24,eO,u26,eW,u28,eX,eY,eZ,u32,u33,fh,fj,u36,fk,u38,fw,fx,fy,fG,fH,u44,u45,fJ,fK,gC,gD,gw,gy,gj,gl,gm,gp,fM,fO,fP,fQ,fU,fV,fW,fX,u64,fY,fZ,gc,gg,gF,gO,gP,gQ,gR,gS,gT,gU,gV,gW,gX,gY,gZ,g9,hZ,ie,ig,ii,ij,il,im,io,ip,iw,ix,iy,iz,iJ,iK,iM,iO,cJ,cK,cL,cM,cN,cO,cP,cQ,bH,bI,bJ,bK,bM,bN,bO,bP,bQ,bR,bS,bT,bU,bV,bW,bX,bY,bZ,cd,cg,cj,cn,cq,ct,cz,cA,cC,cD,cE,cF,u138,cG,cR,cS,cT,cU],[]⟩ wc:=by
 have mG:=h_ hx;have dw:=h_ hc;have HF:=h_ hF;obtain⟨R,hR⟩:∃R,aF ah aC x ⟨14,a,b,n,s,t⟩=R:=⟨_,rfl⟩;rw[hR];have bp:=h_ hR.symm;clear hR
 have dH:Hid (∀W,aa ac wc W→W.cell? ⟨bx,0,none⟩=some (I J x.clock)∧W.cell? ⟨bx,1,none⟩=some (U fo.1 x.fols.length fo.2)∧W.cell? ⟨bx,2,none⟩=some (U fe.1 x.fees.length fe.2)∧W.cell? ⟨bx,3,none⟩=some (U it.1 x.itms.length it.2)∧W.cell? ⟨bx,4,none⟩=some (U se.1 x.seas.length se.2)∧W.cell? ⟨bx,5,none⟩=some (I J x.tFol)∧W.cell? ⟨bx,6,none⟩=some (I J x.tFee)∧W.cell? ⟨bx,7,none⟩=some (I J x.tItm)∧W.cell? ⟨bx,8,none⟩=some (I J x.tSea)∧W.cell? ⟨bc,0,none⟩=some (I J 14)∧W.cell? ⟨bc,1,none⟩=some (I J a)∧W.cell? ⟨bc,2,none⟩=some (I J b)∧W.cell? ⟨bc,3,none⟩=some (I J n)∧W.cell? ⟨bc,4,none⟩=some (V s)∧W.cell? ⟨bc,5,none⟩=some (V t)):=λW hW=>by
  obtain⟨y0,y1,y2,y3,y4,y5,y6,y7,y8⟩:=ak (hx.frm hW id);obtain⟨d0,d1,d2,d3,d4,d5⟩:=bn (hc.frm hW id);exact⟨y0,y1,y2,y3,y4,y5,y6,y7,y8,d0,d1,d2,d3,d4,d5⟩
 obtain⟨x0,x1,x2,x3,x4,x5,x6,x7,x8⟩:=ak hx;obtain⟨c0,c1,c2,c3,c4,c5⟩:=bn hc;have Ue:Hid (∀W,aa ac wc W→Calls pQ 107 #[I J n] W λe w'=>e=.returned (.bool (dR n))∧aa ac W w'):=λW hW=>sP n W
 have HE:Hid (R=if dR n=false∨n<x.clock then 1 else 0):=by unfold Hid;rw[bp.out];unfold aF;simp
 clear hS hsm hx hc hF hs ht;generalize dR n=mo at *
 cases mo with
 | false=>
   have HR:Hid (R=1):=by unfold Hid;rw[HE.out,if_pos (.inl rfl)]
   simp only[aj,ae,Tryz.f54];go_wp2_with (first|(go_at_call 107;refine(Ue.out _ (fR wc)).mono ?_;rintro e w1 ⟨rfl,hf⟩;have dI:Hid (aa ac wc w1):=((fR wc)).trans hf;obtain⟨x0,x1,x2,x3,x4,x5,x6,x7,x8,c0,c1,c2,c3,c4,c5⟩:=dH.out _ dI.out;clear hf)|fail);go_ret
   exact⟨by rw[HR.out];rfl,HF.out.trans dI.out⟩
 | true=>
   by_cases hl:n<x.clock
   ·have HR:Hid (R=1):=by unfold Hid;rw[HE.out,if_pos (.inr hl)]
    have hd:decide (n<x.clock)=true:=decide_eq_true hl;simp only[aj,ae,Tryz.f54];go_wp2_with (first|(go_at_call 107;refine(Ue.out _ (fR wc)).mono ?_;rintro e w1 ⟨rfl,hf⟩;have dI:Hid (aa ac wc w1):=((fR wc)).trans hf;obtain⟨x0,x1,x2,x3,x4,x5,x6,x7,x8,c0,c1,c2,c3,c4,c5⟩:=dH.out _ dI.out;clear hf)|fail);go_ret;exact⟨by rw[HR.out];rfl,HF.out.trans dI.out⟩
   ·have HR:Hid (R=0):=by unfold Hid;rw[HE.out,if_neg (λh=>by rcases h with h|h;cases h;exact hl h)]
    have hd:decide (n<x.clock)=false:=decide_eq_false hl;simp only[aj,ae,Tryz.f54];go_wp2_with (first|(go_at_call 107;refine(Ue.out _ (fR wc)).mono ?_;rintro e w1 ⟨rfl,hf⟩;have dI:Hid (aa ac wc w1):=((fR wc)).trans hf;obtain⟨x0,x1,x2,x3,x4,x5,x6,x7,x8,c0,c1,c2,c3,c4,c5⟩:=dH.out _ dI.out;clear hf)|fail);go_ret;exact⟨by rw[HR.out];rfl,HF.out.trans dI.out⟩
theorem OG(hS:aM wc G fo fe it se ts x)(hsm:aH x)(hx:ai wc bx 36 #[I J x.clock,U fo.1 x.fols.length fo.2,U fe.1 x.fees.length fe.2,U it.1 x.itms.length it.2,U se.1 x.seas.length se.2,I J x.tFol,I J x.tFee,I J x.tItm,I J x.tSea])(hc:ai wc bc 49 #[I J k,I J a,I J b,I J n,V s,V t])(hF:aa ac w wc)(hs:s.size≤10000)(ht:t.size≤10000)(hk:k≠1∧k≠2∧k≠3∧k≠4∧k≠5∧k≠6∧k≠7∧k≠8∧k≠9∧k≠10∧k≠11∧k≠12∧k≠13∧k≠14):
  Code.wp pQ (aj 2 (ae Tryz.f54)) (bodyPost pQ Tryz.f54 λe w'=>e=.returned (I J (aF ah aC x ⟨k,a,b,n,s,t⟩))∧aa ac w w') ⟨#[u0,u1,O (some ⟨bx,0,none⟩),O (some ⟨bc,0,none⟩),I J 0,.bool fl,u6,u7,u8,u9,u10,u11,u12,u13,u14,u15,u16,eG,eH,eI,eJ,eK,eM,u23,u24,eO,u26,eW,u28,eX,eY,eZ,u32,u33,fh,fj,u36,fk,u38,fw,fx,fy,fG,fH,u44,u45,fJ,fK,gC,gD,gw,gy,gj,gl,gm,gp,fM,fO,fP,fQ,fU,fV,fW,fX,u64,fY,fZ,gc,gg,gF,gO,gP,gQ,gR,gS,gT,gU,gV,gW,gX,gY,gZ,g9,hZ,ie,ig,ii,ij,il,im,io,ip,iw,ix,iy,iz,iJ,iK,iM,iO,cJ,cK,cL,cM,cN,cO,cP,cQ,bH,bI,bJ,bK,bM,bN,bO,bP,bQ,bR,bS,bT,bU,bV,bW,bX,bY,bZ,cd,cg,cj,cn,cq,ct,cz,cA,cC,cD,cE,cF,u138,cG,cR,cS,cT,cU],[]⟩ wc:=by
 have mG:=h_ hx;have dw:=h_ hc;have HF:=h_ hF;obtain⟨R,hR⟩:∃R,aF ah aC x ⟨k,a,b,n,s,t⟩=R:=⟨_,rfl⟩;rw[hR];have bp:=h_ hR.symm;clear hR
 have dH:Hid (∀W,aa ac wc W→W.cell? ⟨bx,0,none⟩=some (I J x.clock)∧W.cell? ⟨bx,1,none⟩=some (U fo.1 x.fols.length fo.2)∧W.cell? ⟨bx,2,none⟩=some (U fe.1 x.fees.length fe.2)∧W.cell? ⟨bx,3,none⟩=some (U it.1 x.itms.length it.2)∧W.cell? ⟨bx,4,none⟩=some (U se.1 x.seas.length se.2)∧W.cell? ⟨bx,5,none⟩=some (I J x.tFol)∧W.cell? ⟨bx,6,none⟩=some (I J x.tFee)∧W.cell? ⟨bx,7,none⟩=some (I J x.tItm)∧W.cell? ⟨bx,8,none⟩=some (I J x.tSea)∧W.cell? ⟨bc,0,none⟩=some (I J k)∧W.cell? ⟨bc,1,none⟩=some (I J a)∧W.cell? ⟨bc,2,none⟩=some (I J b)∧W.cell? ⟨bc,3,none⟩=some (I J n)∧W.cell? ⟨bc,4,none⟩=some (V s)∧W.cell? ⟨bc,5,none⟩=some (V t)):=λW hW=>by
  obtain⟨y0,y1,y2,y3,y4,y5,y6,y7,y8⟩:=ak (hx.frm hW id);obtain⟨d0,d1,d2,d3,d4,d5⟩:=bn (hc.frm hW id);exact⟨y0,y1,y2,y3,y4,y5,y6,y7,y8,d0,d1,d2,d3,d4,d5⟩
 obtain⟨x0,x1,x2,x3,x4,x5,x6,x7,x8⟩:=ak hx;obtain⟨c0,c1,c2,c3,c4,c5⟩:=bn hc;obtain⟨h1,h2,h3,h4,h5,h6,h7,h8,h9,h10,h11,MJ,MK,CA⟩:=hk;have k1:(k==1)=false:=beq_eq_false_iff_ne.2 h1;have k2:(k==2)=false:=beq_eq_false_iff_ne.2 h2;have k3:(k==3)=false:=beq_eq_false_iff_ne.2 h3;have k4:(k==4)=false:=beq_eq_false_iff_ne.2 h4;have k5:(k==5)=false:=beq_eq_false_iff_ne.2 h5;have k6:(k==6)=false:=beq_eq_false_iff_ne.2 h6;have k7:(k==7)=false:=beq_eq_false_iff_ne.2 h7;have k8:(k==8)=false:=beq_eq_false_iff_ne.2 h8;have k9:(k==9)=false:=beq_eq_false_iff_ne.2 h9;have NS:(k==10)=false:=beq_eq_false_iff_ne.2 h10;have Tt:(k==11)=false:=beq_eq_false_iff_ne.2 h11;have Ts:(k==12)=false:=beq_eq_false_iff_ne.2 MJ;have Tu:(k==13)=false:=beq_eq_false_iff_ne.2 MK;have Tv:(k==14)=false:=beq_eq_false_iff_ne.2 CA;have HR:Hid (R=1):=by unfold Hid;rw[bp.out];unfold aF;simp[h1,h2,h3,h4,h5,h6,h7,h8,h9,h10,h11,MJ,MK,CA]
 clear hS hsm hx hc hF hs ht h1 h2 h3 h4 h5 h6 h7 h8 h9 h10 h11 MJ MK CA;simp only[aj,ae,Tryz.f54];go_wp2_with (first|fail);go_ret;exact⟨by rw[HR.out];rfl,HF.out⟩
def zO(fl:Bool)(n:Int):Prop:=fl=true↔(n=0∨n=1)
theorem xa(hS:aM wc G fo fe it se ts x)(hsm:aH x)(hx:ai wc bx 36 #[I J x.clock,U fo.1 x.fols.length fo.2,U fe.1 x.fees.length fe.2,U it.1 x.itms.length it.2,U se.1 x.seas.length se.2,I J x.tFol,I J x.tFee,I J x.tItm,I J x.tSea])(hc:ai wc bc 49 #[I J k,I J a,I J b,I J n,V s,V t])(hF:aa ac w wc)(hs:s.size≤10000)(ht:t.size≤10000)(Uf:zO fl n):
  Code.wp pQ (aj 2 (ae Tryz.f54)) (bodyPost pQ Tryz.f54 λe w'=>e=.returned (I J (aF ah aC x ⟨k,a,b,n,s,t⟩))∧aa ac w w') ⟨#[u0,u1,O (some ⟨bx,0,none⟩),O (some ⟨bc,0,none⟩),I J 0,.bool fl,u6,u7,u8,u9,u10,u11,u12,u13,u14,u15,u16,eG,eH,eI,eJ,eK,eM,u23,u24,eO,u26,eW,u28,eX,eY,eZ,u32,u33,fh,fj,u36,fk,u38,fw,fx,fy,fG,fH,u44,u45,fJ,fK,gC,gD,gw,gy,gj,gl,gm,gp,fM,fO,fP,fQ,fU,fV,fW,fX,u64,fY,fZ,gc,gg,gF,gO,gP,gQ,gR,gS,gT,gU,gV,gW,gX,gY,gZ,g9,hZ,ie,ig,ii,ij,il,im,io,ip,iw,ix,iy,iz,iJ,iK,iM,iO,cJ,cK,cL,cM,cN,cO,cP,cQ,bH,bI,bJ,bK,bM,bN,bO,bP,bQ,bR,bS,bT,bU,bV,bW,bX,bY,bZ,cd,cg,cj,cn,cq,ct,cz,cA,cC,cD,cE,cF,u138,cG,cR,cS,cT,cU],[]⟩ wc:=by
 have zP:fl=true↔(n=0∨n=1):=Uf
 by_cases h1:k=1
 ·subst h1
  exact Ou hS hsm hx hc hF hs ht
 by_cases h2:k=2
 ·subst h2
  exact Ow hS hsm hx hc hF hs ht
 by_cases h3:k=3
 ·subst h3
  exact Ov hS hsm hx hc hF hs ht
 by_cases h4:k=4
 ·subst h4
  exact Oy hS hsm hx hc hF hs ht
 by_cases h5:k=5
 ·subst h5
  exact Oz hS hsm hx hc hF hs ht
 by_cases h6:k=6
 ·subst h6
  exact OA hS hsm hx hc hF hs ht
 by_cases h7:k=7
 ·subst h7
  exact OB hS hsm hx hc hF hs ht zP
 by_cases h8:k=8
 ·subst h8
  exact OC hS hsm hx hc hF hs ht zP
 by_cases h9:k=9
 ·subst h9
  exact OD hS hsm hx hc hF hs ht zP
 by_cases h10:k=10
 ·subst h10
  exact L8 hS hsm hx hc hF hs ht
 by_cases h11:k=11
 ·subst h11
  exact Ma hS hsm hx hc hF hs ht
 by_cases MJ:k=12
 ·subst MJ
  exact L6 hS hsm hx hc hF hs ht
 by_cases MK:k=13
 ·subst MK
  exact L9 hS hsm hx hc hF hs ht
 by_cases CA:k=14
 ·subst CA
  exact Mc hS hsm hx hc hF hs ht
 exact OG hS hsm hx hc hF hs ht ⟨h1,h2,h3,h4,h5,h6,h7,h8,h9,h10,h11,MJ,MK,CA⟩
theorem xc(hS:aM w G fo fe it se ts x)(hsm:aH x)(k a b n:Int)(s t:ByteArray)(hs:s.size≤10000)(ht:t.size≤10000):
  Calls pQ 54 #[bE fo fe it se x,.agg #[I J k,I J a,I J b,I J n,V s,V t]] w λe w'=>e=.returned (I J (aF ah aC x ⟨k,a,b,n,s,t⟩))∧aa ac w w':=by
 obtain⟨W0,hW0⟩:∃W0,W0=(w.alloc (.cells #[I J x.clock,U fo.1 x.fols.length fo.2,U fe.1 x.fees.length fe.2,U it.1 x.itms.length it.2,U se.1 x.seas.length se.2,I J x.tFol,I J x.tFee,I J x.tItm,I J x.tSea] 36)).alloc (.cells #[I J k,I J a,I J b,I J n,V s,V t] 49):=⟨_,rfl⟩;have dM:Hid (aa ac w W0):=by unfold Hid;rw[hW0];exact((fR w).alloc _).alloc _
 have mG:Hid (ai W0 w.heap.size 36 #[I J x.clock,U fo.1 x.fols.length fo.2,U fe.1 x.fees.length fe.2,U it.1 x.itms.length it.2,U se.1 x.seas.length se.2,I J x.tFol,I J x.tFee,I J x.tItm,I J x.tSea]):=by unfold Hid;rw[hW0];exact(ai.new w _ _).alloc _
 have dw:Hid (ai W0 (w.heap.size+1) 49 #[I J k,I J a,I J b,I J n,V s,V t]):=by
  unfold Hid;rw[hW0];have q1:=ai.new (w.alloc (.cells #[I J x.clock,U fo.1 x.fols.length fo.2,U fe.1 x.fees.length fe.2,U it.1 x.itms.length it.2,U se.1 x.seas.length se.2,I J x.tFol,I J x.tFee,I J x.tItm,I J x.tSea] 36)) 49 #[I J k,I J a,I J b,I J n,V s,V t];rw[show (w.alloc (.cells #[I J x.clock,U fo.1 x.fols.length fo.2,U fe.1 x.fees.length fe.2,U it.1 x.itms.length it.2,U se.1 x.seas.length se.2,I J x.tFol,I J x.tFee,I J x.tItm,I J x.tSea] 36)).heap.size=w.heap.size+1 by simp] at q1;exact q1
 have HS:=h_ (hS.nix dM.out);have nP:=h_ hsm;have Jl:=h_ (And.intro hs ht);have HW:=h_ hW0;have c3:W0.cell? ⟨w.heap.size+1,3,none⟩=some (I J n):=(dw.out.cell 3).trans rfl;clear hS hsm hs ht hW0;unfold bE
 by_cases n0:n=0
 ·have e0:(n==0)=true:=beq_iff_eq.2 n0
  have Fm:Hid (zO true n):=⟨λ_=>.inl n0,λ_=>rfl⟩;clear n0;go_enter Tryz.func54,Tryz.ntmps54;show Code.wp pQ (aj 0 (ae Tryz.f54)) _ _ _
  refine aG (k':=1) λK hK=>?_
  conv in bz _=>whnf
  go_wp2;rw[←HW.out];refine aG (k':=2) λK hK=>?_
  conv in bz _=>whnf
  go_wp2;exact xa (fl:=true) HS.out nP.out mG.out dw.out dM.out Jl.out.1 Jl.out.2 Fm.out
 ·have e0:(n==0)=false:=beq_eq_false_iff_ne.2 n0
  by_cases n1:n=1
  ·have e1:(n==1)=true:=beq_iff_eq.2 n1
   have Fm:Hid (zO true n):=⟨λ_=>.inr n1,λ_=>rfl⟩;clear n0 n1;go_enter Tryz.func54,Tryz.ntmps54;show Code.wp pQ (aj 0 (ae Tryz.f54)) _ _ _
   have q1:aj 0 (ae Tryz.f54)=.seq (bz (aj 0 (ae Tryz.f54))) (aj 1 (ae Tryz.f54)):=by kernel_rfl
   rw[q1];clear q1;refine wp_seq_k λK hK=>?_
   conv in bz _=>whnf
   go_wp2;rw[←HW.out];have q1:aj 1 (ae Tryz.f54)=.seq (bz (aj 1 (ae Tryz.f54))) (aj 2 (ae Tryz.f54)):=by kernel_rfl
   rw[q1];clear q1;refine wp_seq_k λK hK=>?_
   conv in bz _=>whnf
   go_wp2;exact xa (fl:=true) HS.out nP.out mG.out dw.out dM.out Jl.out.1 Jl.out.2 Fm.out
  ·have e1:(n==1)=false:=beq_eq_false_iff_ne.2 n1
   have Fm:Hid (zO false n):=⟨(λh=>by cases h),(λh=>absurd h (λh=>h.elim n0 n1))⟩;clear n0 n1;go_enter Tryz.func54,Tryz.ntmps54;show Code.wp pQ (aj 0 (ae Tryz.f54)) _ _ _
   have q1:aj 0 (ae Tryz.f54)=.seq (bz (aj 0 (ae Tryz.f54))) (aj 1 (ae Tryz.f54)):=by kernel_rfl
   rw[q1];clear q1;refine wp_seq_k λK hK=>?_
   conv in bz _=>whnf
   go_wp2;rw[←HW.out];have q1:aj 1 (ae Tryz.f54)=.seq (bz (aj 1 (ae Tryz.f54))) (aj 2 (ae Tryz.f54)):=by kernel_rfl
   rw[q1];clear q1;refine wp_seq_k λK hK=>?_
   conv in bz _=>whnf
   go_wp2;exact xa (fl:=false) HS.out nP.out mG.out dw.out dM.out Jl.out.1 Jl.out.2 Fm.out
end Go.Proofs.YtaecjmiobllhmaaGreat
