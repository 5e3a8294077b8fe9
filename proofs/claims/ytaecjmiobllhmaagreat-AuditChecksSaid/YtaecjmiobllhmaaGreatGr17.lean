/- Words. -/
import Derived.Test.YtaecjmiobllhmaaGreatGr16
set_option linter.unusedVariables false
set_option linter.unusedSimpArgs false
set_option maxRecDepth 100000
set_option maxHeartbeats 16000000
namespace Go.Proofs.YtaecjmiobllhmaaGreat
open Go.Value renaming int→I,string→V,pointer→O
open Go.IntKind renaming i64→J
open Tryz renaming prog→pQ
open Go.RowKit Go.Lib
variable {w wc:World}{g be:Nat}{M:Ms}{x:St}{u5 u7 u9 u11 u13 u14 u15 u16 cG cH cI cR cS cT u23 u24 cN u26 dc u28 dm dp dr u32 u33 df dg u36 dt u38 dB dC dO dP dQ u44 u45 dI dJ dK dL dD dE dF dR dS dT dM dG dH dw dx dy dz dA u64 dh di dl cU cX fA fB fF fG fw iO iP iQ jN jO jP jQ jR jS jT jU jJ jK jV jW jX jY kZ k9 lc nd nT nU nV nW fH fJ fK fM fO fP fQ fU ej eo ep ew ey eA eB eC eD eF eG eH eI eJ eK eM eO eP eQ eU eV eW eX eY eZ fh fj fk fl fp u138 fq fV fW fX fY fZ gb gc gg gh gS gT gU gV gW gX gY gZ g9 hZ ie ig ii jZ j9 iW iX iY iZ i7 ja jb jc jd je jf jg jh ji jk jl jm jn jo jp jq jr js jt ju jw jz jA jB u193 jC jD ke kg u198 kh ki kj km ko lG lH lI lJ lK lL lM lN lO lQ lh li lj lm lp lq lr ox oy oz oB oC oD oF oG oH oI oJ oK oL oM oN oO oP oQ oT oU oV oW oX oY oZ o0 o8 o9 pc pd pg pj pk:Value}
theorem Mi(hS:aH wc g M x)(hF:aa ag w wc)(a b n:Int)(s t u:ByteArray)(hB:aj wc be 42 #[I J 4,I J a,I J b,I J n,V s,V t,V u])(he:aM ⟨4,a,b,n,s,t,u⟩=true)(ha:bn a)(hb:bn b):
  Code.wp pQ (ai 6 (ae Tryz.f51)) (bodyPost pQ Tryz.f51 λr w'=>r=.returned (.bool (aG x ⟨4,a,b,n,s,t,u⟩))∧aa ag w w') ⟨#[O (some ⟨g,0,none⟩),.agg #[I J 4,I J a,I J b,I J n,V s,V t,V u],undef,O (some ⟨be,0,none⟩),.bool false,u5,.bool (bl bh.id a x.fols),u7,.bool (bl aX.id a x.fees),u9,.bool (bl aR.id a x.itms),u11,.bool (bl ce.id a x.seas),u13,u14,u15,u16,cG,cH,cI,cR,cS,cT,u23,u24,cN,u26,dc,u28,dm,dp,dr,u32,u33,df,dg,u36,dt,u38,dB,dC,dO,dP,dQ,u44,u45,dI,dJ,dK,dL,dD,dE,dF,dR,dS,dT,dM,dG,dH,dw,dx,dy,dz,dA,u64,dh,di,dl,cU,cX,fA,fB,fF,fG,fw,iO,iP,iQ,jN,jO,jP,jQ,jR,jS,jT,jU,jJ,jK,jV,jW,jX,jY,kZ,k9,lc,nd,nT,nU,nV,nW,fH,fJ,fK,fM,fO,fP,fQ,fU,ej,eo,ep,ew,ey,eA,eB,eC,eD,eF,eG,eH,eI,eJ,eK,eM,eO,eP,eQ,eU,eV,eW,eX,eY,eZ,fh,fj,fk,fl,fp,u138,fq,fV,fW,fX,fY,fZ,gb,gc,gg,gh,gS,gT,gU,gV,gW,gX,gY,gZ,g9,hZ,ie,ig,ii,jZ,j9,iW,iX,iY,iZ,i7,ja,jb,jc,jd,je,jf,jg,jh,ji,jk,jl,jm,jn,jo,jp,jq,jr,js,jt,ju,jw,jz,jA,jB,u193,jC,jD,ke,kg,u198,kh,ki,kj,km,ko,lG,lH,lI,lJ,lK,lL,lM,lN,lO,lQ,lh,li,lj,lm,lp,lq,lr,ox,oy,oz,oB,oC,oD,oF,oG,oH,oI,oJ,oK,oL,oM,oN,oO,oP,oQ,oT,oU,oV,oW,oX,oY,oZ,o0,o8,o9,pc,pd,pg,pj,pk],[]⟩ wc:=by
 have mS:Hid (aH wc g M x):=hS;have nY:Hid (aa ag w wc):=hF;have lS:Hid (aj wc be 42 #[I J 4,I J a,I J b,I J n,V s,V t,V u]):=hB;have En:=fR wc;obtain⟨c0,c1,c2,c3,c4,c5,c6,c7,c8,c9,c10,c11,c12⟩:=mS.out.cells;obtain⟨d0,d1,d2,d3,d4,d5,d6⟩:=az hB;clear hS hF hB;simp only[ai,ae,Tryz.f51]
 have HE:Hid (aG x ⟨4,a,b,n,s,t,u⟩=(bl aX.id a x.fees)):=by
  unfold Hid aG;rw[if_neg (by rw[he];simp)];simp
 go_wp2_with (first
  | (go_at_call 100;refine(kB mS.out hb).mono ?_;rintro r w2 ⟨rfl,hf2⟩)
  | fail)
 go_ret;exact⟨af (by rw[HE.out];try simp[*]),by first|exact nY.out|exact nY.out.trans hf2⟩
theorem Mj(hS:aH wc g M x)(hF:aa ag w wc)(a b n:Int)(s t u:ByteArray)(hB:aj wc be 42 #[I J 5,I J a,I J b,I J n,V s,V t,V u])(he:aM ⟨5,a,b,n,s,t,u⟩=true)(ha:bn a)(hb:bn b):
  Code.wp pQ (ai 6 (ae Tryz.f51)) (bodyPost pQ Tryz.f51 λr w'=>r=.returned (.bool (aG x ⟨5,a,b,n,s,t,u⟩))∧aa ag w w') ⟨#[O (some ⟨g,0,none⟩),.agg #[I J 5,I J a,I J b,I J n,V s,V t,V u],undef,O (some ⟨be,0,none⟩),.bool false,u5,.bool (bl bh.id a x.fols),u7,.bool (bl aX.id a x.fees),u9,.bool (bl aR.id a x.itms),u11,.bool (bl ce.id a x.seas),u13,u14,u15,u16,cG,cH,cI,cR,cS,cT,u23,u24,cN,u26,dc,u28,dm,dp,dr,u32,u33,df,dg,u36,dt,u38,dB,dC,dO,dP,dQ,u44,u45,dI,dJ,dK,dL,dD,dE,dF,dR,dS,dT,dM,dG,dH,dw,dx,dy,dz,dA,u64,dh,di,dl,cU,cX,fA,fB,fF,fG,fw,iO,iP,iQ,jN,jO,jP,jQ,jR,jS,jT,jU,jJ,jK,jV,jW,jX,jY,kZ,k9,lc,nd,nT,nU,nV,nW,fH,fJ,fK,fM,fO,fP,fQ,fU,ej,eo,ep,ew,ey,eA,eB,eC,eD,eF,eG,eH,eI,eJ,eK,eM,eO,eP,eQ,eU,eV,eW,eX,eY,eZ,fh,fj,fk,fl,fp,u138,fq,fV,fW,fX,fY,fZ,gb,gc,gg,gh,gS,gT,gU,gV,gW,gX,gY,gZ,g9,hZ,ie,ig,ii,jZ,j9,iW,iX,iY,iZ,i7,ja,jb,jc,jd,je,jf,jg,jh,ji,jk,jl,jm,jn,jo,jp,jq,jr,js,jt,ju,jw,jz,jA,jB,u193,jC,jD,ke,kg,u198,kh,ki,kj,km,ko,lG,lH,lI,lJ,lK,lL,lM,lN,lO,lQ,lh,li,lj,lm,lp,lq,lr,ox,oy,oz,oB,oC,oD,oF,oG,oH,oI,oJ,oK,oL,oM,oN,oO,oP,oQ,oT,oU,oV,oW,oX,oY,oZ,o0,o8,o9,pc,pd,pg,pj,pk],[]⟩ wc:=by
 have mS:Hid (aH wc g M x):=hS;have nY:Hid (aa ag w wc):=hF;have lS:Hid (aj wc be 42 #[I J 5,I J a,I J b,I J n,V s,V t,V u]):=hB;have En:=fR wc;obtain⟨c0,c1,c2,c3,c4,c5,c6,c7,c8,c9,c10,c11,c12⟩:=mS.out.cells;obtain⟨d0,d1,d2,d3,d4,d5,d6⟩:=az hB;clear hS hF hB;simp only[ai,ae,Tryz.f51]
 have HE:Hid (aG x ⟨5,a,b,n,s,t,u⟩=(bl aX.id a x.fees)):=by
  unfold Hid aG;rw[if_neg (by rw[he];simp)];simp
 go_wp2_with (first
  | (go_at_call 100;refine(kB mS.out hb).mono ?_;rintro r w2 ⟨rfl,hf2⟩)
  | fail)
 go_ret;exact⟨af (by rw[HE.out];try simp[*]),by first|exact nY.out|exact nY.out.trans hf2⟩
theorem Mk(hS:aH wc g M x)(hF:aa ag w wc)(a b n:Int)(s t u:ByteArray)(hB:aj wc be 42 #[I J 6,I J a,I J b,I J n,V s,V t,V u])(he:aM ⟨6,a,b,n,s,t,u⟩=true)(ha:bn a)(hb:bn b):
  Code.wp pQ (ai 6 (ae Tryz.f51)) (bodyPost pQ Tryz.f51 λr w'=>r=.returned (.bool (aG x ⟨6,a,b,n,s,t,u⟩))∧aa ag w w') ⟨#[O (some ⟨g,0,none⟩),.agg #[I J 6,I J a,I J b,I J n,V s,V t,V u],undef,O (some ⟨be,0,none⟩),.bool false,u5,.bool (bl bh.id a x.fols),u7,.bool (bl aX.id a x.fees),u9,.bool (bl aR.id a x.itms),u11,.bool (bl ce.id a x.seas),u13,u14,u15,u16,cG,cH,cI,cR,cS,cT,u23,u24,cN,u26,dc,u28,dm,dp,dr,u32,u33,df,dg,u36,dt,u38,dB,dC,dO,dP,dQ,u44,u45,dI,dJ,dK,dL,dD,dE,dF,dR,dS,dT,dM,dG,dH,dw,dx,dy,dz,dA,u64,dh,di,dl,cU,cX,fA,fB,fF,fG,fw,iO,iP,iQ,jN,jO,jP,jQ,jR,jS,jT,jU,jJ,jK,jV,jW,jX,jY,kZ,k9,lc,nd,nT,nU,nV,nW,fH,fJ,fK,fM,fO,fP,fQ,fU,ej,eo,ep,ew,ey,eA,eB,eC,eD,eF,eG,eH,eI,eJ,eK,eM,eO,eP,eQ,eU,eV,eW,eX,eY,eZ,fh,fj,fk,fl,fp,u138,fq,fV,fW,fX,fY,fZ,gb,gc,gg,gh,gS,gT,gU,gV,gW,gX,gY,gZ,g9,hZ,ie,ig,ii,jZ,j9,iW,iX,iY,iZ,i7,ja,jb,jc,jd,je,jf,jg,jh,ji,jk,jl,jm,jn,jo,jp,jq,jr,js,jt,ju,jw,jz,jA,jB,u193,jC,jD,ke,kg,u198,kh,ki,kj,km,ko,lG,lH,lI,lJ,lK,lL,lM,lN,lO,lQ,lh,li,lj,lm,lp,lq,lr,ox,oy,oz,oB,oC,oD,oF,oG,oH,oI,oJ,oK,oL,oM,oN,oO,oP,oQ,oT,oU,oV,oW,oX,oY,oZ,o0,o8,o9,pc,pd,pg,pj,pk],[]⟩ wc:=by
 have mS:Hid (aH wc g M x):=hS;have nY:Hid (aa ag w wc):=hF;have lS:Hid (aj wc be 42 #[I J 6,I J a,I J b,I J n,V s,V t,V u]):=hB;have En:=fR wc;obtain⟨c0,c1,c2,c3,c4,c5,c6,c7,c8,c9,c10,c11,c12⟩:=mS.out.cells;obtain⟨d0,d1,d2,d3,d4,d5,d6⟩:=az hB;clear hS hF hB;simp only[ai,ae,Tryz.f51]
 have HE:Hid (aG x ⟨6,a,b,n,s,t,u⟩=(bl aX.id a x.fees&&nL x b)):=by
  unfold Hid aG;rw[if_neg (by rw[he];simp)];simp
 cases TB:bl aX.id a x.fees
 all_goals
  go_wp2_with (first
   | (go_at_call 100;refine(kB mS.out hb).mono ?_;rintro r w2 ⟨rfl,hf2⟩)
   | fail)
  go_ret;exact⟨af (by rw[HE.out,TB];simp),by first|exact nY.out|exact nY.out.trans hf2⟩
theorem Ml(hS:aH wc g M x)(hF:aa ag w wc)(a b n:Int)(s t u:ByteArray)(hB:aj wc be 42 #[I J 7,I J a,I J b,I J n,V s,V t,V u])(he:aM ⟨7,a,b,n,s,t,u⟩=true)(ha:bn a)(hb:bn b):
  Code.wp pQ (ai 6 (ae Tryz.f51)) (bodyPost pQ Tryz.f51 λr w'=>r=.returned (.bool (aG x ⟨7,a,b,n,s,t,u⟩))∧aa ag w w') ⟨#[O (some ⟨g,0,none⟩),.agg #[I J 7,I J a,I J b,I J n,V s,V t,V u],undef,O (some ⟨be,0,none⟩),.bool false,u5,.bool (bl bh.id a x.fols),u7,.bool (bl aX.id a x.fees),u9,.bool (bl aR.id a x.itms),u11,.bool (bl ce.id a x.seas),u13,u14,u15,u16,cG,cH,cI,cR,cS,cT,u23,u24,cN,u26,dc,u28,dm,dp,dr,u32,u33,df,dg,u36,dt,u38,dB,dC,dO,dP,dQ,u44,u45,dI,dJ,dK,dL,dD,dE,dF,dR,dS,dT,dM,dG,dH,dw,dx,dy,dz,dA,u64,dh,di,dl,cU,cX,fA,fB,fF,fG,fw,iO,iP,iQ,jN,jO,jP,jQ,jR,jS,jT,jU,jJ,jK,jV,jW,jX,jY,kZ,k9,lc,nd,nT,nU,nV,nW,fH,fJ,fK,fM,fO,fP,fQ,fU,ej,eo,ep,ew,ey,eA,eB,eC,eD,eF,eG,eH,eI,eJ,eK,eM,eO,eP,eQ,eU,eV,eW,eX,eY,eZ,fh,fj,fk,fl,fp,u138,fq,fV,fW,fX,fY,fZ,gb,gc,gg,gh,gS,gT,gU,gV,gW,gX,gY,gZ,g9,hZ,ie,ig,ii,jZ,j9,iW,iX,iY,iZ,i7,ja,jb,jc,jd,je,jf,jg,jh,ji,jk,jl,jm,jn,jo,jp,jq,jr,js,jt,ju,jw,jz,jA,jB,u193,jC,jD,ke,kg,u198,kh,ki,kj,km,ko,lG,lH,lI,lJ,lK,lL,lM,lN,lO,lQ,lh,li,lj,lm,lp,lq,lr,ox,oy,oz,oB,oC,oD,oF,oG,oH,oI,oJ,oK,oL,oM,oN,oO,oP,oQ,oT,oU,oV,oW,oX,oY,oZ,o0,o8,o9,pc,pd,pg,pj,pk],[]⟩ wc:=by
 have mS:Hid (aH wc g M x):=hS;have nY:Hid (aa ag w wc):=hF;have lS:Hid (aj wc be 42 #[I J 7,I J a,I J b,I J n,V s,V t,V u]):=hB;have En:=fR wc;obtain⟨c0,c1,c2,c3,c4,c5,c6,c7,c8,c9,c10,c11,c12⟩:=mS.out.cells;obtain⟨d0,d1,d2,d3,d4,d5,d6⟩:=az hB;clear hS hF hB;simp only[ai,ae,Tryz.f51]
 have HE:Hid (aG x ⟨7,a,b,n,s,t,u⟩=(!bl aR.id a x.itms&&decide (x.itms.length<1024)&&bl aX.id b x.fees&&decide (jI x b s=0))):=by
  unfold Hid aG;rw[if_neg (by rw[he];simp)];simp
 have hsz:s.size≤maxLen:=by
  have h1:=he;rw[Px] at h1;simp only[Bool.and_eq_true] at h1;have:=nX h1.1.1.2;have:=mo;omega
 have Qu:Hid (aj wc be 42 #[I J 7,I J a,I J b,I J n,V s,V t,V u]):=lS.out.frm En id
 go_upto_region 20 with fail
 go_cut [13,14] from 160 to 169 (λs13 TC wx=>TC=.bool (bl aX.id b x.fees)∧aa ag wc wx)
 case first=>
  have gI:=fR wc;have nB:aa ag wc (wc.alloc (.cells #[I J 0,I J 0,V {data:=#[]},V {data:=#[]}] 64)):=gI.alloc _;have TD:Hid (∀cs:Array Value,aa ag wc (wc.alloc (.cells cs 64)).drew):=λcs=>(gI.alloc _).drew
  obtain⟨e0,e1,e2,e3,e4,e5,e6,e7,e8,e9,Vg,e11,Vh⟩:=(mS.out.nix nB).cells;obtain⟨p0,p1,p2,p3,p4,p5,p6⟩:=az (Qu.out.frm nB id);have hl0:=mS.out.feeLook2 hb;have Jy:=(mS.out.nix gI.drew).feeLook2 hb;have hl2:=(mS.out.nix ((gI.alloc (.cells #[I J 0,I J 0,V {data:=#[]},V {data:=#[]}] 64)).drew)).feeLook2 hb;clear nB
  go_region
  all_goals
   go_wp2
   go_meet
   exact⟨rfl,TD.out _⟩
 case rest=>
 obtain⟨rfl,Mm⟩:=hcut;have NY:Hid (aH wc g M x):=mS.out.nix Mm;have Mn:=h_ (nY.out.trans Mm);clear c0 c1 c2 c3 c4 c5 c6 c7 c8 c9 c10 c11 c12 d0 d1 d2 d3 d4 d5 d6;obtain⟨c0,c1,c2,c3,c4,c5,c6,c7,c8,c9,c10,c11,c12⟩:=NY.out.cells;obtain⟨d0,d1,d2,d3,d4,d5,d6⟩:=az (Qu.out.frm Mm id);clear mS nY Qu Mm;have mS:=NY;have nY:=Mn;have q3:∀y:FW (aa ag wc),y.w.cell? ⟨g,3,none⟩=some (.map (some M.it)):=λy=>(y.h.cell (gO c3) id).trans c3
 have q7:∀y:FW (aa ag wc),y.w.cell? ⟨g,7,none⟩=some (.map (some M.gu)):=λy=>(y.h.cell (gO c7) id).trans c7
 have p2:∀y:FW (aa ag wc),y.w.cell? ⟨be,2,none⟩=some (I J b):=λy=>(y.h.cell (gO d2) id).trans d2
 have p4:∀y:FW (aa ag wc),y.w.cell? ⟨be,4,none⟩=some (V s):=λy=>(y.h.cell (gO d4) id).trans d4
 obtain⟨Vi,Qv,-⟩:=mS.out.maps.it
 have ln:∀(y:FW (aa ag wc)) (ty:TypeId),(Builtin.len_ #[108] ty #[.map (some M.it)]).run pQ y.w=.ok (I J x.itms.length) y.w:=λy ty=>by
  have:=(Qv.frm y.h id).len (P:=pQ) Tryz.underlying108 ty
  simpa using this
 have nl:∀y:FW (aa ag wc),(Instr.lookup 112 (.map (some M.gu)) (.agg #[I J b,V s]) false).run pQ y.w=.ok (I J (jI x b s)) y.w:=λy=>(mS.out.nix y.h).guidLook hb hsz false
 clear c0 c1 c2 c4 c5 c6 c8 c9 c10 c11 c12 hsz Qv;generalize jI x b s=ni at *;generalize bl aR.id a x.itms=ia at *;generalize bl aX.id b x.fees=ib at *;generalize x.itms.length=ll at *
 cases ia
 ·by_cases h2:ll<1024
  ·have k2:decide ((ll:Int)<1024)=true:=by simp;omega
   cases ib
   ·skip
    go_wp2_with fail;refine ak (aa ag wc) ((fR wc).drew) (by kernel_rfl) (by kernel_rfl) ?_
    repeat (go_big_quiet_step (fail))
    refine wpQuiet_nil ?_;rintro w3 ⟨⟨_,hf2⟩,rfl⟩;go_wp2;go_ret;exact⟨af (by rw[HE.out];try simp[*]),nY.out.trans hf2⟩
   ·by_cases h4:ni=0
    ·have GM:(ni==0)=true:=by simp[h4]
     subst h4;go_wp2_with fail;refine ak (aa ag wc) ((fR wc).drew) (by kernel_rfl) (by kernel_rfl) ?_
     repeat (go_big_quiet_step (fail))
     refine wpQuiet_nil ?_;rintro w3 ⟨⟨_,hf2⟩,rfl⟩;go_wp2;go_ret;exact⟨af (by rw[HE.out];try simp[*]),nY.out.trans hf2⟩
    ·have GM:(ni==0)=false:=by simp[h4]
     go_wp2_with fail;refine ak (aa ag wc) ((fR wc).drew) (by kernel_rfl) (by kernel_rfl) ?_
     repeat (go_big_quiet_step (fail))
     refine wpQuiet_nil ?_;rintro w3 ⟨⟨_,hf2⟩,rfl⟩;go_wp2;go_ret;exact⟨af (by rw[HE.out];try simp[*]),nY.out.trans hf2⟩
  ·have k2:decide ((ll:Int)<1024)=false:=by simp;omega
   go_wp2_with fail;refine ak (aa ag wc) ((fR wc).drew) (by kernel_rfl) (by kernel_rfl) ?_
   repeat (go_big_quiet_step (fail))
   refine wpQuiet_nil ?_;rintro w3 ⟨⟨_,hf2⟩,rfl⟩;go_wp2;go_ret;exact⟨af (by rw[HE.out];try simp[*]),nY.out.trans hf2⟩
 ·skip
  go_wp2_with fail;refine ak (aa ag wc) ((fR wc).drew) (by kernel_rfl) (by kernel_rfl) ?_
  repeat (go_big_quiet_step (fail))
  refine wpQuiet_nil ?_;rintro w3 ⟨⟨_,hf2⟩,rfl⟩;go_wp2;go_ret;exact⟨af (by rw[HE.out];try simp[*]),nY.out.trans hf2⟩
theorem Mo(hS:aH wc g M x)(hF:aa ag w wc)(a b n:Int)(s t u:ByteArray)(hB:aj wc be 42 #[I J 8,I J a,I J b,I J n,V s,V t,V u])(he:aM ⟨8,a,b,n,s,t,u⟩=true)(ha:bn a)(hb:bn b):
  Code.wp pQ (ai 6 (ae Tryz.f51)) (bodyPost pQ Tryz.f51 λr w'=>r=.returned (.bool (aG x ⟨8,a,b,n,s,t,u⟩))∧aa ag w w') ⟨#[O (some ⟨g,0,none⟩),.agg #[I J 8,I J a,I J b,I J n,V s,V t,V u],undef,O (some ⟨be,0,none⟩),.bool false,u5,.bool (bl bh.id a x.fols),u7,.bool (bl aX.id a x.fees),u9,.bool (bl aR.id a x.itms),u11,.bool (bl ce.id a x.seas),u13,u14,u15,u16,cG,cH,cI,cR,cS,cT,u23,u24,cN,u26,dc,u28,dm,dp,dr,u32,u33,df,dg,u36,dt,u38,dB,dC,dO,dP,dQ,u44,u45,dI,dJ,dK,dL,dD,dE,dF,dR,dS,dT,dM,dG,dH,dw,dx,dy,dz,dA,u64,dh,di,dl,cU,cX,fA,fB,fF,fG,fw,iO,iP,iQ,jN,jO,jP,jQ,jR,jS,jT,jU,jJ,jK,jV,jW,jX,jY,kZ,k9,lc,nd,nT,nU,nV,nW,fH,fJ,fK,fM,fO,fP,fQ,fU,ej,eo,ep,ew,ey,eA,eB,eC,eD,eF,eG,eH,eI,eJ,eK,eM,eO,eP,eQ,eU,eV,eW,eX,eY,eZ,fh,fj,fk,fl,fp,u138,fq,fV,fW,fX,fY,fZ,gb,gc,gg,gh,gS,gT,gU,gV,gW,gX,gY,gZ,g9,hZ,ie,ig,ii,jZ,j9,iW,iX,iY,iZ,i7,ja,jb,jc,jd,je,jf,jg,jh,ji,jk,jl,jm,jn,jo,jp,jq,jr,js,jt,ju,jw,jz,jA,jB,u193,jC,jD,ke,kg,u198,kh,ki,kj,km,ko,lG,lH,lI,lJ,lK,lL,lM,lN,lO,lQ,lh,li,lj,lm,lp,lq,lr,ox,oy,oz,oB,oC,oD,oF,oG,oH,oI,oJ,oK,oL,oM,oN,oO,oP,oQ,oT,oU,oV,oW,oX,oY,oZ,o0,o8,o9,pc,pd,pg,pj,pk],[]⟩ wc:=by
 have mS:Hid (aH wc g M x):=hS;have nY:Hid (aa ag w wc):=hF;have lS:Hid (aj wc be 42 #[I J 8,I J a,I J b,I J n,V s,V t,V u]):=hB;have En:=fR wc;obtain⟨c0,c1,c2,c3,c4,c5,c6,c7,c8,c9,c10,c11,c12⟩:=mS.out.cells;obtain⟨d0,d1,d2,d3,d4,d5,d6⟩:=az hB;clear hS hF hB;simp only[ai,ae,Tryz.f51]
 have HE:Hid (aG x ⟨8,a,b,n,s,t,u⟩=(bl aR.id a x.itms)):=by
  unfold Hid aG;rw[if_neg (by rw[he];simp)];simp
 go_wp2_with (first
  | (go_at_call 100;refine(kB mS.out hb).mono ?_;rintro r w2 ⟨rfl,hf2⟩)
  | fail)
 go_ret;exact⟨af (by rw[HE.out];try simp[*]),by first|exact nY.out|exact nY.out.trans hf2⟩
theorem Mp(hS:aH wc g M x)(hF:aa ag w wc)(a b n:Int)(s t u:ByteArray)(hB:aj wc be 42 #[I J 9,I J a,I J b,I J n,V s,V t,V u])(he:aM ⟨9,a,b,n,s,t,u⟩=true)(ha:bn a)(hb:bn b):
  Code.wp pQ (ai 6 (ae Tryz.f51)) (bodyPost pQ Tryz.f51 λr w'=>r=.returned (.bool (aG x ⟨9,a,b,n,s,t,u⟩))∧aa ag w w') ⟨#[O (some ⟨g,0,none⟩),.agg #[I J 9,I J a,I J b,I J n,V s,V t,V u],undef,O (some ⟨be,0,none⟩),.bool false,u5,.bool (bl bh.id a x.fols),u7,.bool (bl aX.id a x.fees),u9,.bool (bl aR.id a x.itms),u11,.bool (bl ce.id a x.seas),u13,u14,u15,u16,cG,cH,cI,cR,cS,cT,u23,u24,cN,u26,dc,u28,dm,dp,dr,u32,u33,df,dg,u36,dt,u38,dB,dC,dO,dP,dQ,u44,u45,dI,dJ,dK,dL,dD,dE,dF,dR,dS,dT,dM,dG,dH,dw,dx,dy,dz,dA,u64,dh,di,dl,cU,cX,fA,fB,fF,fG,fw,iO,iP,iQ,jN,jO,jP,jQ,jR,jS,jT,jU,jJ,jK,jV,jW,jX,jY,kZ,k9,lc,nd,nT,nU,nV,nW,fH,fJ,fK,fM,fO,fP,fQ,fU,ej,eo,ep,ew,ey,eA,eB,eC,eD,eF,eG,eH,eI,eJ,eK,eM,eO,eP,eQ,eU,eV,eW,eX,eY,eZ,fh,fj,fk,fl,fp,u138,fq,fV,fW,fX,fY,fZ,gb,gc,gg,gh,gS,gT,gU,gV,gW,gX,gY,gZ,g9,hZ,ie,ig,ii,jZ,j9,iW,iX,iY,iZ,i7,ja,jb,jc,jd,je,jf,jg,jh,ji,jk,jl,jm,jn,jo,jp,jq,jr,js,jt,ju,jw,jz,jA,jB,u193,jC,jD,ke,kg,u198,kh,ki,kj,km,ko,lG,lH,lI,lJ,lK,lL,lM,lN,lO,lQ,lh,li,lj,lm,lp,lq,lr,ox,oy,oz,oB,oC,oD,oF,oG,oH,oI,oJ,oK,oL,oM,oN,oO,oP,oQ,oT,oU,oV,oW,oX,oY,oZ,o0,o8,o9,pc,pd,pg,pj,pk],[]⟩ wc:=by
 have mS:Hid (aH wc g M x):=hS;have nY:Hid (aa ag w wc):=hF;have lS:Hid (aj wc be 42 #[I J 9,I J a,I J b,I J n,V s,V t,V u]):=hB;have En:=fR wc;obtain⟨c0,c1,c2,c3,c4,c5,c6,c7,c8,c9,c10,c11,c12⟩:=mS.out.cells;obtain⟨d0,d1,d2,d3,d4,d5,d6⟩:=az hB;clear hS hF hB;simp only[ai,ae,Tryz.f51]
 have HE:Hid (aG x ⟨9,a,b,n,s,t,u⟩=(bl aR.id a x.itms)):=by
  unfold Hid aG;rw[if_neg (by rw[he];simp)];simp
 go_wp2_with (first
  | (go_at_call 100;refine(kB mS.out hb).mono ?_;rintro r w2 ⟨rfl,hf2⟩)
  | fail)
 go_ret;exact⟨af (by rw[HE.out];try simp[*]),by first|exact nY.out|exact nY.out.trans hf2⟩
end Go.Proofs.YtaecjmiobllhmaaGreat
