/- Words. -/
import Derived.Test.YtaecjmiobllhmaaGreatGr16
set_option linter.unusedVariables false
set_option linter.unusedSimpArgs false
set_option maxRecDepth 100000
set_option maxHeartbeats 16000000
namespace Go.Proofs.YtaecjmiobllhmaaGreat
open Go.Value renaming int→I,string→V,slice→U,pointer→O
open Go.IntKind renaming i64→J
open Tryz renaming prog→pQ
open Go.RowKit Go.Lib
variable {w wc:World}{g be:Nat}{M:Ms}{x:St}{u5 u7 u9 u11 u13 u14 u15 u16 cG cH cI cR cS cT u23 u24 cN u26 dc u28 dm dp dr u32 u33 df dg u36 dt u38 dB dC dO dP dQ u44 u45 dI dJ dK dL dD dE dF dR dS dT dM dG dH dw dx dy dz dA u64 dh di dl cU cX fA fB fF fG fw iO iP iQ jN jO jP jQ jR jS jT jU jJ jK jV jW jX jY kZ k9 lc nd nT nU nV nW fH fJ fK fM fO fP fQ fU ej eo ep ew ey eA eB eC eD eF eG eH eI eJ eK eM eO eP eQ eU eV eW eX eY eZ fh fj fk fl fp u138 fq fV fW fX fY fZ gb gc gg gh gS gT gU gV gW gX gY gZ g9 hZ ie ig ii jZ j9 iW iX iY iZ i7 ja jb jc jd je jf jg jh ji jk jl jm jn jo jp jq jr js jt ju jw jz jA jB u193 jC jD ke kg u198 kh ki kj km ko lG lH lI lJ lK lL lM lN lO lQ lh li lj lm lp lq lr ox oy oz oB oC oD oF oG oH oI oJ oK oL oM oN oO oP oQ oT oU oV oW oX oY oZ o0 o8 o9 pc pd pg pj pk:Value}
theorem JG(hS:aH wc g M x)(hF:aa ag w wc)(a b n:Int)(s t u:ByteArray)(hB:aj wc be 42 #[I J 10,I J a,I J b,I J n,V s,V t,V u])(he:aM ⟨10,a,b,n,s,t,u⟩=true)(ha:bn a)(hb:bn b):
  Code.wp pQ (ai 6 (ae Tryz.f51)) (bodyPost pQ Tryz.f51 λr w'=>r=.returned (.bool (aG x ⟨10,a,b,n,s,t,u⟩))∧aa ag w w') ⟨#[O (some ⟨g,0,none⟩),.agg #[I J 10,I J a,I J b,I J n,V s,V t,V u],undef,O (some ⟨be,0,none⟩),.bool false,u5,.bool (bl bh.id a x.fols),u7,.bool (bl aX.id a x.fees),u9,.bool (bl aR.id a x.itms),u11,.bool (bl ce.id a x.seas),u13,u14,u15,u16,cG,cH,cI,cR,cS,cT,u23,u24,cN,u26,dc,u28,dm,dp,dr,u32,u33,df,dg,u36,dt,u38,dB,dC,dO,dP,dQ,u44,u45,dI,dJ,dK,dL,dD,dE,dF,dR,dS,dT,dM,dG,dH,dw,dx,dy,dz,dA,u64,dh,di,dl,cU,cX,fA,fB,fF,fG,fw,iO,iP,iQ,jN,jO,jP,jQ,jR,jS,jT,jU,jJ,jK,jV,jW,jX,jY,kZ,k9,lc,nd,nT,nU,nV,nW,fH,fJ,fK,fM,fO,fP,fQ,fU,ej,eo,ep,ew,ey,eA,eB,eC,eD,eF,eG,eH,eI,eJ,eK,eM,eO,eP,eQ,eU,eV,eW,eX,eY,eZ,fh,fj,fk,fl,fp,u138,fq,fV,fW,fX,fY,fZ,gb,gc,gg,gh,gS,gT,gU,gV,gW,gX,gY,gZ,g9,hZ,ie,ig,ii,jZ,j9,iW,iX,iY,iZ,i7,ja,jb,jc,jd,je,jf,jg,jh,ji,jk,jl,jm,jn,jo,jp,jq,jr,js,jt,ju,jw,jz,jA,jB,u193,jC,jD,ke,kg,u198,kh,ki,kj,km,ko,lG,lH,lI,lJ,lK,lL,lM,lN,lO,lQ,lh,li,lj,lm,lp,lq,lr,ox,oy,oz,oB,oC,oD,oF,oG,oH,oI,oJ,oK,oL,oM,oN,oO,oP,oQ,oT,oU,oV,oW,oX,oY,oZ,o0,o8,o9,pc,pd,pg,pj,pk],[]⟩ wc:=by
 have mS:Hid (aH wc g M x):=hS;have nY:Hid (aa ag w wc):=hF;have lS:Hid (aj wc be 42 #[I J 10,I J a,I J b,I J n,V s,V t,V u]):=hB;have En:=fR wc;obtain⟨c0,c1,c2,c3,c4,c5,c6,c7,c8,c9,c10,c11,c12⟩:=mS.out.cells;obtain⟨d0,d1,d2,d3,d4,d5,d6⟩:=az hB;clear hS hF hB;simp only[ai,ae,Tryz.f51];have HE:Hid (aG x ⟨10,a,b,n,s,t,u⟩=(bl aR.id a x.itms&&(decide (n=0)||(ah x a).tags.any (λy=>decide (y=s))||decide ((ah x a).tags.length<8)))):=E9 he;go_wp2_with fail;refine(Ej mS.out ha s).mono ?_;rintro r w2 ⟨rfl,wD⟩;have NY:Hid (aH w2 g M x):=mS.out.nix wD;have Mn:=h_ (nY.out.trans wD);have Qw:Hid (aj w2 be 42 #[I J 10,I J a,I J b,I J n,V s,V t,V u]):=(lS.out.frm En id).frm wD id;obtain⟨v,R9⟩:=NY.out.itmSl ha;clear c0 c1 c2 c3 c4 c5 c6 c7 c8 c9 c10 c11 c12 d0 d1 d2 d3 d4 d5 d6;have q3:∀y:FW (aa ag w2),y.w.cell? ⟨g,3,none⟩=some (.map (some M.it)):=λy=>(NY.out.nix y.h).cells.2.2.2.1
 have p1:∀y:FW (aa ag w2),y.w.cell? ⟨be,1,none⟩=some (I J a):=λy=>(az (Qw.out.frm y.h id)).2.1
 have p3:∀y:FW (aa ag w2),y.w.cell? ⟨be,3,none⟩=some (I J n):=λy=>(az (Qw.out.frm y.h id)).2.2.2.1
 have d3:=(az Qw.out).2.2.2.1;have nl:∀y:FW (aa ag w2),(Instr.lookup 108 (.map (some M.it)) (I J a) false).run pQ y.w=.ok (.agg (nr v (ah x a))) y.w:=λy=>(R9 _ y.h).2 false
 have Qp:∀y:FW (aa ag w2),(Instr.field 82 (.agg #[I J (ah x a).id,I J (ah x a).feed,I J (ah x a).date,V (ah x a).guid,V (ah x a).title,V (ah x a).link,.bool (ah x a).read,.bool (ah x a).star,U v.1 (ah x a).tags.length v.2]) 8).run pQ y.w=.ok (U v.1 (ah x a).tags.length v.2) y.w:=λy=>ue v (ah x a) y.w
 unfold nr at nl;clear R9;generalize bl aR.id a x.itms=ia at *;generalize ((ah x a).tags.any λy=>decide (y=s))=hs at *;generalize ah x a=q at *
 cases ia
 ·skip
  go_wp2_with fail;refine ak (aa ag w2) ((fR w2).drew) (by kernel_rfl) (by kernel_rfl) ?_
  repeat (go_big_quiet_step (fail))
  refine wpQuiet_nil ?_;rintro w3 ⟨⟨_,hf2⟩,rfl⟩;go_wp2;go_ret;exact⟨af (by rw[HE.out];try simp[*]),Mn.out.trans hf2⟩
 ·by_cases hn:n=0
  ·have kn:(n==0)=true:=by simp[hn]
   subst hn;go_wp2_with fail;refine ak (aa ag w2) ((fR w2).drew) (by kernel_rfl) (by kernel_rfl) ?_
   repeat (go_big_quiet_step (fail))
   refine wpQuiet_nil ?_;rintro w3 ⟨⟨_,hf2⟩,rfl⟩;go_wp2;go_ret;exact⟨af (by rw[HE.out];try simp[*]),Mn.out.trans hf2⟩
  ·have kn:(n==0)=false:=by simp[hn]
   cases hs
   ·by_cases hl:q.tags.length<8
    ·have kl:decide ((q.tags.length:Int)<8)=true:=by simp;omega
     go_wp2_with fail;refine ak (aa ag w2) ((fR w2).drew) (by kernel_rfl) (by kernel_rfl) ?_
     repeat (go_big_quiet_step (fail))
     refine wpQuiet_nil ?_;rintro w3 ⟨⟨_,hf2⟩,rfl⟩;go_wp2;go_ret;exact⟨af (by rw[HE.out];try simp[*]),Mn.out.trans hf2⟩
    ·have kl:decide ((q.tags.length:Int)<8)=false:=by simp;omega
     go_wp2_with fail;refine ak (aa ag w2) ((fR w2).drew) (by kernel_rfl) (by kernel_rfl) ?_
     repeat (go_big_quiet_step (fail))
     refine wpQuiet_nil ?_;rintro w3 ⟨⟨_,hf2⟩,rfl⟩;go_wp2;go_ret;exact⟨af (by rw[HE.out];try simp[*]),Mn.out.trans hf2⟩
   ·skip
    go_wp2_with fail;refine ak (aa ag w2) ((fR w2).drew) (by kernel_rfl) (by kernel_rfl) ?_
    repeat (go_big_quiet_step (fail))
    refine wpQuiet_nil ?_;rintro w3 ⟨⟨_,hf2⟩,rfl⟩;go_wp2;go_ret;exact⟨af (by rw[HE.out];try simp[*]),Mn.out.trans hf2⟩
theorem JH(hS:aH wc g M x)(hF:aa ag w wc)(a b n:Int)(s t u:ByteArray)(hB:aj wc be 42 #[I J 11,I J a,I J b,I J n,V s,V t,V u])(he:aM ⟨11,a,b,n,s,t,u⟩=true)(ha:bn a)(hb:bn b):
  Code.wp pQ (ai 6 (ae Tryz.f51)) (bodyPost pQ Tryz.f51 λr w'=>r=.returned (.bool (aG x ⟨11,a,b,n,s,t,u⟩))∧aa ag w w') ⟨#[O (some ⟨g,0,none⟩),.agg #[I J 11,I J a,I J b,I J n,V s,V t,V u],undef,O (some ⟨be,0,none⟩),.bool false,u5,.bool (bl bh.id a x.fols),u7,.bool (bl aX.id a x.fees),u9,.bool (bl aR.id a x.itms),u11,.bool (bl ce.id a x.seas),u13,u14,u15,u16,cG,cH,cI,cR,cS,cT,u23,u24,cN,u26,dc,u28,dm,dp,dr,u32,u33,df,dg,u36,dt,u38,dB,dC,dO,dP,dQ,u44,u45,dI,dJ,dK,dL,dD,dE,dF,dR,dS,dT,dM,dG,dH,dw,dx,dy,dz,dA,u64,dh,di,dl,cU,cX,fA,fB,fF,fG,fw,iO,iP,iQ,jN,jO,jP,jQ,jR,jS,jT,jU,jJ,jK,jV,jW,jX,jY,kZ,k9,lc,nd,nT,nU,nV,nW,fH,fJ,fK,fM,fO,fP,fQ,fU,ej,eo,ep,ew,ey,eA,eB,eC,eD,eF,eG,eH,eI,eJ,eK,eM,eO,eP,eQ,eU,eV,eW,eX,eY,eZ,fh,fj,fk,fl,fp,u138,fq,fV,fW,fX,fY,fZ,gb,gc,gg,gh,gS,gT,gU,gV,gW,gX,gY,gZ,g9,hZ,ie,ig,ii,jZ,j9,iW,iX,iY,iZ,i7,ja,jb,jc,jd,je,jf,jg,jh,ji,jk,jl,jm,jn,jo,jp,jq,jr,js,jt,ju,jw,jz,jA,jB,u193,jC,jD,ke,kg,u198,kh,ki,kj,km,ko,lG,lH,lI,lJ,lK,lL,lM,lN,lO,lQ,lh,li,lj,lm,lp,lq,lr,ox,oy,oz,oB,oC,oD,oF,oG,oH,oI,oJ,oK,oL,oM,oN,oO,oP,oQ,oT,oU,oV,oW,oX,oY,oZ,o0,o8,o9,pc,pd,pg,pj,pk],[]⟩ wc:=by
 have mS:Hid (aH wc g M x):=hS;have nY:Hid (aa ag w wc):=hF;have lS:Hid (aj wc be 42 #[I J 11,I J a,I J b,I J n,V s,V t,V u]):=hB;have En:=fR wc;obtain⟨c0,c1,c2,c3,c4,c5,c6,c7,c8,c9,c10,c11,c12⟩:=mS.out.cells;obtain⟨d0,d1,d2,d3,d4,d5,d6⟩:=az hB;clear hS hF hB;simp only[ai,ae,Tryz.f51]
 have HE:Hid (aG x ⟨11,a,b,n,s,t,u⟩=(!bl ce.id a x.seas&&decide (x.seas.length<32))):=by
  unfold Hid aG;rw[if_neg (by rw[he];simp)];simp
 have ln:∀(ty:TypeId),(Builtin.len_ #[109] ty #[.map (some M.se)]).run pQ wc=.ok (I J x.seas.length) wc:=λty=>by
  have:=mS.out.maps.se.len (P:=pQ) Tryz.underlying109 ty
  simpa using this
 generalize bl ce.id a x.seas=ia at *;generalize x.seas.length=ll at *
 cases ia
 all_goals
  go_wp2_with fail;go_ret;exact⟨af (by rw[HE.out];try (simp;try omega)),nY.out⟩
theorem JI(hS:aH wc g M x)(hF:aa ag w wc)(a b n:Int)(s t u:ByteArray)(hB:aj wc be 42 #[I J 12,I J a,I J b,I J n,V s,V t,V u])(he:aM ⟨12,a,b,n,s,t,u⟩=true)(ha:bn a)(hb:bn b):
  Code.wp pQ (ai 6 (ae Tryz.f51)) (bodyPost pQ Tryz.f51 λr w'=>r=.returned (.bool (aG x ⟨12,a,b,n,s,t,u⟩))∧aa ag w w') ⟨#[O (some ⟨g,0,none⟩),.agg #[I J 12,I J a,I J b,I J n,V s,V t,V u],undef,O (some ⟨be,0,none⟩),.bool false,u5,.bool (bl bh.id a x.fols),u7,.bool (bl aX.id a x.fees),u9,.bool (bl aR.id a x.itms),u11,.bool (bl ce.id a x.seas),u13,u14,u15,u16,cG,cH,cI,cR,cS,cT,u23,u24,cN,u26,dc,u28,dm,dp,dr,u32,u33,df,dg,u36,dt,u38,dB,dC,dO,dP,dQ,u44,u45,dI,dJ,dK,dL,dD,dE,dF,dR,dS,dT,dM,dG,dH,dw,dx,dy,dz,dA,u64,dh,di,dl,cU,cX,fA,fB,fF,fG,fw,iO,iP,iQ,jN,jO,jP,jQ,jR,jS,jT,jU,jJ,jK,jV,jW,jX,jY,kZ,k9,lc,nd,nT,nU,nV,nW,fH,fJ,fK,fM,fO,fP,fQ,fU,ej,eo,ep,ew,ey,eA,eB,eC,eD,eF,eG,eH,eI,eJ,eK,eM,eO,eP,eQ,eU,eV,eW,eX,eY,eZ,fh,fj,fk,fl,fp,u138,fq,fV,fW,fX,fY,fZ,gb,gc,gg,gh,gS,gT,gU,gV,gW,gX,gY,gZ,g9,hZ,ie,ig,ii,jZ,j9,iW,iX,iY,iZ,i7,ja,jb,jc,jd,je,jf,jg,jh,ji,jk,jl,jm,jn,jo,jp,jq,jr,js,jt,ju,jw,jz,jA,jB,u193,jC,jD,ke,kg,u198,kh,ki,kj,km,ko,lG,lH,lI,lJ,lK,lL,lM,lN,lO,lQ,lh,li,lj,lm,lp,lq,lr,ox,oy,oz,oB,oC,oD,oF,oG,oH,oI,oJ,oK,oL,oM,oN,oO,oP,oQ,oT,oU,oV,oW,oX,oY,oZ,o0,o8,o9,pc,pd,pg,pj,pk],[]⟩ wc:=by
 have mS:Hid (aH wc g M x):=hS;have nY:Hid (aa ag w wc):=hF;have lS:Hid (aj wc be 42 #[I J 12,I J a,I J b,I J n,V s,V t,V u]):=hB;have En:=fR wc;obtain⟨c0,c1,c2,c3,c4,c5,c6,c7,c8,c9,c10,c11,c12⟩:=mS.out.cells;obtain⟨d0,d1,d2,d3,d4,d5,d6⟩:=az hB;clear hS hF hB;simp only[ai,ae,Tryz.f51]
 have HE:Hid (aG x ⟨12,a,b,n,s,t,u⟩=(bl ce.id a x.seas)):=by
  unfold Hid aG;rw[if_neg (by rw[he];simp)];simp
 go_wp2_with (first
  | (go_at_call 100;refine(kB mS.out hb).mono ?_;rintro r w2 ⟨rfl,hf2⟩)
  | fail)
 go_ret;exact⟨af (by rw[HE.out];try simp[*]),by first|exact nY.out|exact nY.out.trans hf2⟩
theorem JJ(hS:aH wc g M x)(hF:aa ag w wc)(a b n:Int)(s t u:ByteArray)(hB:aj wc be 42 #[I J 13,I J a,I J b,I J n,V s,V t,V u])(he:aM ⟨13,a,b,n,s,t,u⟩=true)(ha:bn a)(hb:bn b):
  Code.wp pQ (ai 6 (ae Tryz.f51)) (bodyPost pQ Tryz.f51 λr w'=>r=.returned (.bool (aG x ⟨13,a,b,n,s,t,u⟩))∧aa ag w w') ⟨#[O (some ⟨g,0,none⟩),.agg #[I J 13,I J a,I J b,I J n,V s,V t,V u],undef,O (some ⟨be,0,none⟩),.bool false,u5,.bool (bl bh.id a x.fols),u7,.bool (bl aX.id a x.fees),u9,.bool (bl aR.id a x.itms),u11,.bool (bl ce.id a x.seas),u13,u14,u15,u16,cG,cH,cI,cR,cS,cT,u23,u24,cN,u26,dc,u28,dm,dp,dr,u32,u33,df,dg,u36,dt,u38,dB,dC,dO,dP,dQ,u44,u45,dI,dJ,dK,dL,dD,dE,dF,dR,dS,dT,dM,dG,dH,dw,dx,dy,dz,dA,u64,dh,di,dl,cU,cX,fA,fB,fF,fG,fw,iO,iP,iQ,jN,jO,jP,jQ,jR,jS,jT,jU,jJ,jK,jV,jW,jX,jY,kZ,k9,lc,nd,nT,nU,nV,nW,fH,fJ,fK,fM,fO,fP,fQ,fU,ej,eo,ep,ew,ey,eA,eB,eC,eD,eF,eG,eH,eI,eJ,eK,eM,eO,eP,eQ,eU,eV,eW,eX,eY,eZ,fh,fj,fk,fl,fp,u138,fq,fV,fW,fX,fY,fZ,gb,gc,gg,gh,gS,gT,gU,gV,gW,gX,gY,gZ,g9,hZ,ie,ig,ii,jZ,j9,iW,iX,iY,iZ,i7,ja,jb,jc,jd,je,jf,jg,jh,ji,jk,jl,jm,jn,jo,jp,jq,jr,js,jt,ju,jw,jz,jA,jB,u193,jC,jD,ke,kg,u198,kh,ki,kj,km,ko,lG,lH,lI,lJ,lK,lL,lM,lN,lO,lQ,lh,li,lj,lm,lp,lq,lr,ox,oy,oz,oB,oC,oD,oF,oG,oH,oI,oJ,oK,oL,oM,oN,oO,oP,oQ,oT,oU,oV,oW,oX,oY,oZ,o0,o8,o9,pc,pd,pg,pj,pk],[]⟩ wc:=by
 have mS:Hid (aH wc g M x):=hS;have nY:Hid (aa ag w wc):=hF;have lS:Hid (aj wc be 42 #[I J 13,I J a,I J b,I J n,V s,V t,V u]):=hB;have En:=fR wc;obtain⟨c0,c1,c2,c3,c4,c5,c6,c7,c8,c9,c10,c11,c12⟩:=mS.out.cells;obtain⟨d0,d1,d2,d3,d4,d5,d6⟩:=az hB;clear hS hF hB;simp only[ai,ae,Tryz.f51]
 have HE:Hid (aG x ⟨13,a,b,n,s,t,u⟩=(decide (x.clock≤n))):=by
  unfold Hid aG;rw[if_neg (by rw[he];simp)];simp
 have q0:∀y:FW (aa ag wc),y.w.cell? ⟨g,0,none⟩=some (I J x.clock):=λy=>(y.h.cell (gO c0) id).trans c0
 have p3:∀y:FW (aa ag wc),y.w.cell? ⟨be,3,none⟩=some (I J n):=λy=>(y.h.cell (gO d3) id).trans d3
 clear c1 c2 c3 c4 c5 c6 c7 c8 c9 c10 c11 c12;go_wp2_with fail;refine ak (aa ag wc) ((fR wc).drew) (by kernel_rfl) (by kernel_rfl) ?_
 repeat (go_big_quiet_step (first
  | (rename_i y;go_at_call 100;refine y.call (KW y) ?_;exact λw' hf=>y.h.trans hf)
  | (rename_i y;go_at_call 101;refine y.call (KD y) ?_;exact λw' hf=>y.h.trans hf)
  | fail))
 refine wpQuiet_nil ?_;rintro w2 ⟨⟨_,hf2⟩,rfl⟩;go_wp2;go_ret;exact⟨af (by rw[HE.out];try simp[*]),nY.out.trans hf2⟩
end Go.Proofs.YtaecjmiobllhmaaGreat
