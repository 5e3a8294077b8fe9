/- Words. -/
import Derived.Test.YtaecjmiobllhmaaGreatGq16
set_option linter.unusedVariables false
set_option linter.unusedSimpArgs false
set_option maxRecDepth 100000
set_option maxHeartbeats 16000000
namespace Go.Proofs.YtaecjmiobllhmaaGreat
open Go.Value renaming int→I,string→V,slice→U,pointer→O
open Go.IntKind renaming i64→J
open Tryz renaming prog→pQ
open Go.RowKit Go.Lib
variable {w wc:World}{g be:Nat}{M:Ms}{x:St}{u5 u7 u9 u11 u13 u14 u15 u16 eG eH eI eJ eK eM u23 u24 eO u26 eW u28 eX eY eZ u32 u33 fh fj u36 fk u38 fw fx fy fG fH u44 u45 fJ fK gC gD gw gy gj gl gm gp fM fO fP fQ fU fV fW fX u64 fY fZ gc gg gF gO gP gQ gR gS gT gU gV gW gX gY gZ g9 hZ ie ig ii ij il im io ip iw ix iy iz iJ iK iM iO cJ cK cL cM cN cO cP cQ bH bI bJ bK bM bN bO bP bQ bR bS bT bU bV bW bX bY bZ cd cg cj cn cq ct cz cA cC cD cE cF u138 cG cR cS cT cU dz dA dB dC dD dS dT dU dV dW ki kj km ko kq kr kt ku kw kz jt ju jv jw jx jy jz jA jB jC jD jE jF jG jH jI jJ jK jL jM jN jO jP jQ jR jS jT jU jV u193 jW jX kA kB u198 kC kD kE kF kG lN lO lQ lR lS lT lU lV lW lX lw lz lA lB lC lD lF oo oq ot ow ox oy oz oB oC oD oF oG oH oI oJ oK oL oM oN oO oP oQ oT oU oV oW oX oY oZ o0 o8 o9 pc:Value}
theorem KV(hS:aw wc g M x)(hF:aa ac w wc)(a b n:Int)(s t u:ByteArray)(hB:ai wc be 42 #[I J 10,I J a,I J b,I J n,V s,V t,V u])(he:aQ ⟨10,a,b,n,s,t,u⟩=true)(ha:bj a)(hb:bj b):
  Code.wp pQ (aj 6 (ae Tryz.f51)) (bodyPost pQ Tryz.f51 λr w'=>r=.returned (.bool (av x ⟨10,a,b,n,s,t,u⟩))∧aa ac w w') ⟨#[O (some ⟨g,0,none⟩),.agg #[I J 10,I J a,I J b,I J n,V s,V t,V u],undef,O (some ⟨be,0,none⟩),.bool false,u5,.bool (aS bg.id a x.fols),u7,.bool (aS aP.id a x.fees),u9,.bool (aS aJ.id a x.itms),u11,.bool (aS dE.id a x.seas),u13,u14,u15,u16,eG,eH,eI,eJ,eK,eM,u23,u24,eO,u26,eW,u28,eX,eY,eZ,u32,u33,fh,fj,u36,fk,u38,fw,fx,fy,fG,fH,u44,u45,fJ,fK,gC,gD,gw,gy,gj,gl,gm,gp,fM,fO,fP,fQ,fU,fV,fW,fX,u64,fY,fZ,gc,gg,gF,gO,gP,gQ,gR,gS,gT,gU,gV,gW,gX,gY,gZ,g9,hZ,ie,ig,ii,ij,il,im,io,ip,iw,ix,iy,iz,iJ,iK,iM,iO,cJ,cK,cL,cM,cN,cO,cP,cQ,bH,bI,bJ,bK,bM,bN,bO,bP,bQ,bR,bS,bT,bU,bV,bW,bX,bY,bZ,cd,cg,cj,cn,cq,ct,cz,cA,cC,cD,cE,cF,u138,cG,cR,cS,cT,cU,dz,dA,dB,dC,dD,dS,dT,dU,dV,dW,ki,kj,km,ko,kq,kr,kt,ku,kw,kz,jt,ju,jv,jw,jx,jy,jz,jA,jB,jC,jD,jE,jF,jG,jH,jI,jJ,jK,jL,jM,jN,jO,jP,jQ,jR,jS,jT,jU,jV,u193,jW,jX,kA,kB,u198,kC,kD,kE,kF,kG,lN,lO,lQ,lR,lS,lT,lU,lV,lW,lX,lw,lz,lA,lB,lC,lD,lF,oo,oq,ot,ow,ox,oy,oz,oB,oC,oD,oF,oG,oH,oI,oJ,oK,oL,oM,oN,oO,oP,oQ,oT,oU,oV,oW,oX,oY,oZ,o0,o8,o9,pc],[]⟩ wc:=by
 have mS:Hid (aw wc g M x):=hS;have nO:Hid (aa ac w wc):=hF;have fp:Hid (ai wc be 42 #[I J 10,I J a,I J b,I J n,V s,V t,V u]):=hB;have E3:=fR wc;obtain⟨c0,c1,c2,c3,c4,c5,c6,c7,c8,c9,c10,c11,c12⟩:=mS.out.cells;obtain⟨d0,d1,d2,d3,d4,d5,d6⟩:=ap hB;clear hS hF hB;simp only[aj,ae,Tryz.f51];have HE:Hid (av x ⟨10,a,b,n,s,t,u⟩=(aS aJ.id a x.itms&&(decide (n=0)||(ag x a).tags.any (λy=>decide (y=s))||decide ((ag x a).tags.length<8)))):=Gb he;go_wp2_with fail;refine(EZ mS.out ha s).mono ?_;rintro r w2 ⟨rfl,wu⟩;have PD:Hid (aw w2 g M x):=mS.out.nix wu;have Nt:=h_ (nO.out.trans wu);have Sk:Hid (ai w2 be 42 #[I J 10,I J a,I J b,I J n,V s,V t,V u]):=(fp.out.frm E3 id).frm wu id;obtain⟨v,UY⟩:=PD.out.itmSl ha;clear c0 c1 c2 c3 c4 c5 c6 c7 c8 c9 c10 c11 c12 d0 d1 d2 d3 d4 d5 d6;have q3:∀y:FW (aa ac w2),y.w.cell? ⟨g,3,none⟩=some (.map (some M.it)):=λy=>(PD.out.nix y.h).cells.2.2.2.1
 have p1:∀y:FW (aa ac w2),y.w.cell? ⟨be,1,none⟩=some (I J a):=λy=>(ap (Sk.out.frm y.h id)).2.1
 have p3:∀y:FW (aa ac w2),y.w.cell? ⟨be,3,none⟩=some (I J n):=λy=>(ap (Sk.out.frm y.h id)).2.2.2.1
 have d3:=(ap Sk.out).2.2.2.1;have nl:∀y:FW (aa ac w2),(Instr.lookup 108 (.map (some M.it)) (I J a) false).run pQ y.w=.ok (.agg (nj v (ag x a))) y.w:=λy=>(UY _ y.h).2 false
 have Na:∀y:FW (aa ac w2),(Instr.field 82 (.agg #[I J (ag x a).id,I J (ag x a).feed,I J (ag x a).date,V (ag x a).guid,V (ag x a).title,V (ag x a).link,.bool (ag x a).read,.bool (ag x a).star,U v.1 (ag x a).tags.length v.2]) 8).run pQ y.w=.ok (U v.1 (ag x a).tags.length v.2) y.w:=λy=>tZ v (ag x a) y.w
 unfold nj at nl;clear UY;generalize aS aJ.id a x.itms=ia at *;generalize ((ag x a).tags.any λy=>decide (y=s))=hs at *;generalize ag x a=q at *
 cases ia
 ·skip
  go_wp2_with fail;refine au (aa ac w2) ((fR w2).drew) (by kernel_rfl) (by kernel_rfl) ?_
  repeat (go_big_quiet_step (fail))
  refine wpQuiet_nil ?_;rintro w3 ⟨⟨_,hf2⟩,rfl⟩;go_wp2;go_ret;exact⟨af (by rw[HE.out];try simp[*]),Nt.out.trans hf2⟩
 ·by_cases hn:n=0
  ·have kn:(n==0)=true:=by simp[hn]
   subst hn;go_wp2_with fail;refine au (aa ac w2) ((fR w2).drew) (by kernel_rfl) (by kernel_rfl) ?_
   repeat (go_big_quiet_step (fail))
   refine wpQuiet_nil ?_;rintro w3 ⟨⟨_,hf2⟩,rfl⟩;go_wp2;go_ret;exact⟨af (by rw[HE.out];try simp[*]),Nt.out.trans hf2⟩
  ·have kn:(n==0)=false:=by simp[hn]
   cases hs
   ·by_cases hl:q.tags.length<8
    ·have kl:decide ((q.tags.length:Int)<8)=true:=by simp;omega
     go_wp2_with fail;refine au (aa ac w2) ((fR w2).drew) (by kernel_rfl) (by kernel_rfl) ?_
     repeat (go_big_quiet_step (fail))
     refine wpQuiet_nil ?_;rintro w3 ⟨⟨_,hf2⟩,rfl⟩;go_wp2;go_ret;exact⟨af (by rw[HE.out];try simp[*]),Nt.out.trans hf2⟩
    ·have kl:decide ((q.tags.length:Int)<8)=false:=by simp;omega
     go_wp2_with fail;refine au (aa ac w2) ((fR w2).drew) (by kernel_rfl) (by kernel_rfl) ?_
     repeat (go_big_quiet_step (fail))
     refine wpQuiet_nil ?_;rintro w3 ⟨⟨_,hf2⟩,rfl⟩;go_wp2;go_ret;exact⟨af (by rw[HE.out];try simp[*]),Nt.out.trans hf2⟩
   ·skip
    go_wp2_with fail;refine au (aa ac w2) ((fR w2).drew) (by kernel_rfl) (by kernel_rfl) ?_
    repeat (go_big_quiet_step (fail))
    refine wpQuiet_nil ?_;rintro w3 ⟨⟨_,hf2⟩,rfl⟩;go_wp2;go_ret;exact⟨af (by rw[HE.out];try simp[*]),Nt.out.trans hf2⟩
theorem KX(hS:aw wc g M x)(hF:aa ac w wc)(a b n:Int)(s t u:ByteArray)(hB:ai wc be 42 #[I J 11,I J a,I J b,I J n,V s,V t,V u])(he:aQ ⟨11,a,b,n,s,t,u⟩=true)(ha:bj a)(hb:bj b):
  Code.wp pQ (aj 6 (ae Tryz.f51)) (bodyPost pQ Tryz.f51 λr w'=>r=.returned (.bool (av x ⟨11,a,b,n,s,t,u⟩))∧aa ac w w') ⟨#[O (some ⟨g,0,none⟩),.agg #[I J 11,I J a,I J b,I J n,V s,V t,V u],undef,O (some ⟨be,0,none⟩),.bool false,u5,.bool (aS bg.id a x.fols),u7,.bool (aS aP.id a x.fees),u9,.bool (aS aJ.id a x.itms),u11,.bool (aS dE.id a x.seas),u13,u14,u15,u16,eG,eH,eI,eJ,eK,eM,u23,u24,eO,u26,eW,u28,eX,eY,eZ,u32,u33,fh,fj,u36,fk,u38,fw,fx,fy,fG,fH,u44,u45,fJ,fK,gC,gD,gw,gy,gj,gl,gm,gp,fM,fO,fP,fQ,fU,fV,fW,fX,u64,fY,fZ,gc,gg,gF,gO,gP,gQ,gR,gS,gT,gU,gV,gW,gX,gY,gZ,g9,hZ,ie,ig,ii,ij,il,im,io,ip,iw,ix,iy,iz,iJ,iK,iM,iO,cJ,cK,cL,cM,cN,cO,cP,cQ,bH,bI,bJ,bK,bM,bN,bO,bP,bQ,bR,bS,bT,bU,bV,bW,bX,bY,bZ,cd,cg,cj,cn,cq,ct,cz,cA,cC,cD,cE,cF,u138,cG,cR,cS,cT,cU,dz,dA,dB,dC,dD,dS,dT,dU,dV,dW,ki,kj,km,ko,kq,kr,kt,ku,kw,kz,jt,ju,jv,jw,jx,jy,jz,jA,jB,jC,jD,jE,jF,jG,jH,jI,jJ,jK,jL,jM,jN,jO,jP,jQ,jR,jS,jT,jU,jV,u193,jW,jX,kA,kB,u198,kC,kD,kE,kF,kG,lN,lO,lQ,lR,lS,lT,lU,lV,lW,lX,lw,lz,lA,lB,lC,lD,lF,oo,oq,ot,ow,ox,oy,oz,oB,oC,oD,oF,oG,oH,oI,oJ,oK,oL,oM,oN,oO,oP,oQ,oT,oU,oV,oW,oX,oY,oZ,o0,o8,o9,pc],[]⟩ wc:=by
 have mS:Hid (aw wc g M x):=hS;have nO:Hid (aa ac w wc):=hF;have fp:Hid (ai wc be 42 #[I J 11,I J a,I J b,I J n,V s,V t,V u]):=hB;have E3:=fR wc;obtain⟨c0,c1,c2,c3,c4,c5,c6,c7,c8,c9,c10,c11,c12⟩:=mS.out.cells;obtain⟨d0,d1,d2,d3,d4,d5,d6⟩:=ap hB;clear hS hF hB;simp only[aj,ae,Tryz.f51]
 have HE:Hid (av x ⟨11,a,b,n,s,t,u⟩=(!aS dE.id a x.seas&&decide (x.seas.length<32))):=by
  unfold Hid av;rw[if_neg (by rw[he];simp)];simp
 have ln:∀(ty:TypeId),(Builtin.len_ #[109] ty #[.map (some M.se)]).run pQ wc=.ok (I J x.seas.length) wc:=λty=>by
  have:=mS.out.maps.se.len (P:=pQ) Tryz.underlying109 ty
  simpa using this
 generalize aS dE.id a x.seas=ia at *;generalize x.seas.length=ll at *
 cases ia
 all_goals
  go_wp2_with fail;go_ret;exact⟨af (by rw[HE.out];try (simp;try omega)),nO.out⟩
theorem KY(hS:aw wc g M x)(hF:aa ac w wc)(a b n:Int)(s t u:ByteArray)(hB:ai wc be 42 #[I J 12,I J a,I J b,I J n,V s,V t,V u])(he:aQ ⟨12,a,b,n,s,t,u⟩=true)(ha:bj a)(hb:bj b):
  Code.wp pQ (aj 6 (ae Tryz.f51)) (bodyPost pQ Tryz.f51 λr w'=>r=.returned (.bool (av x ⟨12,a,b,n,s,t,u⟩))∧aa ac w w') ⟨#[O (some ⟨g,0,none⟩),.agg #[I J 12,I J a,I J b,I J n,V s,V t,V u],undef,O (some ⟨be,0,none⟩),.bool false,u5,.bool (aS bg.id a x.fols),u7,.bool (aS aP.id a x.fees),u9,.bool (aS aJ.id a x.itms),u11,.bool (aS dE.id a x.seas),u13,u14,u15,u16,eG,eH,eI,eJ,eK,eM,u23,u24,eO,u26,eW,u28,eX,eY,eZ,u32,u33,fh,fj,u36,fk,u38,fw,fx,fy,fG,fH,u44,u45,fJ,fK,gC,gD,gw,gy,gj,gl,gm,gp,fM,fO,fP,fQ,fU,fV,fW,fX,u64,fY,fZ,gc,gg,gF,gO,gP,gQ,gR,gS,gT,gU,gV,gW,gX,gY,gZ,g9,hZ,ie,ig,ii,ij,il,im,io,ip,iw,ix,iy,iz,iJ,iK,iM,iO,cJ,cK,cL,cM,cN,cO,cP,cQ,bH,bI,bJ,bK,bM,bN,bO,bP,bQ,bR,bS,bT,bU,bV,bW,bX,bY,bZ,cd,cg,cj,cn,cq,ct,cz,cA,cC,cD,cE,cF,u138,cG,cR,cS,cT,cU,dz,dA,dB,dC,dD,dS,dT,dU,dV,dW,ki,kj,km,ko,kq,kr,kt,ku,kw,kz,jt,ju,jv,jw,jx,jy,jz,jA,jB,jC,jD,jE,jF,jG,jH,jI,jJ,jK,jL,jM,jN,jO,jP,jQ,jR,jS,jT,jU,jV,u193,jW,jX,kA,kB,u198,kC,kD,kE,kF,kG,lN,lO,lQ,lR,lS,lT,lU,lV,lW,lX,lw,lz,lA,lB,lC,lD,lF,oo,oq,ot,ow,ox,oy,oz,oB,oC,oD,oF,oG,oH,oI,oJ,oK,oL,oM,oN,oO,oP,oQ,oT,oU,oV,oW,oX,oY,oZ,o0,o8,o9,pc],[]⟩ wc:=by
 have mS:Hid (aw wc g M x):=hS;have nO:Hid (aa ac w wc):=hF;have fp:Hid (ai wc be 42 #[I J 12,I J a,I J b,I J n,V s,V t,V u]):=hB;have E3:=fR wc;obtain⟨c0,c1,c2,c3,c4,c5,c6,c7,c8,c9,c10,c11,c12⟩:=mS.out.cells;obtain⟨d0,d1,d2,d3,d4,d5,d6⟩:=ap hB;clear hS hF hB;simp only[aj,ae,Tryz.f51]
 have HE:Hid (av x ⟨12,a,b,n,s,t,u⟩=(aS dE.id a x.seas)):=by
  unfold Hid av;rw[if_neg (by rw[he];simp)];simp
 go_wp2_with (first
  | (go_at_call 100;refine(kO mS.out hb).mono ?_;rintro r w2 ⟨rfl,hf2⟩)
  | fail)
 go_ret;exact⟨af (by rw[HE.out];try simp[*]),by first|exact nO.out|exact nO.out.trans hf2⟩
theorem KZ(hS:aw wc g M x)(hF:aa ac w wc)(a b n:Int)(s t u:ByteArray)(hB:ai wc be 42 #[I J 13,I J a,I J b,I J n,V s,V t,V u])(he:aQ ⟨13,a,b,n,s,t,u⟩=true)(ha:bj a)(hb:bj b):
  Code.wp pQ (aj 6 (ae Tryz.f51)) (bodyPost pQ Tryz.f51 λr w'=>r=.returned (.bool (av x ⟨13,a,b,n,s,t,u⟩))∧aa ac w w') ⟨#[O (some ⟨g,0,none⟩),.agg #[I J 13,I J a,I J b,I J n,V s,V t,V u],undef,O (some ⟨be,0,none⟩),.bool false,u5,.bool (aS bg.id a x.fols),u7,.bool (aS aP.id a x.fees),u9,.bool (aS aJ.id a x.itms),u11,.bool (aS dE.id a x.seas),u13,u14,u15,u16,eG,eH,eI,eJ,eK,eM,u23,u24,eO,u26,eW,u28,eX,eY,eZ,u32,u33,fh,fj,u36,fk,u38,fw,fx,fy,fG,fH,u44,u45,fJ,fK,gC,gD,gw,gy,gj,gl,gm,gp,fM,fO,fP,fQ,fU,fV,fW,fX,u64,fY,fZ,gc,gg,gF,gO,gP,gQ,gR,gS,gT,gU,gV,gW,gX,gY,gZ,g9,hZ,ie,ig,ii,ij,il,im,io,ip,iw,ix,iy,iz,iJ,iK,iM,iO,cJ,cK,cL,cM,cN,cO,cP,cQ,bH,bI,bJ,bK,bM,bN,bO,bP,bQ,bR,bS,bT,bU,bV,bW,bX,bY,bZ,cd,cg,cj,cn,cq,ct,cz,cA,cC,cD,cE,cF,u138,cG,cR,cS,cT,cU,dz,dA,dB,dC,dD,dS,dT,dU,dV,dW,ki,kj,km,ko,kq,kr,kt,ku,kw,kz,jt,ju,jv,jw,jx,jy,jz,jA,jB,jC,jD,jE,jF,jG,jH,jI,jJ,jK,jL,jM,jN,jO,jP,jQ,jR,jS,jT,jU,jV,u193,jW,jX,kA,kB,u198,kC,kD,kE,kF,kG,lN,lO,lQ,lR,lS,lT,lU,lV,lW,lX,lw,lz,lA,lB,lC,lD,lF,oo,oq,ot,ow,ox,oy,oz,oB,oC,oD,oF,oG,oH,oI,oJ,oK,oL,oM,oN,oO,oP,oQ,oT,oU,oV,oW,oX,oY,oZ,o0,o8,o9,pc],[]⟩ wc:=by
 have mS:Hid (aw wc g M x):=hS;have nO:Hid (aa ac w wc):=hF;have fp:Hid (ai wc be 42 #[I J 13,I J a,I J b,I J n,V s,V t,V u]):=hB;have E3:=fR wc;obtain⟨c0,c1,c2,c3,c4,c5,c6,c7,c8,c9,c10,c11,c12⟩:=mS.out.cells;obtain⟨d0,d1,d2,d3,d4,d5,d6⟩:=ap hB;clear hS hF hB;simp only[aj,ae,Tryz.f51]
 have HE:Hid (av x ⟨13,a,b,n,s,t,u⟩=(decide (x.clock≤n))):=by
  unfold Hid av;rw[if_neg (by rw[he];simp)];simp
 have q0:∀y:FW (aa ac wc),y.w.cell? ⟨g,0,none⟩=some (I J x.clock):=λy=>(y.h.cell (iG c0) id).trans c0
 have p3:∀y:FW (aa ac wc),y.w.cell? ⟨be,3,none⟩=some (I J n):=λy=>(y.h.cell (iG d3) id).trans d3
 clear c1 c2 c3 c4 c5 c6 c7 c8 c9 c10 c11 c12;go_wp2_with fail;refine au (aa ac wc) ((fR wc).drew) (by kernel_rfl) (by kernel_rfl) ?_
 repeat (go_big_quiet_step (first
  | (rename_i y;go_at_call 100;refine y.call (KW y) ?_;exact λw' hf=>y.h.trans hf)
  | (rename_i y;go_at_call 101;refine y.call (KD y) ?_;exact λw' hf=>y.h.trans hf)
  | fail))
 refine wpQuiet_nil ?_;rintro w2 ⟨⟨_,hf2⟩,rfl⟩;go_wp2;go_ret;exact⟨af (by rw[HE.out];try simp[*]),nO.out.trans hf2⟩
end Go.Proofs.YtaecjmiobllhmaaGreat
