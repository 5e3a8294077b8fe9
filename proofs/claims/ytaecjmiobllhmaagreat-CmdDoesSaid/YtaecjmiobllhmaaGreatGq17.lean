/- Words. -/
import Derived.Test.YtaecjmiobllhmaaGreatGq16
set_option linter.unusedVariables false
set_option linter.unusedSimpArgs false
set_option maxRecDepth 100000
set_option maxHeartbeats 16000000
namespace Go.Proofs.YtaecjmiobllhmaaGreat
open Go.Value renaming int→I,string→V,pointer→O
open Go.IntKind renaming i64→J
open Tryz renaming prog→pQ
open Go.RowKit Go.Lib
variable {w wc:World}{g be:Nat}{M:Ms}{x:St}{u5 u7 u9 u11 u13 u14 u15 u16 eG eH eI eJ eK eM u23 u24 eO u26 eW u28 eX eY eZ u32 u33 fh fj u36 fk u38 fw fx fy fG fH u44 u45 fJ fK gC gD gw gy gj gl gm gp fM fO fP fQ fU fV fW fX u64 fY fZ gc gg gF gO gP gQ gR gS gT gU gV gW gX gY gZ g9 hZ ie ig ii ij il im io ip iw ix iy iz iJ iK iM iO cJ cK cL cM cN cO cP cQ bH bI bJ bK bM bN bO bP bQ bR bS bT bU bV bW bX bY bZ cd cg cj cn cq ct cz cA cC cD cE cF u138 cG cR cS cT cU dz dA dB dC dD dS dT dU dV dW ki kj km ko kq kr kt ku kw kz jt ju jv jw jx jy jz jA jB jC jD jE jF jG jH jI jJ jK jL jM jN jO jP jQ jR jS jT jU jV u193 jW jX kA kB u198 kC kD kE kF kG lN lO lQ lR lS lT lU lV lW lX lw lz lA lB lC lD lF oo oq ot ow ox oy oz oB oC oD oF oG oH oI oJ oK oL oM oN oO oP oQ oT oU oV oW oX oY oZ o0 o8 o9 pc:Value}
theorem Nn(hS:aw wc g M x)(hF:aa ac w wc)(a b n:Int)(s t u:ByteArray)(hB:ai wc be 42 #[I J 4,I J a,I J b,I J n,V s,V t,V u])(he:aQ ⟨4,a,b,n,s,t,u⟩=true)(ha:bj a)(hb:bj b):
  Code.wp pQ (aj 6 (ae Tryz.f51)) (bodyPost pQ Tryz.f51 λr w'=>r=.returned (.bool (av x ⟨4,a,b,n,s,t,u⟩))∧aa ac w w') ⟨#[O (some ⟨g,0,none⟩),.agg #[I J 4,I J a,I J b,I J n,V s,V t,V u],undef,O (some ⟨be,0,none⟩),.bool false,u5,.bool (aS bg.id a x.fols),u7,.bool (aS aP.id a x.fees),u9,.bool (aS aJ.id a x.itms),u11,.bool (aS dE.id a x.seas),u13,u14,u15,u16,eG,eH,eI,eJ,eK,eM,u23,u24,eO,u26,eW,u28,eX,eY,eZ,u32,u33,fh,fj,u36,fk,u38,fw,fx,fy,fG,fH,u44,u45,fJ,fK,gC,gD,gw,gy,gj,gl,gm,gp,fM,fO,fP,fQ,fU,fV,fW,fX,u64,fY,fZ,gc,gg,gF,gO,gP,gQ,gR,gS,gT,gU,gV,gW,gX,gY,gZ,g9,hZ,ie,ig,ii,ij,il,im,io,ip,iw,ix,iy,iz,iJ,iK,iM,iO,cJ,cK,cL,cM,cN,cO,cP,cQ,bH,bI,bJ,bK,bM,bN,bO,bP,bQ,bR,bS,bT,bU,bV,bW,bX,bY,bZ,cd,cg,cj,cn,cq,ct,cz,cA,cC,cD,cE,cF,u138,cG,cR,cS,cT,cU,dz,dA,dB,dC,dD,dS,dT,dU,dV,dW,ki,kj,km,ko,kq,kr,kt,ku,kw,kz,jt,ju,jv,jw,jx,jy,jz,jA,jB,jC,jD,jE,jF,jG,jH,jI,jJ,jK,jL,jM,jN,jO,jP,jQ,jR,jS,jT,jU,jV,u193,jW,jX,kA,kB,u198,kC,kD,kE,kF,kG,lN,lO,lQ,lR,lS,lT,lU,lV,lW,lX,lw,lz,lA,lB,lC,lD,lF,oo,oq,ot,ow,ox,oy,oz,oB,oC,oD,oF,oG,oH,oI,oJ,oK,oL,oM,oN,oO,oP,oQ,oT,oU,oV,oW,oX,oY,oZ,o0,o8,o9,pc],[]⟩ wc:=by
 have mS:Hid (aw wc g M x):=hS;have nO:Hid (aa ac w wc):=hF;have fp:Hid (ai wc be 42 #[I J 4,I J a,I J b,I J n,V s,V t,V u]):=hB;have E3:=fR wc;obtain⟨c0,c1,c2,c3,c4,c5,c6,c7,c8,c9,c10,c11,c12⟩:=mS.out.cells;obtain⟨d0,d1,d2,d3,d4,d5,d6⟩:=ap hB;clear hS hF hB;simp only[aj,ae,Tryz.f51]
 have HE:Hid (av x ⟨4,a,b,n,s,t,u⟩=(aS aP.id a x.fees)):=by
  unfold Hid av;rw[if_neg (by rw[he];simp)];simp
 go_wp2_with (first
  | (go_at_call 100;refine(kO mS.out hb).mono ?_;rintro r w2 ⟨rfl,hf2⟩)
  | fail)
 go_ret;exact⟨af (by rw[HE.out];try simp[*]),by first|exact nO.out|exact nO.out.trans hf2⟩
theorem Np(hS:aw wc g M x)(hF:aa ac w wc)(a b n:Int)(s t u:ByteArray)(hB:ai wc be 42 #[I J 5,I J a,I J b,I J n,V s,V t,V u])(he:aQ ⟨5,a,b,n,s,t,u⟩=true)(ha:bj a)(hb:bj b):
  Code.wp pQ (aj 6 (ae Tryz.f51)) (bodyPost pQ Tryz.f51 λr w'=>r=.returned (.bool (av x ⟨5,a,b,n,s,t,u⟩))∧aa ac w w') ⟨#[O (some ⟨g,0,none⟩),.agg #[I J 5,I J a,I J b,I J n,V s,V t,V u],undef,O (some ⟨be,0,none⟩),.bool false,u5,.bool (aS bg.id a x.fols),u7,.bool (aS aP.id a x.fees),u9,.bool (aS aJ.id a x.itms),u11,.bool (aS dE.id a x.seas),u13,u14,u15,u16,eG,eH,eI,eJ,eK,eM,u23,u24,eO,u26,eW,u28,eX,eY,eZ,u32,u33,fh,fj,u36,fk,u38,fw,fx,fy,fG,fH,u44,u45,fJ,fK,gC,gD,gw,gy,gj,gl,gm,gp,fM,fO,fP,fQ,fU,fV,fW,fX,u64,fY,fZ,gc,gg,gF,gO,gP,gQ,gR,gS,gT,gU,gV,gW,gX,gY,gZ,g9,hZ,ie,ig,ii,ij,il,im,io,ip,iw,ix,iy,iz,iJ,iK,iM,iO,cJ,cK,cL,cM,cN,cO,cP,cQ,bH,bI,bJ,bK,bM,bN,bO,bP,bQ,bR,bS,bT,bU,bV,bW,bX,bY,bZ,cd,cg,cj,cn,cq,ct,cz,cA,cC,cD,cE,cF,u138,cG,cR,cS,cT,cU,dz,dA,dB,dC,dD,dS,dT,dU,dV,dW,ki,kj,km,ko,kq,kr,kt,ku,kw,kz,jt,ju,jv,jw,jx,jy,jz,jA,jB,jC,jD,jE,jF,jG,jH,jI,jJ,jK,jL,jM,jN,jO,jP,jQ,jR,jS,jT,jU,jV,u193,jW,jX,kA,kB,u198,kC,kD,kE,kF,kG,lN,lO,lQ,lR,lS,lT,lU,lV,lW,lX,lw,lz,lA,lB,lC,lD,lF,oo,oq,ot,ow,ox,oy,oz,oB,oC,oD,oF,oG,oH,oI,oJ,oK,oL,oM,oN,oO,oP,oQ,oT,oU,oV,oW,oX,oY,oZ,o0,o8,o9,pc],[]⟩ wc:=by
 have mS:Hid (aw wc g M x):=hS;have nO:Hid (aa ac w wc):=hF;have fp:Hid (ai wc be 42 #[I J 5,I J a,I J b,I J n,V s,V t,V u]):=hB;have E3:=fR wc;obtain⟨c0,c1,c2,c3,c4,c5,c6,c7,c8,c9,c10,c11,c12⟩:=mS.out.cells;obtain⟨d0,d1,d2,d3,d4,d5,d6⟩:=ap hB;clear hS hF hB;simp only[aj,ae,Tryz.f51]
 have HE:Hid (av x ⟨5,a,b,n,s,t,u⟩=(aS aP.id a x.fees)):=by
  unfold Hid av;rw[if_neg (by rw[he];simp)];simp
 go_wp2_with (first
  | (go_at_call 100;refine(kO mS.out hb).mono ?_;rintro r w2 ⟨rfl,hf2⟩)
  | fail)
 go_ret;exact⟨af (by rw[HE.out];try simp[*]),by first|exact nO.out|exact nO.out.trans hf2⟩
theorem Nq(hS:aw wc g M x)(hF:aa ac w wc)(a b n:Int)(s t u:ByteArray)(hB:ai wc be 42 #[I J 6,I J a,I J b,I J n,V s,V t,V u])(he:aQ ⟨6,a,b,n,s,t,u⟩=true)(ha:bj a)(hb:bj b):
  Code.wp pQ (aj 6 (ae Tryz.f51)) (bodyPost pQ Tryz.f51 λr w'=>r=.returned (.bool (av x ⟨6,a,b,n,s,t,u⟩))∧aa ac w w') ⟨#[O (some ⟨g,0,none⟩),.agg #[I J 6,I J a,I J b,I J n,V s,V t,V u],undef,O (some ⟨be,0,none⟩),.bool false,u5,.bool (aS bg.id a x.fols),u7,.bool (aS aP.id a x.fees),u9,.bool (aS aJ.id a x.itms),u11,.bool (aS dE.id a x.seas),u13,u14,u15,u16,eG,eH,eI,eJ,eK,eM,u23,u24,eO,u26,eW,u28,eX,eY,eZ,u32,u33,fh,fj,u36,fk,u38,fw,fx,fy,fG,fH,u44,u45,fJ,fK,gC,gD,gw,gy,gj,gl,gm,gp,fM,fO,fP,fQ,fU,fV,fW,fX,u64,fY,fZ,gc,gg,gF,gO,gP,gQ,gR,gS,gT,gU,gV,gW,gX,gY,gZ,g9,hZ,ie,ig,ii,ij,il,im,io,ip,iw,ix,iy,iz,iJ,iK,iM,iO,cJ,cK,cL,cM,cN,cO,cP,cQ,bH,bI,bJ,bK,bM,bN,bO,bP,bQ,bR,bS,bT,bU,bV,bW,bX,bY,bZ,cd,cg,cj,cn,cq,ct,cz,cA,cC,cD,cE,cF,u138,cG,cR,cS,cT,cU,dz,dA,dB,dC,dD,dS,dT,dU,dV,dW,ki,kj,km,ko,kq,kr,kt,ku,kw,kz,jt,ju,jv,jw,jx,jy,jz,jA,jB,jC,jD,jE,jF,jG,jH,jI,jJ,jK,jL,jM,jN,jO,jP,jQ,jR,jS,jT,jU,jV,u193,jW,jX,kA,kB,u198,kC,kD,kE,kF,kG,lN,lO,lQ,lR,lS,lT,lU,lV,lW,lX,lw,lz,lA,lB,lC,lD,lF,oo,oq,ot,ow,ox,oy,oz,oB,oC,oD,oF,oG,oH,oI,oJ,oK,oL,oM,oN,oO,oP,oQ,oT,oU,oV,oW,oX,oY,oZ,o0,o8,o9,pc],[]⟩ wc:=by
 have mS:Hid (aw wc g M x):=hS;have nO:Hid (aa ac w wc):=hF;have fp:Hid (ai wc be 42 #[I J 6,I J a,I J b,I J n,V s,V t,V u]):=hB;have E3:=fR wc;obtain⟨c0,c1,c2,c3,c4,c5,c6,c7,c8,c9,c10,c11,c12⟩:=mS.out.cells;obtain⟨d0,d1,d2,d3,d4,d5,d6⟩:=ap hB;clear hS hF hB;simp only[aj,ae,Tryz.f51]
 have HE:Hid (av x ⟨6,a,b,n,s,t,u⟩=(aS aP.id a x.fees&&eQ x b)):=by
  unfold Hid av;rw[if_neg (by rw[he];simp)];simp
 cases WA:aS aP.id a x.fees
 all_goals
  go_wp2_with (first
   | (go_at_call 100;refine(kO mS.out hb).mono ?_;rintro r w2 ⟨rfl,hf2⟩)
   | fail)
  go_ret;exact⟨af (by rw[HE.out,WA];simp),by first|exact nO.out|exact nO.out.trans hf2⟩
theorem Nr(hS:aw wc g M x)(hF:aa ac w wc)(a b n:Int)(s t u:ByteArray)(hB:ai wc be 42 #[I J 7,I J a,I J b,I J n,V s,V t,V u])(he:aQ ⟨7,a,b,n,s,t,u⟩=true)(ha:bj a)(hb:bj b):
  Code.wp pQ (aj 6 (ae Tryz.f51)) (bodyPost pQ Tryz.f51 λr w'=>r=.returned (.bool (av x ⟨7,a,b,n,s,t,u⟩))∧aa ac w w') ⟨#[O (some ⟨g,0,none⟩),.agg #[I J 7,I J a,I J b,I J n,V s,V t,V u],undef,O (some ⟨be,0,none⟩),.bool false,u5,.bool (aS bg.id a x.fols),u7,.bool (aS aP.id a x.fees),u9,.bool (aS aJ.id a x.itms),u11,.bool (aS dE.id a x.seas),u13,u14,u15,u16,eG,eH,eI,eJ,eK,eM,u23,u24,eO,u26,eW,u28,eX,eY,eZ,u32,u33,fh,fj,u36,fk,u38,fw,fx,fy,fG,fH,u44,u45,fJ,fK,gC,gD,gw,gy,gj,gl,gm,gp,fM,fO,fP,fQ,fU,fV,fW,fX,u64,fY,fZ,gc,gg,gF,gO,gP,gQ,gR,gS,gT,gU,gV,gW,gX,gY,gZ,g9,hZ,ie,ig,ii,ij,il,im,io,ip,iw,ix,iy,iz,iJ,iK,iM,iO,cJ,cK,cL,cM,cN,cO,cP,cQ,bH,bI,bJ,bK,bM,bN,bO,bP,bQ,bR,bS,bT,bU,bV,bW,bX,bY,bZ,cd,cg,cj,cn,cq,ct,cz,cA,cC,cD,cE,cF,u138,cG,cR,cS,cT,cU,dz,dA,dB,dC,dD,dS,dT,dU,dV,dW,ki,kj,km,ko,kq,kr,kt,ku,kw,kz,jt,ju,jv,jw,jx,jy,jz,jA,jB,jC,jD,jE,jF,jG,jH,jI,jJ,jK,jL,jM,jN,jO,jP,jQ,jR,jS,jT,jU,jV,u193,jW,jX,kA,kB,u198,kC,kD,kE,kF,kG,lN,lO,lQ,lR,lS,lT,lU,lV,lW,lX,lw,lz,lA,lB,lC,lD,lF,oo,oq,ot,ow,ox,oy,oz,oB,oC,oD,oF,oG,oH,oI,oJ,oK,oL,oM,oN,oO,oP,oQ,oT,oU,oV,oW,oX,oY,oZ,o0,o8,o9,pc],[]⟩ wc:=by
 have mS:Hid (aw wc g M x):=hS;have nO:Hid (aa ac w wc):=hF;have fp:Hid (ai wc be 42 #[I J 7,I J a,I J b,I J n,V s,V t,V u]):=hB;have E3:=fR wc;obtain⟨c0,c1,c2,c3,c4,c5,c6,c7,c8,c9,c10,c11,c12⟩:=mS.out.cells;obtain⟨d0,d1,d2,d3,d4,d5,d6⟩:=ap hB;clear hS hF hB;simp only[aj,ae,Tryz.f51]
 have HE:Hid (av x ⟨7,a,b,n,s,t,u⟩=(!aS aJ.id a x.itms&&decide (x.itms.length<1024)&&aS aP.id b x.fees&&decide (ke x b s=0))):=by
  unfold Hid av;rw[if_neg (by rw[he];simp)];simp
 have hsz:s.size≤maxLen:=by
  have h1:=he;rw[Rb] at h1;simp only[Bool.and_eq_true] at h1;have:=nN h1.1.1.2;have:=mz;omega
 have Si:Hid (ai wc be 42 #[I J 7,I J a,I J b,I J n,V s,V t,V u]):=fp.out.frm E3 id
 go_upto_region 20 with fail
 go_cut [13,14] from 160 to 169 (λs13 WB wx=>WB=.bool (aS aP.id b x.fees)∧aa ac wc wx)
 case first=>
  have jg:=fR wc;have nz:aa ac wc (wc.alloc (.cells #[I J 0,I J 0,V {data:=#[]},V {data:=#[]}] 64)):=jg.alloc _;have WC:Hid (∀cs:Array Value,aa ac wc (wc.alloc (.cells cs 64)).drew):=λcs=>(jg.alloc _).drew
  obtain⟨e0,e1,e2,e3,e4,e5,e6,e7,e8,e9,YS,e11,YT⟩:=(mS.out.nix nz).cells;obtain⟨p0,p1,p2,p3,p4,p5,p6⟩:=ap (Si.out.frm nz id);have hl0:=mS.out.feeLook2 hb;have JZ:=(mS.out.nix jg.drew).feeLook2 hb;have hl2:=(mS.out.nix ((jg.alloc (.cells #[I J 0,I J 0,V {data:=#[]},V {data:=#[]}] 64)).drew)).feeLook2 hb;clear nz
  go_region
  all_goals
   go_wp2
   go_meet
   exact⟨rfl,WC.out _⟩
 case rest=>
 obtain⟨rfl,Ns⟩:=hcut;have PD:Hid (aw wc g M x):=mS.out.nix Ns;have Nt:=h_ (nO.out.trans Ns);clear c0 c1 c2 c3 c4 c5 c6 c7 c8 c9 c10 c11 c12 d0 d1 d2 d3 d4 d5 d6;obtain⟨c0,c1,c2,c3,c4,c5,c6,c7,c8,c9,c10,c11,c12⟩:=PD.out.cells;obtain⟨d0,d1,d2,d3,d4,d5,d6⟩:=ap (Si.out.frm Ns id);clear mS nO Si Ns;have mS:=PD;have nO:=Nt;have q3:∀y:FW (aa ac wc),y.w.cell? ⟨g,3,none⟩=some (.map (some M.it)):=λy=>(y.h.cell (iG c3) id).trans c3
 have q7:∀y:FW (aa ac wc),y.w.cell? ⟨g,7,none⟩=some (.map (some M.gu)):=λy=>(y.h.cell (iG c7) id).trans c7
 have p2:∀y:FW (aa ac wc),y.w.cell? ⟨be,2,none⟩=some (I J b):=λy=>(y.h.cell (iG d2) id).trans d2
 have p4:∀y:FW (aa ac wc),y.w.cell? ⟨be,4,none⟩=some (V s):=λy=>(y.h.cell (iG d4) id).trans d4
 obtain⟨YU,Sj,-⟩:=mS.out.maps.it
 have ln:∀(y:FW (aa ac wc)) (ty:TypeId),(Builtin.len_ #[108] ty #[.map (some M.it)]).run pQ y.w=.ok (I J x.itms.length) y.w:=λy ty=>by
  have:=(Sj.frm y.h id).len (P:=pQ) Tryz.underlying108 ty
  simpa using this
 have nl:∀y:FW (aa ac wc),(Instr.lookup 112 (.map (some M.gu)) (.agg #[I J b,V s]) false).run pQ y.w=.ok (I J (ke x b s)) y.w:=λy=>(mS.out.nix y.h).guidLook hb hsz false
 clear c0 c1 c2 c4 c5 c6 c8 c9 c10 c11 c12 hsz Sj;generalize ke x b s=ni at *;generalize aS aJ.id a x.itms=ia at *;generalize aS aP.id b x.fees=ib at *;generalize x.itms.length=ll at *
 cases ia
 ·by_cases h2:ll<1024
  ·have k2:decide ((ll:Int)<1024)=true:=by simp;omega
   cases ib
   ·skip
    go_wp2_with fail;refine au (aa ac wc) ((fR wc).drew) (by kernel_rfl) (by kernel_rfl) ?_
    repeat (go_big_quiet_step (fail))
    refine wpQuiet_nil ?_;rintro w3 ⟨⟨_,hf2⟩,rfl⟩;go_wp2;go_ret;exact⟨af (by rw[HE.out];try simp[*]),nO.out.trans hf2⟩
   ·by_cases h4:ni=0
    ·have Hz:(ni==0)=true:=by simp[h4]
     subst h4;go_wp2_with fail;refine au (aa ac wc) ((fR wc).drew) (by kernel_rfl) (by kernel_rfl) ?_
     repeat (go_big_quiet_step (fail))
     refine wpQuiet_nil ?_;rintro w3 ⟨⟨_,hf2⟩,rfl⟩;go_wp2;go_ret;exact⟨af (by rw[HE.out];try simp[*]),nO.out.trans hf2⟩
    ·have Hz:(ni==0)=false:=by simp[h4]
     go_wp2_with fail;refine au (aa ac wc) ((fR wc).drew) (by kernel_rfl) (by kernel_rfl) ?_
     repeat (go_big_quiet_step (fail))
     refine wpQuiet_nil ?_;rintro w3 ⟨⟨_,hf2⟩,rfl⟩;go_wp2;go_ret;exact⟨af (by rw[HE.out];try simp[*]),nO.out.trans hf2⟩
  ·have k2:decide ((ll:Int)<1024)=false:=by simp;omega
   go_wp2_with fail;refine au (aa ac wc) ((fR wc).drew) (by kernel_rfl) (by kernel_rfl) ?_
   repeat (go_big_quiet_step (fail))
   refine wpQuiet_nil ?_;rintro w3 ⟨⟨_,hf2⟩,rfl⟩;go_wp2;go_ret;exact⟨af (by rw[HE.out];try simp[*]),nO.out.trans hf2⟩
 ·skip
  go_wp2_with fail;refine au (aa ac wc) ((fR wc).drew) (by kernel_rfl) (by kernel_rfl) ?_
  repeat (go_big_quiet_step (fail))
  refine wpQuiet_nil ?_;rintro w3 ⟨⟨_,hf2⟩,rfl⟩;go_wp2;go_ret;exact⟨af (by rw[HE.out];try simp[*]),nO.out.trans hf2⟩
theorem Nu(hS:aw wc g M x)(hF:aa ac w wc)(a b n:Int)(s t u:ByteArray)(hB:ai wc be 42 #[I J 8,I J a,I J b,I J n,V s,V t,V u])(he:aQ ⟨8,a,b,n,s,t,u⟩=true)(ha:bj a)(hb:bj b):
  Code.wp pQ (aj 6 (ae Tryz.f51)) (bodyPost pQ Tryz.f51 λr w'=>r=.returned (.bool (av x ⟨8,a,b,n,s,t,u⟩))∧aa ac w w') ⟨#[O (some ⟨g,0,none⟩),.agg #[I J 8,I J a,I J b,I J n,V s,V t,V u],undef,O (some ⟨be,0,none⟩),.bool false,u5,.bool (aS bg.id a x.fols),u7,.bool (aS aP.id a x.fees),u9,.bool (aS aJ.id a x.itms),u11,.bool (aS dE.id a x.seas),u13,u14,u15,u16,eG,eH,eI,eJ,eK,eM,u23,u24,eO,u26,eW,u28,eX,eY,eZ,u32,u33,fh,fj,u36,fk,u38,fw,fx,fy,fG,fH,u44,u45,fJ,fK,gC,gD,gw,gy,gj,gl,gm,gp,fM,fO,fP,fQ,fU,fV,fW,fX,u64,fY,fZ,gc,gg,gF,gO,gP,gQ,gR,gS,gT,gU,gV,gW,gX,gY,gZ,g9,hZ,ie,ig,ii,ij,il,im,io,ip,iw,ix,iy,iz,iJ,iK,iM,iO,cJ,cK,cL,cM,cN,cO,cP,cQ,bH,bI,bJ,bK,bM,bN,bO,bP,bQ,bR,bS,bT,bU,bV,bW,bX,bY,bZ,cd,cg,cj,cn,cq,ct,cz,cA,cC,cD,cE,cF,u138,cG,cR,cS,cT,cU,dz,dA,dB,dC,dD,dS,dT,dU,dV,dW,ki,kj,km,ko,kq,kr,kt,ku,kw,kz,jt,ju,jv,jw,jx,jy,jz,jA,jB,jC,jD,jE,jF,jG,jH,jI,jJ,jK,jL,jM,jN,jO,jP,jQ,jR,jS,jT,jU,jV,u193,jW,jX,kA,kB,u198,kC,kD,kE,kF,kG,lN,lO,lQ,lR,lS,lT,lU,lV,lW,lX,lw,lz,lA,lB,lC,lD,lF,oo,oq,ot,ow,ox,oy,oz,oB,oC,oD,oF,oG,oH,oI,oJ,oK,oL,oM,oN,oO,oP,oQ,oT,oU,oV,oW,oX,oY,oZ,o0,o8,o9,pc],[]⟩ wc:=by
 have mS:Hid (aw wc g M x):=hS;have nO:Hid (aa ac w wc):=hF;have fp:Hid (ai wc be 42 #[I J 8,I J a,I J b,I J n,V s,V t,V u]):=hB;have E3:=fR wc;obtain⟨c0,c1,c2,c3,c4,c5,c6,c7,c8,c9,c10,c11,c12⟩:=mS.out.cells;obtain⟨d0,d1,d2,d3,d4,d5,d6⟩:=ap hB;clear hS hF hB;simp only[aj,ae,Tryz.f51]
 have HE:Hid (av x ⟨8,a,b,n,s,t,u⟩=(aS aJ.id a x.itms)):=by
  unfold Hid av;rw[if_neg (by rw[he];simp)];simp
 go_wp2_with (first
  | (go_at_call 100;refine(kO mS.out hb).mono ?_;rintro r w2 ⟨rfl,hf2⟩)
  | fail)
 go_ret;exact⟨af (by rw[HE.out];try simp[*]),by first|exact nO.out|exact nO.out.trans hf2⟩
theorem Nv(hS:aw wc g M x)(hF:aa ac w wc)(a b n:Int)(s t u:ByteArray)(hB:ai wc be 42 #[I J 9,I J a,I J b,I J n,V s,V t,V u])(he:aQ ⟨9,a,b,n,s,t,u⟩=true)(ha:bj a)(hb:bj b):
  Code.wp pQ (aj 6 (ae Tryz.f51)) (bodyPost pQ Tryz.f51 λr w'=>r=.returned (.bool (av x ⟨9,a,b,n,s,t,u⟩))∧aa ac w w') ⟨#[O (some ⟨g,0,none⟩),.agg #[I J 9,I J a,I J b,I J n,V s,V t,V u],undef,O (some ⟨be,0,none⟩),.bool false,u5,.bool (aS bg.id a x.fols),u7,.bool (aS aP.id a x.fees),u9,.bool (aS aJ.id a x.itms),u11,.bool (aS dE.id a x.seas),u13,u14,u15,u16,eG,eH,eI,eJ,eK,eM,u23,u24,eO,u26,eW,u28,eX,eY,eZ,u32,u33,fh,fj,u36,fk,u38,fw,fx,fy,fG,fH,u44,u45,fJ,fK,gC,gD,gw,gy,gj,gl,gm,gp,fM,fO,fP,fQ,fU,fV,fW,fX,u64,fY,fZ,gc,gg,gF,gO,gP,gQ,gR,gS,gT,gU,gV,gW,gX,gY,gZ,g9,hZ,ie,ig,ii,ij,il,im,io,ip,iw,ix,iy,iz,iJ,iK,iM,iO,cJ,cK,cL,cM,cN,cO,cP,cQ,bH,bI,bJ,bK,bM,bN,bO,bP,bQ,bR,bS,bT,bU,bV,bW,bX,bY,bZ,cd,cg,cj,cn,cq,ct,cz,cA,cC,cD,cE,cF,u138,cG,cR,cS,cT,cU,dz,dA,dB,dC,dD,dS,dT,dU,dV,dW,ki,kj,km,ko,kq,kr,kt,ku,kw,kz,jt,ju,jv,jw,jx,jy,jz,jA,jB,jC,jD,jE,jF,jG,jH,jI,jJ,jK,jL,jM,jN,jO,jP,jQ,jR,jS,jT,jU,jV,u193,jW,jX,kA,kB,u198,kC,kD,kE,kF,kG,lN,lO,lQ,lR,lS,lT,lU,lV,lW,lX,lw,lz,lA,lB,lC,lD,lF,oo,oq,ot,ow,ox,oy,oz,oB,oC,oD,oF,oG,oH,oI,oJ,oK,oL,oM,oN,oO,oP,oQ,oT,oU,oV,oW,oX,oY,oZ,o0,o8,o9,pc],[]⟩ wc:=by
 have mS:Hid (aw wc g M x):=hS;have nO:Hid (aa ac w wc):=hF;have fp:Hid (ai wc be 42 #[I J 9,I J a,I J b,I J n,V s,V t,V u]):=hB;have E3:=fR wc;obtain⟨c0,c1,c2,c3,c4,c5,c6,c7,c8,c9,c10,c11,c12⟩:=mS.out.cells;obtain⟨d0,d1,d2,d3,d4,d5,d6⟩:=ap hB;clear hS hF hB;simp only[aj,ae,Tryz.f51]
 have HE:Hid (av x ⟨9,a,b,n,s,t,u⟩=(aS aJ.id a x.itms)):=by
  unfold Hid av;rw[if_neg (by rw[he];simp)];simp
 go_wp2_with (first
  | (go_at_call 100;refine(kO mS.out hb).mono ?_;rintro r w2 ⟨rfl,hf2⟩)
  | fail)
 go_ret;exact⟨af (by rw[HE.out];try simp[*]),by first|exact nO.out|exact nO.out.trans hf2⟩
end Go.Proofs.YtaecjmiobllhmaaGreat
