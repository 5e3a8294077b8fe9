/- Words. -/
import Derived.Test.YtaecjmiobllhmaaGreatGq17
import Derived.Test.YtaecjmiobllhmaaGreatGq18
set_option linter.unusedVariables false
set_option linter.unusedSimpArgs false
set_option maxRecDepth 100000
set_option maxHeartbeats 16000000
namespace Go.Proofs.YtaecjmiobllhmaaGreat
open Go.Value renaming int→I,string→V,slice→U,pointer→O
open Go.IntKind renaming i64→J
open Tryz renaming prog→pQ
open Go.RowKit Go.Lib
variable {w wc:World}{g be:Nat}{M:Ms}{x:St}{u5 u7 u9 u11 u13 u14 u15 u16 eG eH eI eJ eK eM u23 u24 eO u26 eW u28 eX eY eZ u32 u33 fh fj u36 fk u38 fw fx fy fG fH u44 u45 fJ fK gC gD gw gy gj gl gm gp fM fO fP fQ fU fV fW fX u64 fY fZ gc gg gF gO gP gQ gR gS gT gU gV gW gX gY gZ g9 hZ ie ig ii ij il im io ip iw ix iy iz iJ iK iM iO cJ cK cL cM cN cO cP cQ bH bI bJ bK bM bN bO bP bQ bR bS bT bU bV bW bX bY bZ cd cg cj cn cq ct cz cA cC cD cE cF u138 cG cR cS cT cU dz dA dB dC dD dS dT dU dV dW ki kj km ko kq kr kt ku kw kz jt ju jv jw jx jy jz jA jB jC jD jE jF jG jH jI jJ jK jL jM jN jO jP jQ jR jS jT jU jV u193 jW jX kA kB u198 kC kD kE kF kG lN lO lQ lR lS lT lU lV lW lX lw lz lA lB lC lD lF oo oq ot ow ox oy oz oB oC oD oF oG oH oI oJ oK oL oM oN oO oP oQ oT oU oV oW oX oY oZ o0 o8 o9 pc u12 u10 u8:Value}
theorem PE(hS:aw wc g M x)(hF:aa ac w wc)(k a b n:Int)(s t u:ByteArray)(hB:ai wc be 42 #[I J k,I J a,I J b,I J n,V s,V t,V u])(he:aQ ⟨k,a,b,n,s,t,u⟩=true)(ha:bj a)(hb:bj b):
  Code.wp pQ (aj 6 (ae Tryz.f51)) (bodyPost pQ Tryz.f51 λr w'=>r=.returned (.bool (av x ⟨k,a,b,n,s,t,u⟩))∧aa ac w w') ⟨#[O (some ⟨g,0,none⟩),.agg #[I J k,I J a,I J b,I J n,V s,V t,V u],undef,O (some ⟨be,0,none⟩),.bool false,u5,.bool (aS bg.id a x.fols),u7,.bool (aS aP.id a x.fees),u9,.bool (aS aJ.id a x.itms),u11,.bool (aS dE.id a x.seas),u13,u14,u15,u16,eG,eH,eI,eJ,eK,eM,u23,u24,eO,u26,eW,u28,eX,eY,eZ,u32,u33,fh,fj,u36,fk,u38,fw,fx,fy,fG,fH,u44,u45,fJ,fK,gC,gD,gw,gy,gj,gl,gm,gp,fM,fO,fP,fQ,fU,fV,fW,fX,u64,fY,fZ,gc,gg,gF,gO,gP,gQ,gR,gS,gT,gU,gV,gW,gX,gY,gZ,g9,hZ,ie,ig,ii,ij,il,im,io,ip,iw,ix,iy,iz,iJ,iK,iM,iO,cJ,cK,cL,cM,cN,cO,cP,cQ,bH,bI,bJ,bK,bM,bN,bO,bP,bQ,bR,bS,bT,bU,bV,bW,bX,bY,bZ,cd,cg,cj,cn,cq,ct,cz,cA,cC,cD,cE,cF,u138,cG,cR,cS,cT,cU,dz,dA,dB,dC,dD,dS,dT,dU,dV,dW,ki,kj,km,ko,kq,kr,kt,ku,kw,kz,jt,ju,jv,jw,jx,jy,jz,jA,jB,jC,jD,jE,jF,jG,jH,jI,jJ,jK,jL,jM,jN,jO,jP,jQ,jR,jS,jT,jU,jV,u193,jW,jX,kA,kB,u198,kC,kD,kE,kF,kG,lN,lO,lQ,lR,lS,lT,lU,lV,lW,lX,lw,lz,lA,lB,lC,lD,lF,oo,oq,ot,ow,ox,oy,oz,oB,oC,oD,oF,oG,oH,oI,oJ,oK,oL,oM,oN,oO,oP,oQ,oT,oU,oV,oW,oX,oY,oZ,o0,o8,o9,pc],[]⟩ wc:=by
 have hk:=vX he;simp only at hk;rcases hk with rfl|rfl|rfl|rfl|rfl|rfl|rfl|rfl|rfl|rfl|rfl|rfl|rfl
 ·exact Nj hS hF a b n s t u hB he ha hb
 ·exact Nk hS hF a b n s t u hB he ha hb
 ·exact Nl hS hF a b n s t u hB he ha hb
 ·exact Nn hS hF a b n s t u hB he ha hb
 ·exact Np hS hF a b n s t u hB he ha hb
 ·exact Nq hS hF a b n s t u hB he ha hb
 ·exact Nr hS hF a b n s t u hB he ha hb
 ·exact Nu hS hF a b n s t u hB he ha hb
 ·exact Nv hS hF a b n s t u hB he ha hb
 ·exact KV hS hF a b n s t u hB he ha hb
 ·exact KX hS hF a b n s t u hB he ha hb
 ·exact KY hS hF a b n s t u hB he ha hb
 ·exact KZ hS hF a b n s t u hB he ha hb
theorem Nw(hS:aw wc g M x)(hF:aa ac w wc)(k a b n:Int)(s t u:ByteArray)(hB:ai wc be 42 #[I J k,I J a,I J b,I J n,V s,V t,V u])(he:aQ ⟨k,a,b,n,s,t,u⟩=true)(ha:bj a)(hb:bj b):
  Code.wp pQ (aj 5 (ae Tryz.f51)) (bodyPost pQ Tryz.f51 λr w'=>r=.returned (.bool (av x ⟨k,a,b,n,s,t,u⟩))∧aa ac w w') ⟨#[O (some ⟨g,0,none⟩),.agg #[I J k,I J a,I J b,I J n,V s,V t,V u],undef,O (some ⟨be,0,none⟩),.bool false,u5,.bool (aS bg.id a x.fols),u7,.bool (aS aP.id a x.fees),u9,.bool (aS aJ.id a x.itms),u11,u12,u13,u14,u15,u16,eG,eH,eI,eJ,eK,eM,u23,u24,eO,u26,eW,u28,eX,eY,eZ,u32,u33,fh,fj,u36,fk,u38,fw,fx,fy,fG,fH,u44,u45,fJ,fK,gC,gD,gw,gy,gj,gl,gm,gp,fM,fO,fP,fQ,fU,fV,fW,fX,u64,fY,fZ,gc,gg,gF,gO,gP,gQ,gR,gS,gT,gU,gV,gW,gX,gY,gZ,g9,hZ,ie,ig,ii,ij,il,im,io,ip,iw,ix,iy,iz,iJ,iK,iM,iO,cJ,cK,cL,cM,cN,cO,cP,cQ,bH,bI,bJ,bK,bM,bN,bO,bP,bQ,bR,bS,bT,bU,bV,bW,bX,bY,bZ,cd,cg,cj,cn,cq,ct,cz,cA,cC,cD,cE,cF,u138,cG,cR,cS,cT,cU,dz,dA,dB,dC,dD,dS,dT,dU,dV,dW,ki,kj,km,ko,kq,kr,kt,ku,kw,kz,jt,ju,jv,jw,jx,jy,jz,jA,jB,jC,jD,jE,jF,jG,jH,jI,jJ,jK,jL,jM,jN,jO,jP,jQ,jR,jS,jT,jU,jV,u193,jW,jX,kA,kB,u198,kC,kD,kE,kF,kG,lN,lO,lQ,lR,lS,lT,lU,lV,lW,lX,lw,lz,lA,lB,lC,lD,lF,oo,oq,ot,ow,ox,oy,oz,oB,oC,oD,oF,oG,oH,oI,oJ,oK,oL,oM,oN,oO,oP,oQ,oT,oU,oV,oW,oX,oY,oZ,o0,o8,o9,pc],[]⟩ wc:=by
 have e:aj 5 (ae Tryz.f51)=.seq (bz (aj 5 (ae Tryz.f51))) (aj 6 (ae Tryz.f51)):=by kernel_rfl
 rw[e];clear e;refine wp_seq_k λK hK=>?_
 have dH:Hid (∀W,aa ac wc W→(λW=>aa ac wc W∧W.cell? ⟨g,4,none⟩=some (.map (some M.se))∧W.cell? ⟨be,1,none⟩=some (I J a)∧(Instr.lookup 109 (.map (some M.se)) (I J a) true).run pQ W=.ok (.tuple #[.agg #[I J (lK x a).id,V (lK x a).name,V (lK x a).query],.bool (aS dE.id a x.seas)]) W) W):=λW hf=>⟨hf,(hS.nix hf).cells.2.2.2.2.1,(ap (hB.frm hf id)).2.1,(hS.nix hf).seaLook2 ha⟩
 have HK:Hid (∀(a':Unit) (w':World),aa ac wc w'→aw w' g M x∧aa ac w w'∧ai w' be 42 #[I J k,I J a,I J b,I J n,V s,V t,V u]):=λ_ w' hf=>⟨hS.nix hf,hF.trans hf,hB.frm hf id⟩
 have hf0:=fR wc;simp only[bz,aj,ae,Tryz.f51];clear hS hF hB
 go_region_held3 (λW=>aa ac wc W∧W.cell? ⟨g,4,none⟩=some (.map (some M.se))∧W.cell? ⟨be,1,none⟩=some (I J a)∧(Instr.lookup 109 (.map (some M.se)) (I J a) true).run pQ W=.ok (.tuple #[.agg #[I J (lK x a).id,V (lK x a).name,V (lK x a).query],.bool (aS dE.id a x.seas)]) W) (first|exact dH.out _ hf0|exact dH.out _ (aa.drew hf0)|exact dH.out _ (aa.alloc (by assumption) _)|exact dH.out _ (aa.alloc (aa.drew (by assumption)) _)|exact dH.out _ (aa.drew (by assumption))|exact dH.out _ (by assumption)) (first|fail)
 all_goals
  go_wp2;exact PE (HK.out () _ (aa.alloc hf0 _).drew).1 (HK.out () _ (aa.alloc hf0 _).drew).2.1 k a b n s t u (HK.out () _ (aa.alloc hf0 _).drew).2.2 he ha hb
theorem Nx(hS:aw wc g M x)(hF:aa ac w wc)(k a b n:Int)(s t u:ByteArray)(hB:ai wc be 42 #[I J k,I J a,I J b,I J n,V s,V t,V u])(he:aQ ⟨k,a,b,n,s,t,u⟩=true)(ha:bj a)(hb:bj b):
  Code.wp pQ (aj 4 (ae Tryz.f51)) (bodyPost pQ Tryz.f51 λr w'=>r=.returned (.bool (av x ⟨k,a,b,n,s,t,u⟩))∧aa ac w w') ⟨#[O (some ⟨g,0,none⟩),.agg #[I J k,I J a,I J b,I J n,V s,V t,V u],undef,O (some ⟨be,0,none⟩),.bool false,u5,.bool (aS bg.id a x.fols),u7,.bool (aS aP.id a x.fees),u9,u10,u11,u12,u13,u14,u15,u16,eG,eH,eI,eJ,eK,eM,u23,u24,eO,u26,eW,u28,eX,eY,eZ,u32,u33,fh,fj,u36,fk,u38,fw,fx,fy,fG,fH,u44,u45,fJ,fK,gC,gD,gw,gy,gj,gl,gm,gp,fM,fO,fP,fQ,fU,fV,fW,fX,u64,fY,fZ,gc,gg,gF,gO,gP,gQ,gR,gS,gT,gU,gV,gW,gX,gY,gZ,g9,hZ,ie,ig,ii,ij,il,im,io,ip,iw,ix,iy,iz,iJ,iK,iM,iO,cJ,cK,cL,cM,cN,cO,cP,cQ,bH,bI,bJ,bK,bM,bN,bO,bP,bQ,bR,bS,bT,bU,bV,bW,bX,bY,bZ,cd,cg,cj,cn,cq,ct,cz,cA,cC,cD,cE,cF,u138,cG,cR,cS,cT,cU,dz,dA,dB,dC,dD,dS,dT,dU,dV,dW,ki,kj,km,ko,kq,kr,kt,ku,kw,kz,jt,ju,jv,jw,jx,jy,jz,jA,jB,jC,jD,jE,jF,jG,jH,jI,jJ,jK,jL,jM,jN,jO,jP,jQ,jR,jS,jT,jU,jV,u193,jW,jX,kA,kB,u198,kC,kD,kE,kF,kG,lN,lO,lQ,lR,lS,lT,lU,lV,lW,lX,lw,lz,lA,lB,lC,lD,lF,oo,oq,ot,ow,ox,oy,oz,oB,oC,oD,oF,oG,oH,oI,oJ,oK,oL,oM,oN,oO,oP,oQ,oT,oU,oV,oW,oX,oY,oZ,o0,o8,o9,pc],[]⟩ wc:=by
 have e:aj 4 (ae Tryz.f51)=.seq (bz (aj 4 (ae Tryz.f51))) (aj 5 (ae Tryz.f51)):=by kernel_rfl
 rw[e];clear e;refine wp_seq_k λK hK=>?_
 obtain⟨vt,OV⟩:=hS.itmSl ha;have dH:Hid (∀W,aa ac wc W→(λW=>aa ac wc W∧W.cell? ⟨g,3,none⟩=some (.map (some M.it))∧W.cell? ⟨be,1,none⟩=some (I J a)∧(Instr.lookup 108 (.map (some M.it)) (I J a) true).run pQ W=.ok (.tuple #[.agg #[I J (ag x a).id,I J (ag x a).feed,I J (ag x a).date,V (ag x a).guid,V (ag x a).title,V (ag x a).link,.bool (ag x a).read,.bool (ag x a).star,U vt.1 (ag x a).tags.length vt.2],.bool (aS aJ.id a x.itms)]) W) W):=λW hf=>⟨hf,(hS.nix hf).cells.2.2.2.1,(ap (hB.frm hf id)).2.1,aw.itmLook2 (OV _ hf).2⟩
 have HK:Hid (∀(a':Unit) (w':World),aa ac wc w'→aw w' g M x∧aa ac w w'∧ai w' be 42 #[I J k,I J a,I J b,I J n,V s,V t,V u]):=λ_ w' hf=>⟨hS.nix hf,hF.trans hf,hB.frm hf id⟩
 have hf0:=fR wc;simp only[bz,aj,ae,Tryz.f51];clear hS hF hB OV
 go_region_held3 (λW=>aa ac wc W∧W.cell? ⟨g,3,none⟩=some (.map (some M.it))∧W.cell? ⟨be,1,none⟩=some (I J a)∧(Instr.lookup 108 (.map (some M.it)) (I J a) true).run pQ W=.ok (.tuple #[.agg #[I J (ag x a).id,I J (ag x a).feed,I J (ag x a).date,V (ag x a).guid,V (ag x a).title,V (ag x a).link,.bool (ag x a).read,.bool (ag x a).star,U vt.1 (ag x a).tags.length vt.2],.bool (aS aJ.id a x.itms)]) W) (first|exact dH.out _ hf0|exact dH.out _ (aa.drew hf0)|exact dH.out _ (aa.alloc (by assumption) _)|exact dH.out _ (aa.alloc (aa.drew (by assumption)) _)|exact dH.out _ (aa.drew (by assumption))|exact dH.out _ (by assumption)) (first|fail)
 all_goals
  go_wp2;exact Nw (HK.out () _ (aa.alloc hf0 _).drew).1 (HK.out () _ (aa.alloc hf0 _).drew).2.1 k a b n s t u (HK.out () _ (aa.alloc hf0 _).drew).2.2 he ha hb
theorem Ny(hS:aw wc g M x)(hF:aa ac w wc)(k a b n:Int)(s t u:ByteArray)(hB:ai wc be 42 #[I J k,I J a,I J b,I J n,V s,V t,V u])(he:aQ ⟨k,a,b,n,s,t,u⟩=true)(ha:bj a)(hb:bj b):
  Code.wp pQ (aj 3 (ae Tryz.f51)) (bodyPost pQ Tryz.f51 λr w'=>r=.returned (.bool (av x ⟨k,a,b,n,s,t,u⟩))∧aa ac w w') ⟨#[O (some ⟨g,0,none⟩),.agg #[I J k,I J a,I J b,I J n,V s,V t,V u],undef,O (some ⟨be,0,none⟩),.bool false,u5,.bool (aS bg.id a x.fols),u7,u8,u9,u10,u11,u12,u13,u14,u15,u16,eG,eH,eI,eJ,eK,eM,u23,u24,eO,u26,eW,u28,eX,eY,eZ,u32,u33,fh,fj,u36,fk,u38,fw,fx,fy,fG,fH,u44,u45,fJ,fK,gC,gD,gw,gy,gj,gl,gm,gp,fM,fO,fP,fQ,fU,fV,fW,fX,u64,fY,fZ,gc,gg,gF,gO,gP,gQ,gR,gS,gT,gU,gV,gW,gX,gY,gZ,g9,hZ,ie,ig,ii,ij,il,im,io,ip,iw,ix,iy,iz,iJ,iK,iM,iO,cJ,cK,cL,cM,cN,cO,cP,cQ,bH,bI,bJ,bK,bM,bN,bO,bP,bQ,bR,bS,bT,bU,bV,bW,bX,bY,bZ,cd,cg,cj,cn,cq,ct,cz,cA,cC,cD,cE,cF,u138,cG,cR,cS,cT,cU,dz,dA,dB,dC,dD,dS,dT,dU,dV,dW,ki,kj,km,ko,kq,kr,kt,ku,kw,kz,jt,ju,jv,jw,jx,jy,jz,jA,jB,jC,jD,jE,jF,jG,jH,jI,jJ,jK,jL,jM,jN,jO,jP,jQ,jR,jS,jT,jU,jV,u193,jW,jX,kA,kB,u198,kC,kD,kE,kF,kG,lN,lO,lQ,lR,lS,lT,lU,lV,lW,lX,lw,lz,lA,lB,lC,lD,lF,oo,oq,ot,ow,ox,oy,oz,oB,oC,oD,oF,oG,oH,oI,oJ,oK,oL,oM,oN,oO,oP,oQ,oT,oU,oV,oW,oX,oY,oZ,o0,o8,o9,pc],[]⟩ wc:=by
 have e:aj 3 (ae Tryz.f51)=.seq (bz (aj 3 (ae Tryz.f51))) (aj 4 (ae Tryz.f51)):=by kernel_rfl
 rw[e];clear e;refine wp_seq_k λK hK=>?_
 have dH:Hid (∀W,aa ac wc W→(λW=>aa ac wc W∧W.cell? ⟨g,2,none⟩=some (.map (some M.fe))∧W.cell? ⟨be,1,none⟩=some (I J a)∧(Instr.lookup 107 (.map (some M.fe)) (I J a) true).run pQ W=.ok (.tuple #[.agg #[I J (ar x a).id,I J (ar x a).inn,V (ar x a).url,V (ar x a).title],.bool (aS aP.id a x.fees)]) W) W):=λW hf=>⟨hf,(hS.nix hf).cells.2.2.1,(ap (hB.frm hf id)).2.1,(hS.nix hf).feeLook2 ha⟩
 have HK:Hid (∀(a':Unit) (w':World),aa ac wc w'→aw w' g M x∧aa ac w w'∧ai w' be 42 #[I J k,I J a,I J b,I J n,V s,V t,V u]):=λ_ w' hf=>⟨hS.nix hf,hF.trans hf,hB.frm hf id⟩
 have hf0:=fR wc;simp only[bz,aj,ae,Tryz.f51];clear hS hF hB
 go_region_held3 (λW=>aa ac wc W∧W.cell? ⟨g,2,none⟩=some (.map (some M.fe))∧W.cell? ⟨be,1,none⟩=some (I J a)∧(Instr.lookup 107 (.map (some M.fe)) (I J a) true).run pQ W=.ok (.tuple #[.agg #[I J (ar x a).id,I J (ar x a).inn,V (ar x a).url,V (ar x a).title],.bool (aS aP.id a x.fees)]) W) (first|exact dH.out _ hf0|exact dH.out _ (aa.drew hf0)|exact dH.out _ (aa.alloc (by assumption) _)|exact dH.out _ (aa.alloc (aa.drew (by assumption)) _)|exact dH.out _ (aa.drew (by assumption))|exact dH.out _ (by assumption)) (first|fail)
 all_goals
  go_wp2;exact Nx (HK.out () _ (aa.alloc hf0 _).drew).1 (HK.out () _ (aa.alloc hf0 _).drew).2.1 k a b n s t u (HK.out () _ (aa.alloc hf0 _).drew).2.2 he ha hb
theorem Nz(hS:aw wc g M x)(hF:aa ac w wc)(k a b n:Int)(s t u:ByteArray)(hB:ai wc be 42 #[I J k,I J a,I J b,I J n,V s,V t,V u])(he:aQ ⟨k,a,b,n,s,t,u⟩=true)(ha:bj a)(hb:bj b){u5 u6 u7 u8 u9 u10 u11 u12 u13 u14 u15 u16 eG eH eI eJ eK eM u23 u24 eO u26 eW u28 eX eY eZ u32 u33 fh fj u36 fk u38 fw fx fy fG fH u44 u45 fJ fK gC gD gw gy gj gl gm gp fM fO fP fQ fU fV fW fX u64 fY fZ gc gg gF gO gP gQ gR gS gT gU gV gW gX gY gZ g9 hZ ie ig ii ij il im io ip iw ix iy iz iJ iK iM iO cJ cK cL cM cN cO cP cQ bH bI bJ bK bM bN bO bP bQ bR bS bT bU bV bW bX bY bZ cd cg cj cn cq ct cz cA cC cD cE cF u138 cG cR cS cT cU dz dA dB dC dD dS dT dU dV dW ki kj km ko kq kr kt ku kw kz jt ju jv jw jx jy jz jA jB jC jD jE jF jG jH jI jJ jK jL jM jN jO jP jQ jR jS jT jU jV u193 jW jX kA kB u198 kC kD kE kF kG lN lO lQ lR lS lT lU lV lW lX lw lz lA lB lC lD lF oo oq ot ow ox oy oz oB oC oD oF oG oH oI oJ oK oL oM oN oO oP oQ oT oU oV oW oX oY oZ o0 o8 o9 pc:Value}:
  Code.wp pQ (aj 2 (ae Tryz.f51)) (bodyPost pQ Tryz.f51 λr w'=>r=.returned (.bool (av x ⟨k,a,b,n,s,t,u⟩))∧aa ac w w') ⟨#[O (some ⟨g,0,none⟩),.agg #[I J k,I J a,I J b,I J n,V s,V t,V u],undef,O (some ⟨be,0,none⟩),.bool false,u5,u6,u7,u8,u9,u10,u11,u12,u13,u14,u15,u16,eG,eH,eI,eJ,eK,eM,u23,u24,eO,u26,eW,u28,eX,eY,eZ,u32,u33,fh,fj,u36,fk,u38,fw,fx,fy,fG,fH,u44,u45,fJ,fK,gC,gD,gw,gy,gj,gl,gm,gp,fM,fO,fP,fQ,fU,fV,fW,fX,u64,fY,fZ,gc,gg,gF,gO,gP,gQ,gR,gS,gT,gU,gV,gW,gX,gY,gZ,g9,hZ,ie,ig,ii,ij,il,im,io,ip,iw,ix,iy,iz,iJ,iK,iM,iO,cJ,cK,cL,cM,cN,cO,cP,cQ,bH,bI,bJ,bK,bM,bN,bO,bP,bQ,bR,bS,bT,bU,bV,bW,bX,bY,bZ,cd,cg,cj,cn,cq,ct,cz,cA,cC,cD,cE,cF,u138,cG,cR,cS,cT,cU,dz,dA,dB,dC,dD,dS,dT,dU,dV,dW,ki,kj,km,ko,kq,kr,kt,ku,kw,kz,jt,ju,jv,jw,jx,jy,jz,jA,jB,jC,jD,jE,jF,jG,jH,jI,jJ,jK,jL,jM,jN,jO,jP,jQ,jR,jS,jT,jU,jV,u193,jW,jX,kA,kB,u198,kC,kD,kE,kF,kG,lN,lO,lQ,lR,lS,lT,lU,lV,lW,lX,lw,lz,lA,lB,lC,lD,lF,oo,oq,ot,ow,ox,oy,oz,oB,oC,oD,oF,oG,oH,oI,oJ,oK,oL,oM,oN,oO,oP,oQ,oT,oU,oV,oW,oX,oY,oZ,o0,o8,o9,pc],[]⟩ wc:=by
 have e:aj 2 (ae Tryz.f51)=.seq (bz (aj 2 (ae Tryz.f51))) (aj 3 (ae Tryz.f51)):=by kernel_rfl
 rw[e];clear e;refine wp_seq_k λK hK=>?_
 have dH:Hid (∀W,aa ac wc W→(λW=>aa ac wc W∧W.cell? ⟨g,1,none⟩=some (.map (some M.fo))∧W.cell? ⟨be,1,none⟩=some (I J a)∧(Instr.lookup 106 (.map (some M.fo)) (I J a) true).run pQ W=.ok (.tuple #[.agg #[I J (ep x a).id,I J (ep x a).inn,V (ep x a).name],.bool (aS bg.id a x.fols)]) W) W):=λW hf=>⟨hf,(hS.nix hf).cells.2.1,(ap (hB.frm hf id)).2.1,(hS.nix hf).folLook2 ha⟩
 have HK:Hid (∀(a':Unit) (w':World),aa ac wc w'→aw w' g M x∧aa ac w w'∧ai w' be 42 #[I J k,I J a,I J b,I J n,V s,V t,V u]):=λ_ w' hf=>⟨hS.nix hf,hF.trans hf,hB.frm hf id⟩
 have hf0:=fR wc;simp only[bz,aj,ae,Tryz.f51];clear hS hF hB
 go_region_held3 (λW=>aa ac wc W∧W.cell? ⟨g,1,none⟩=some (.map (some M.fo))∧W.cell? ⟨be,1,none⟩=some (I J a)∧(Instr.lookup 106 (.map (some M.fo)) (I J a) true).run pQ W=.ok (.tuple #[.agg #[I J (ep x a).id,I J (ep x a).inn,V (ep x a).name],.bool (aS bg.id a x.fols)]) W) (first|exact dH.out _ hf0|exact dH.out _ (aa.drew hf0)|exact dH.out _ (aa.alloc (by assumption) _)|exact dH.out _ (aa.alloc (aa.drew (by assumption)) _)|exact dH.out _ (aa.drew (by assumption))|exact dH.out _ (by assumption)) (first|fail)
 all_goals
  go_wp2;exact Ny (HK.out () _ (aa.alloc hf0 _).drew).1 (HK.out () _ (aa.alloc hf0 _).drew).2.1 k a b n s t u (HK.out () _ (aa.alloc hf0 _).drew).2.2 he ha hb
theorem IA(h:aw w g M x)(k a b n:Int)(s t u:ByteArray)(he:aQ ⟨k,a,b,n,s,t,u⟩=true)(ha:bj a)(hb:bj b):
  Calls pQ 51 #[O (some ⟨g,0,none⟩),dt ⟨k,a,b,n,s,t,u⟩] w λr w'=>r=.returned (.bool (av x ⟨k,a,b,n,s,t,u⟩))∧aa ac w w':=by
 obtain⟨w0,hw0⟩:∃w0,w0=w.alloc (.cells #[I J k,I J a,I J b,I J n,V s,V t,V u] 42):=⟨_,rfl⟩;have az:aa ac w w0:=by rw[hw0];exact(fR w).alloc _
 have fp:Hid (ai w0 w.heap.size 42 #[I J k,I J a,I J b,I J n,V s,V t,V u]):=by rw[hw0];exact ai.new w _ _
 have KC:=λW=>wh ⟨k,a,b,n,s,t,u⟩ W
 rw[he,if_pos rfl] at KC;have HS:Hid (aw w0 g M x):=h.nix az;have HC:=h_ az;have HW:=h_ hw0;clear h az hw0;unfold dt at *;go_enter Tryz.func51,Tryz.ntmps51;show Code.wp pQ (aj 0 (ae Tryz.f51)) _ _ _
 have e0:aj 0 (ae Tryz.f51)=.seq (bz (aj 0 (ae Tryz.f51))) (aj 1 (ae Tryz.f51)):=by kernel_rfl
 rw[e0];clear e0;refine wp_seq_k λK hK=>?_
 conv in bz _=>whnf
 go_wp2;refine aG (k':=2) λK hK=>?_
 conv in bz _=>whnf
 go_wp2_with (go_at_call 99;refine(KC _).mono ?_;rintro r w1 ⟨rfl,jg⟩);rw[←HW.out] at jg;exact Nz (HS.out.nix jg) (HC.out.trans jg) k a b n s t u (fp.out.frm jg id) he ha hb
theorem ww(h:aw w g M x)(e:Ev)(ha:bj e.a)(hb:bj e.b):
  Calls pQ 51 #[O (some ⟨g,0,none⟩),dt e] w λr w'=>r=.returned (.bool (av x e))∧aa ac w w':=by
 cases he:aQ e with
 | false=>
   have hf:av x e=false:=by simp[av,he]
   rw[hf]
   exact KJ h e he
 | true=>exact IA h e.kind e.a e.b e.n e.s e.t e.u he ha hb
end Go.Proofs.YtaecjmiobllhmaaGreat
