/- Words. -/
import Derived.Test.YtaecjmiobllhmaaGreatGr17
import Derived.Test.YtaecjmiobllhmaaGreatGr18
set_option linter.unusedVariables false
set_option linter.unusedSimpArgs false
set_option maxRecDepth 100000
set_option maxHeartbeats 16000000
namespace Go.Proofs.YtaecjmiobllhmaaGreat
open Go.Value renaming int→I,string→V,slice→U,pointer→O
open Go.IntKind renaming i64→J
open Tryz renaming prog→pQ
open Go.RowKit Go.Lib
variable {w wc:World}{g be:Nat}{M:Ms}{x:St}{u5 u7 u9 u11 u13 u14 u15 u16 cG cH cI cR cS cT u23 u24 cN u26 dc u28 dm dp dr u32 u33 df dg u36 dt u38 dB dC dO dP dQ u44 u45 dI dJ dK dL dD dE dF dR dS dT dM dG dH dw dx dy dz dA u64 dh di dl cU cX fA fB fF fG fw iO iP iQ jN jO jP jQ jR jS jT jU jJ jK jV jW jX jY kZ k9 lc nd nT nU nV nW fH fJ fK fM fO fP fQ fU ej eo ep ew ey eA eB eC eD eF eG eH eI eJ eK eM eO eP eQ eU eV eW eX eY eZ fh fj fk fl fp u138 fq fV fW fX fY fZ gb gc gg gh gS gT gU gV gW gX gY gZ g9 hZ ie ig ii jZ j9 iW iX iY iZ i7 ja jb jc jd je jf jg jh ji jk jl jm jn jo jp jq jr js jt ju jw jz jA jB u193 jC jD ke kg u198 kh ki kj km ko lG lH lI lJ lK lL lM lN lO lQ lh li lj lm lp lq lr ox oy oz oB oC oD oF oG oH oI oJ oK oL oM oN oO oP oQ oT oU oV oW oX oY oZ o0 o8 o9 pc pd pg pj pk u12 u10 u8:Value}
theorem NZ(hS:aH wc g M x)(hF:aa ag w wc)(k a b n:Int)(s t u:ByteArray)(hB:aj wc be 42 #[I J k,I J a,I J b,I J n,V s,V t,V u])(he:aM ⟨k,a,b,n,s,t,u⟩=true)(ha:bn a)(hb:bn b):
  Code.wp pQ (ai 6 (ae Tryz.f51)) (bodyPost pQ Tryz.f51 λr w'=>r=.returned (.bool (aG x ⟨k,a,b,n,s,t,u⟩))∧aa ag w w') ⟨#[O (some ⟨g,0,none⟩),.agg #[I J k,I J a,I J b,I J n,V s,V t,V u],undef,O (some ⟨be,0,none⟩),.bool false,u5,.bool (bl bh.id a x.fols),u7,.bool (bl aX.id a x.fees),u9,.bool (bl aR.id a x.itms),u11,.bool (bl ce.id a x.seas),u13,u14,u15,u16,cG,cH,cI,cR,cS,cT,u23,u24,cN,u26,dc,u28,dm,dp,dr,u32,u33,df,dg,u36,dt,u38,dB,dC,dO,dP,dQ,u44,u45,dI,dJ,dK,dL,dD,dE,dF,dR,dS,dT,dM,dG,dH,dw,dx,dy,dz,dA,u64,dh,di,dl,cU,cX,fA,fB,fF,fG,fw,iO,iP,iQ,jN,jO,jP,jQ,jR,jS,jT,jU,jJ,jK,jV,jW,jX,jY,kZ,k9,lc,nd,nT,nU,nV,nW,fH,fJ,fK,fM,fO,fP,fQ,fU,ej,eo,ep,ew,ey,eA,eB,eC,eD,eF,eG,eH,eI,eJ,eK,eM,eO,eP,eQ,eU,eV,eW,eX,eY,eZ,fh,fj,fk,fl,fp,u138,fq,fV,fW,fX,fY,fZ,gb,gc,gg,gh,gS,gT,gU,gV,gW,gX,gY,gZ,g9,hZ,ie,ig,ii,jZ,j9,iW,iX,iY,iZ,i7,ja,jb,jc,jd,je,jf,jg,jh,ji,jk,jl,jm,jn,jo,jp,jq,jr,js,jt,ju,jw,jz,jA,jB,u193,jC,jD,ke,kg,u198,kh,ki,kj,km,ko,lG,lH,lI,lJ,lK,lL,lM,lN,lO,lQ,lh,li,lj,lm,lp,lq,lr,ox,oy,oz,oB,oC,oD,oF,oG,oH,oI,oJ,oK,oL,oM,oN,oO,oP,oQ,oT,oU,oV,oW,oX,oY,oZ,o0,o8,o9,pc,pd,pg,pj,pk],[]⟩ wc:=by
 have hk:=vZ he;simp only at hk;rcases hk with rfl|rfl|rfl|rfl|rfl|rfl|rfl|rfl|rfl|rfl|rfl|rfl|rfl
 ·exact Mf hS hF a b n s t u hB he ha hb
 ·exact Mg hS hF a b n s t u hB he ha hb
 ·exact Mh hS hF a b n s t u hB he ha hb
 ·exact Mi hS hF a b n s t u hB he ha hb
 ·exact Mj hS hF a b n s t u hB he ha hb
 ·exact Mk hS hF a b n s t u hB he ha hb
 ·exact Ml hS hF a b n s t u hB he ha hb
 ·exact Mo hS hF a b n s t u hB he ha hb
 ·exact Mp hS hF a b n s t u hB he ha hb
 ·exact JG hS hF a b n s t u hB he ha hb
 ·exact JH hS hF a b n s t u hB he ha hb
 ·exact JI hS hF a b n s t u hB he ha hb
 ·exact JJ hS hF a b n s t u hB he ha hb
theorem Mq(hS:aH wc g M x)(hF:aa ag w wc)(k a b n:Int)(s t u:ByteArray)(hB:aj wc be 42 #[I J k,I J a,I J b,I J n,V s,V t,V u])(he:aM ⟨k,a,b,n,s,t,u⟩=true)(ha:bn a)(hb:bn b):
  Code.wp pQ (ai 5 (ae Tryz.f51)) (bodyPost pQ Tryz.f51 λr w'=>r=.returned (.bool (aG x ⟨k,a,b,n,s,t,u⟩))∧aa ag w w') ⟨#[O (some ⟨g,0,none⟩),.agg #[I J k,I J a,I J b,I J n,V s,V t,V u],undef,O (some ⟨be,0,none⟩),.bool false,u5,.bool (bl bh.id a x.fols),u7,.bool (bl aX.id a x.fees),u9,.bool (bl aR.id a x.itms),u11,u12,u13,u14,u15,u16,cG,cH,cI,cR,cS,cT,u23,u24,cN,u26,dc,u28,dm,dp,dr,u32,u33,df,dg,u36,dt,u38,dB,dC,dO,dP,dQ,u44,u45,dI,dJ,dK,dL,dD,dE,dF,dR,dS,dT,dM,dG,dH,dw,dx,dy,dz,dA,u64,dh,di,dl,cU,cX,fA,fB,fF,fG,fw,iO,iP,iQ,jN,jO,jP,jQ,jR,jS,jT,jU,jJ,jK,jV,jW,jX,jY,kZ,k9,lc,nd,nT,nU,nV,nW,fH,fJ,fK,fM,fO,fP,fQ,fU,ej,eo,ep,ew,ey,eA,eB,eC,eD,eF,eG,eH,eI,eJ,eK,eM,eO,eP,eQ,eU,eV,eW,eX,eY,eZ,fh,fj,fk,fl,fp,u138,fq,fV,fW,fX,fY,fZ,gb,gc,gg,gh,gS,gT,gU,gV,gW,gX,gY,gZ,g9,hZ,ie,ig,ii,jZ,j9,iW,iX,iY,iZ,i7,ja,jb,jc,jd,je,jf,jg,jh,ji,jk,jl,jm,jn,jo,jp,jq,jr,js,jt,ju,jw,jz,jA,jB,u193,jC,jD,ke,kg,u198,kh,ki,kj,km,ko,lG,lH,lI,lJ,lK,lL,lM,lN,lO,lQ,lh,li,lj,lm,lp,lq,lr,ox,oy,oz,oB,oC,oD,oF,oG,oH,oI,oJ,oK,oL,oM,oN,oO,oP,oQ,oT,oU,oV,oW,oX,oY,oZ,o0,o8,o9,pc,pd,pg,pj,pk],[]⟩ wc:=by
 have e:ai 5 (ae Tryz.f51)=.seq (aD (ai 5 (ae Tryz.f51))) (ai 6 (ae Tryz.f51)):=by kernel_rfl
 rw[e];clear e;refine wp_seq_k λK hK=>?_
 have pw:Hid (∀W,aa ag wc W→(λW=>aa ag wc W∧W.cell? ⟨g,4,none⟩=some (.map (some M.se))∧W.cell? ⟨be,1,none⟩=some (I J a)∧(Instr.lookup 109 (.map (some M.se)) (I J a) true).run pQ W=.ok (.tuple #[.agg #[I J (qG x a).id,V (qG x a).name,V (qG x a).query],.bool (bl ce.id a x.seas)]) W) W):=λW hf=>⟨hf,(hS.nix hf).cells.2.2.2.2.1,(az (hB.frm hf id)).2.1,(hS.nix hf).seaLook2 ha⟩
 have HK:Hid (∀(a':Unit) (w':World),aa ag wc w'→aH w' g M x∧aa ag w w'∧aj w' be 42 #[I J k,I J a,I J b,I J n,V s,V t,V u]):=λ_ w' hf=>⟨hS.nix hf,hF.trans hf,hB.frm hf id⟩
 have hf0:=fR wc;simp only[aD,ai,ae,Tryz.f51];clear hS hF hB
 go_region_held3 (λW=>aa ag wc W∧W.cell? ⟨g,4,none⟩=some (.map (some M.se))∧W.cell? ⟨be,1,none⟩=some (I J a)∧(Instr.lookup 109 (.map (some M.se)) (I J a) true).run pQ W=.ok (.tuple #[.agg #[I J (qG x a).id,V (qG x a).name,V (qG x a).query],.bool (bl ce.id a x.seas)]) W) (first|exact pw.out _ hf0|exact pw.out _ (aa.drew hf0)|exact pw.out _ (aa.alloc (by assumption) _)|exact pw.out _ (aa.alloc (aa.drew (by assumption)) _)|exact pw.out _ (aa.drew (by assumption))|exact pw.out _ (by assumption)) (first|fail)
 all_goals
  go_wp2;exact NZ (HK.out () _ (aa.alloc hf0 _).drew).1 (HK.out () _ (aa.alloc hf0 _).drew).2.1 k a b n s t u (HK.out () _ (aa.alloc hf0 _).drew).2.2 he ha hb
theorem Mr(hS:aH wc g M x)(hF:aa ag w wc)(k a b n:Int)(s t u:ByteArray)(hB:aj wc be 42 #[I J k,I J a,I J b,I J n,V s,V t,V u])(he:aM ⟨k,a,b,n,s,t,u⟩=true)(ha:bn a)(hb:bn b):
  Code.wp pQ (ai 4 (ae Tryz.f51)) (bodyPost pQ Tryz.f51 λr w'=>r=.returned (.bool (aG x ⟨k,a,b,n,s,t,u⟩))∧aa ag w w') ⟨#[O (some ⟨g,0,none⟩),.agg #[I J k,I J a,I J b,I J n,V s,V t,V u],undef,O (some ⟨be,0,none⟩),.bool false,u5,.bool (bl bh.id a x.fols),u7,.bool (bl aX.id a x.fees),u9,u10,u11,u12,u13,u14,u15,u16,cG,cH,cI,cR,cS,cT,u23,u24,cN,u26,dc,u28,dm,dp,dr,u32,u33,df,dg,u36,dt,u38,dB,dC,dO,dP,dQ,u44,u45,dI,dJ,dK,dL,dD,dE,dF,dR,dS,dT,dM,dG,dH,dw,dx,dy,dz,dA,u64,dh,di,dl,cU,cX,fA,fB,fF,fG,fw,iO,iP,iQ,jN,jO,jP,jQ,jR,jS,jT,jU,jJ,jK,jV,jW,jX,jY,kZ,k9,lc,nd,nT,nU,nV,nW,fH,fJ,fK,fM,fO,fP,fQ,fU,ej,eo,ep,ew,ey,eA,eB,eC,eD,eF,eG,eH,eI,eJ,eK,eM,eO,eP,eQ,eU,eV,eW,eX,eY,eZ,fh,fj,fk,fl,fp,u138,fq,fV,fW,fX,fY,fZ,gb,gc,gg,gh,gS,gT,gU,gV,gW,gX,gY,gZ,g9,hZ,ie,ig,ii,jZ,j9,iW,iX,iY,iZ,i7,ja,jb,jc,jd,je,jf,jg,jh,ji,jk,jl,jm,jn,jo,jp,jq,jr,js,jt,ju,jw,jz,jA,jB,u193,jC,jD,ke,kg,u198,kh,ki,kj,km,ko,lG,lH,lI,lJ,lK,lL,lM,lN,lO,lQ,lh,li,lj,lm,lp,lq,lr,ox,oy,oz,oB,oC,oD,oF,oG,oH,oI,oJ,oK,oL,oM,oN,oO,oP,oQ,oT,oU,oV,oW,oX,oY,oZ,o0,o8,o9,pc,pd,pg,pj,pk],[]⟩ wc:=by
 have e:ai 4 (ae Tryz.f51)=.seq (aD (ai 4 (ae Tryz.f51))) (ai 5 (ae Tryz.f51)):=by kernel_rfl
 rw[e];clear e;refine wp_seq_k λK hK=>?_
 obtain⟨vt,Nx⟩:=hS.itmSl ha;have pw:Hid (∀W,aa ag wc W→(λW=>aa ag wc W∧W.cell? ⟨g,3,none⟩=some (.map (some M.it))∧W.cell? ⟨be,1,none⟩=some (I J a)∧(Instr.lookup 108 (.map (some M.it)) (I J a) true).run pQ W=.ok (.tuple #[.agg #[I J (ah x a).id,I J (ah x a).feed,I J (ah x a).date,V (ah x a).guid,V (ah x a).title,V (ah x a).link,.bool (ah x a).read,.bool (ah x a).star,U vt.1 (ah x a).tags.length vt.2],.bool (bl aR.id a x.itms)]) W) W):=λW hf=>⟨hf,(hS.nix hf).cells.2.2.2.1,(az (hB.frm hf id)).2.1,aH.itmLook2 (Nx _ hf).2⟩
 have HK:Hid (∀(a':Unit) (w':World),aa ag wc w'→aH w' g M x∧aa ag w w'∧aj w' be 42 #[I J k,I J a,I J b,I J n,V s,V t,V u]):=λ_ w' hf=>⟨hS.nix hf,hF.trans hf,hB.frm hf id⟩
 have hf0:=fR wc;simp only[aD,ai,ae,Tryz.f51];clear hS hF hB Nx
 go_region_held3 (λW=>aa ag wc W∧W.cell? ⟨g,3,none⟩=some (.map (some M.it))∧W.cell? ⟨be,1,none⟩=some (I J a)∧(Instr.lookup 108 (.map (some M.it)) (I J a) true).run pQ W=.ok (.tuple #[.agg #[I J (ah x a).id,I J (ah x a).feed,I J (ah x a).date,V (ah x a).guid,V (ah x a).title,V (ah x a).link,.bool (ah x a).read,.bool (ah x a).star,U vt.1 (ah x a).tags.length vt.2],.bool (bl aR.id a x.itms)]) W) (first|exact pw.out _ hf0|exact pw.out _ (aa.drew hf0)|exact pw.out _ (aa.alloc (by assumption) _)|exact pw.out _ (aa.alloc (aa.drew (by assumption)) _)|exact pw.out _ (aa.drew (by assumption))|exact pw.out _ (by assumption)) (first|fail)
 all_goals
  go_wp2;exact Mq (HK.out () _ (aa.alloc hf0 _).drew).1 (HK.out () _ (aa.alloc hf0 _).drew).2.1 k a b n s t u (HK.out () _ (aa.alloc hf0 _).drew).2.2 he ha hb
theorem Mt(hS:aH wc g M x)(hF:aa ag w wc)(k a b n:Int)(s t u:ByteArray)(hB:aj wc be 42 #[I J k,I J a,I J b,I J n,V s,V t,V u])(he:aM ⟨k,a,b,n,s,t,u⟩=true)(ha:bn a)(hb:bn b):
  Code.wp pQ (ai 3 (ae Tryz.f51)) (bodyPost pQ Tryz.f51 λr w'=>r=.returned (.bool (aG x ⟨k,a,b,n,s,t,u⟩))∧aa ag w w') ⟨#[O (some ⟨g,0,none⟩),.agg #[I J k,I J a,I J b,I J n,V s,V t,V u],undef,O (some ⟨be,0,none⟩),.bool false,u5,.bool (bl bh.id a x.fols),u7,u8,u9,u10,u11,u12,u13,u14,u15,u16,cG,cH,cI,cR,cS,cT,u23,u24,cN,u26,dc,u28,dm,dp,dr,u32,u33,df,dg,u36,dt,u38,dB,dC,dO,dP,dQ,u44,u45,dI,dJ,dK,dL,dD,dE,dF,dR,dS,dT,dM,dG,dH,dw,dx,dy,dz,dA,u64,dh,di,dl,cU,cX,fA,fB,fF,fG,fw,iO,iP,iQ,jN,jO,jP,jQ,jR,jS,jT,jU,jJ,jK,jV,jW,jX,jY,kZ,k9,lc,nd,nT,nU,nV,nW,fH,fJ,fK,fM,fO,fP,fQ,fU,ej,eo,ep,ew,ey,eA,eB,eC,eD,eF,eG,eH,eI,eJ,eK,eM,eO,eP,eQ,eU,eV,eW,eX,eY,eZ,fh,fj,fk,fl,fp,u138,fq,fV,fW,fX,fY,fZ,gb,gc,gg,gh,gS,gT,gU,gV,gW,gX,gY,gZ,g9,hZ,ie,ig,ii,jZ,j9,iW,iX,iY,iZ,i7,ja,jb,jc,jd,je,jf,jg,jh,ji,jk,jl,jm,jn,jo,jp,jq,jr,js,jt,ju,jw,jz,jA,jB,u193,jC,jD,ke,kg,u198,kh,ki,kj,km,ko,lG,lH,lI,lJ,lK,lL,lM,lN,lO,lQ,lh,li,lj,lm,lp,lq,lr,ox,oy,oz,oB,oC,oD,oF,oG,oH,oI,oJ,oK,oL,oM,oN,oO,oP,oQ,oT,oU,oV,oW,oX,oY,oZ,o0,o8,o9,pc,pd,pg,pj,pk],[]⟩ wc:=by
 have e:ai 3 (ae Tryz.f51)=.seq (aD (ai 3 (ae Tryz.f51))) (ai 4 (ae Tryz.f51)):=by kernel_rfl
 rw[e];clear e;refine wp_seq_k λK hK=>?_
 have pw:Hid (∀W,aa ag wc W→(λW=>aa ag wc W∧W.cell? ⟨g,2,none⟩=some (.map (some M.fe))∧W.cell? ⟨be,1,none⟩=some (I J a)∧(Instr.lookup 107 (.map (some M.fe)) (I J a) true).run pQ W=.ok (.tuple #[.agg #[I J (au x a).id,I J (au x a).inn,V (au x a).url,V (au x a).title],.bool (bl aX.id a x.fees)]) W) W):=λW hf=>⟨hf,(hS.nix hf).cells.2.2.1,(az (hB.frm hf id)).2.1,(hS.nix hf).feeLook2 ha⟩
 have HK:Hid (∀(a':Unit) (w':World),aa ag wc w'→aH w' g M x∧aa ag w w'∧aj w' be 42 #[I J k,I J a,I J b,I J n,V s,V t,V u]):=λ_ w' hf=>⟨hS.nix hf,hF.trans hf,hB.frm hf id⟩
 have hf0:=fR wc;simp only[aD,ai,ae,Tryz.f51];clear hS hF hB
 go_region_held3 (λW=>aa ag wc W∧W.cell? ⟨g,2,none⟩=some (.map (some M.fe))∧W.cell? ⟨be,1,none⟩=some (I J a)∧(Instr.lookup 107 (.map (some M.fe)) (I J a) true).run pQ W=.ok (.tuple #[.agg #[I J (au x a).id,I J (au x a).inn,V (au x a).url,V (au x a).title],.bool (bl aX.id a x.fees)]) W) (first|exact pw.out _ hf0|exact pw.out _ (aa.drew hf0)|exact pw.out _ (aa.alloc (by assumption) _)|exact pw.out _ (aa.alloc (aa.drew (by assumption)) _)|exact pw.out _ (aa.drew (by assumption))|exact pw.out _ (by assumption)) (first|fail)
 all_goals
  go_wp2;exact Mr (HK.out () _ (aa.alloc hf0 _).drew).1 (HK.out () _ (aa.alloc hf0 _).drew).2.1 k a b n s t u (HK.out () _ (aa.alloc hf0 _).drew).2.2 he ha hb
theorem Mu(hS:aH wc g M x)(hF:aa ag w wc)(k a b n:Int)(s t u:ByteArray)(hB:aj wc be 42 #[I J k,I J a,I J b,I J n,V s,V t,V u])(he:aM ⟨k,a,b,n,s,t,u⟩=true)(ha:bn a)(hb:bn b){u5 u6 u7 u8 u9 u10 u11 u12 u13 u14 u15 u16 cG cH cI cR cS cT u23 u24 cN u26 dc u28 dm dp dr u32 u33 df dg u36 dt u38 dB dC dO dP dQ u44 u45 dI dJ dK dL dD dE dF dR dS dT dM dG dH dw dx dy dz dA u64 dh di dl cU cX fA fB fF fG fw iO iP iQ jN jO jP jQ jR jS jT jU jJ jK jV jW jX jY kZ k9 lc nd nT nU nV nW fH fJ fK fM fO fP fQ fU ej eo ep ew ey eA eB eC eD eF eG eH eI eJ eK eM eO eP eQ eU eV eW eX eY eZ fh fj fk fl fp u138 fq fV fW fX fY fZ gb gc gg gh gS gT gU gV gW gX gY gZ g9 hZ ie ig ii jZ j9 iW iX iY iZ i7 ja jb jc jd je jf jg jh ji jk jl jm jn jo jp jq jr js jt ju jw jz jA jB u193 jC jD ke kg u198 kh ki kj km ko lG lH lI lJ lK lL lM lN lO lQ lh li lj lm lp lq lr ox oy oz oB oC oD oF oG oH oI oJ oK oL oM oN oO oP oQ oT oU oV oW oX oY oZ o0 o8 o9 pc pd pg pj pk:Value}:
  Code.wp pQ (ai 2 (ae Tryz.f51)) (bodyPost pQ Tryz.f51 λr w'=>r=.returned (.bool (aG x ⟨k,a,b,n,s,t,u⟩))∧aa ag w w') ⟨#[O (some ⟨g,0,none⟩),.agg #[I J k,I J a,I J b,I J n,V s,V t,V u],undef,O (some ⟨be,0,none⟩),.bool false,u5,u6,u7,u8,u9,u10,u11,u12,u13,u14,u15,u16,cG,cH,cI,cR,cS,cT,u23,u24,cN,u26,dc,u28,dm,dp,dr,u32,u33,df,dg,u36,dt,u38,dB,dC,dO,dP,dQ,u44,u45,dI,dJ,dK,dL,dD,dE,dF,dR,dS,dT,dM,dG,dH,dw,dx,dy,dz,dA,u64,dh,di,dl,cU,cX,fA,fB,fF,fG,fw,iO,iP,iQ,jN,jO,jP,jQ,jR,jS,jT,jU,jJ,jK,jV,jW,jX,jY,kZ,k9,lc,nd,nT,nU,nV,nW,fH,fJ,fK,fM,fO,fP,fQ,fU,ej,eo,ep,ew,ey,eA,eB,eC,eD,eF,eG,eH,eI,eJ,eK,eM,eO,eP,eQ,eU,eV,eW,eX,eY,eZ,fh,fj,fk,fl,fp,u138,fq,fV,fW,fX,fY,fZ,gb,gc,gg,gh,gS,gT,gU,gV,gW,gX,gY,gZ,g9,hZ,ie,ig,ii,jZ,j9,iW,iX,iY,iZ,i7,ja,jb,jc,jd,je,jf,jg,jh,ji,jk,jl,jm,jn,jo,jp,jq,jr,js,jt,ju,jw,jz,jA,jB,u193,jC,jD,ke,kg,u198,kh,ki,kj,km,ko,lG,lH,lI,lJ,lK,lL,lM,lN,lO,lQ,lh,li,lj,lm,lp,lq,lr,ox,oy,oz,oB,oC,oD,oF,oG,oH,oI,oJ,oK,oL,oM,oN,oO,oP,oQ,oT,oU,oV,oW,oX,oY,oZ,o0,o8,o9,pc,pd,pg,pj,pk],[]⟩ wc:=by
 have e:ai 2 (ae Tryz.f51)=.seq (aD (ai 2 (ae Tryz.f51))) (ai 3 (ae Tryz.f51)):=by kernel_rfl
 rw[e];clear e;refine wp_seq_k λK hK=>?_
 have pw:Hid (∀W,aa ag wc W→(λW=>aa ag wc W∧W.cell? ⟨g,1,none⟩=some (.map (some M.fo))∧W.cell? ⟨be,1,none⟩=some (I J a)∧(Instr.lookup 106 (.map (some M.fo)) (I J a) true).run pQ W=.ok (.tuple #[.agg #[I J (iH x a).id,I J (iH x a).inn,V (iH x a).name],.bool (bl bh.id a x.fols)]) W) W):=λW hf=>⟨hf,(hS.nix hf).cells.2.1,(az (hB.frm hf id)).2.1,(hS.nix hf).folLook2 ha⟩
 have HK:Hid (∀(a':Unit) (w':World),aa ag wc w'→aH w' g M x∧aa ag w w'∧aj w' be 42 #[I J k,I J a,I J b,I J n,V s,V t,V u]):=λ_ w' hf=>⟨hS.nix hf,hF.trans hf,hB.frm hf id⟩
 have hf0:=fR wc;simp only[aD,ai,ae,Tryz.f51];clear hS hF hB
 go_region_held3 (λW=>aa ag wc W∧W.cell? ⟨g,1,none⟩=some (.map (some M.fo))∧W.cell? ⟨be,1,none⟩=some (I J a)∧(Instr.lookup 106 (.map (some M.fo)) (I J a) true).run pQ W=.ok (.tuple #[.agg #[I J (iH x a).id,I J (iH x a).inn,V (iH x a).name],.bool (bl bh.id a x.fols)]) W) (first|exact pw.out _ hf0|exact pw.out _ (aa.drew hf0)|exact pw.out _ (aa.alloc (by assumption) _)|exact pw.out _ (aa.alloc (aa.drew (by assumption)) _)|exact pw.out _ (aa.drew (by assumption))|exact pw.out _ (by assumption)) (first|fail)
 all_goals
  go_wp2;exact Mt (HK.out () _ (aa.alloc hf0 _).drew).1 (HK.out () _ (aa.alloc hf0 _).drew).2.1 k a b n s t u (HK.out () _ (aa.alloc hf0 _).drew).2.2 he ha hb
theorem Hi(h:aH w g M x)(k a b n:Int)(s t u:ByteArray)(he:aM ⟨k,a,b,n,s,t,u⟩=true)(ha:bn a)(hb:bn b):
  Calls pQ 51 #[O (some ⟨g,0,none⟩),bQ ⟨k,a,b,n,s,t,u⟩] w λr w'=>r=.returned (.bool (aG x ⟨k,a,b,n,s,t,u⟩))∧aa ag w w':=by
 obtain⟨w0,hw0⟩:∃w0,w0=w.alloc (.cells #[I J k,I J a,I J b,I J n,V s,V t,V u] 42):=⟨_,rfl⟩;have ar:aa ag w w0:=by rw[hw0];exact(fR w).alloc _
 have lS:Hid (aj w0 w.heap.size 42 #[I J k,I J a,I J b,I J n,V s,V t,V u]):=by rw[hw0];exact aj.new w _ _
 have KC:=λW=>sw ⟨k,a,b,n,s,t,u⟩ W
 rw[he,if_pos rfl] at KC;have HS:Hid (aH w0 g M x):=h.nix ar;have HC:=h_ ar;have HW:=h_ hw0;clear h ar hw0;unfold bQ at *;go_enter Tryz.func51,Tryz.ntmps51;show Code.wp pQ (ai 0 (ae Tryz.f51)) _ _ _
 have e0:ai 0 (ae Tryz.f51)=.seq (aD (ai 0 (ae Tryz.f51))) (ai 1 (ae Tryz.f51)):=by kernel_rfl
 rw[e0];clear e0;refine wp_seq_k λK hK=>?_
 conv in aD _=>whnf
 go_wp2;refine aC (k':=2) λK hK=>?_
 conv in aD _=>whnf
 go_wp2_with (go_at_call 99;refine(KC _).mono ?_;rintro r w1 ⟨rfl,gI⟩);rw[←HW.out] at gI;exact Mu (HS.out.nix gI) (HC.out.trans gI) k a b n s t u (lS.out.frm gI id) he ha hb
theorem wE(h:aH w g M x)(e:Ev)(ha:bn e.a)(hb:bn e.b):
  Calls pQ 51 #[O (some ⟨g,0,none⟩),bQ e] w λr w'=>r=.returned (.bool (aG x e))∧aa ag w w':=by
 cases he:aM e with
 | false=>
   have hf:aG x e=false:=by simp[aG,he]
   rw[hf]
   exact JF h e he
 | true=>exact Hi h e.kind e.a e.b e.n e.s e.t e.u he ha hb
end Go.Proofs.YtaecjmiobllhmaaGreat
