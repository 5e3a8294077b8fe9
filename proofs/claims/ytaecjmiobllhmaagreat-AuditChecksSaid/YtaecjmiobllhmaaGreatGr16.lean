/- Words. -/
import Derived.Test.YtaecjmiobllhmaaGreatGr13
import Derived.Deep.Cut
import Derived.Deep.CutRange
import Derived.Deep.DeepCutAuto
set_option linter.unusedVariables false
set_option linter.unusedSimpArgs false
set_option maxRecDepth 100000
set_option maxHeartbeats 16000000
namespace Go.Proofs.YtaecjmiobllhmaaGreat
open Go.Value renaming int→I,string→V,pointer→O
open Go.IntKind renaming i64→J
open Tryz renaming prog→pQ
open Go.RowKit Go.Lib
variable {i:Int}{s:ByteArray}{u5 u7 u9 u11 u13 u14 u15 u16 cG cH cI cR cS cT u23 u24 cN u26 dc u28 dm dp dr u32 u33 df dg u36 dt u38 dB dC dO dP dQ u44 u45 dI dJ dK dL dD dE dF dR dS dT dM dG dH dw dx dy dz dA u64 dh di dl cU cX fA fB fF fG fw iO iP iQ jN jO jP jQ jR jS jT jU jJ jK jV jW jX jY kZ k9 lc nd nT nU nV nW fH fJ fK fM fO fP fQ fU ej eo ep ew ey eA eB eC eD eF eG eH eI eJ eK eM eO eP eQ eU eV eW eX eY eZ fh fj fk fl fp u138 fq fV fW fX fY fZ gb gc gg gh gS gT gU gV gW gX gY gZ g9 hZ ie ig ii jZ j9 iW iX iY iZ i7 ja jb jc jd je jf jg jh ji jk jl jm jn jo jp jq jr js jt ju jw jz jA jB u193 jC jD ke kg u198 kh ki kj km ko lG lH lI lJ lK lL lM lN lO lQ lh li lj lm lp lq lr ox oy oz oB oC oD oF oG oH oI oJ oK oL oM oN oO oP oQ oT oU oV oW oX oY oZ o0 o8 o9 pc pd pg pj pk:Value}
section
theorem gO{w:World}{a:Addr}{v:Value}(h:w.cell? a=some v):a.block<w.heap.size:=World.block_lt_of_cell? w _ h
section
variable {w:World} {g:Nat} {M:Ms} {x:St}
theorem aH.feeLook2(h:aH w g M x)(hi:bn i):(Instr.lookup 107 (.map (some M.fe)) (I J i) true).run pQ w=.ok (.tuple #[.agg #[I J (au x i).id,I J (au x i).inn,V (au x i).url,V (au x i).title],.bool (bl aX.id i x.fees)]) w:=by
 rw[h.feeLook hi true];rfl
theorem aH.seaLook2(h:aH w g M x)(hi:bn i):(Instr.lookup 109 (.map (some M.se)) (I J i) true).run pQ w=.ok (.tuple #[.agg #[I J (qG x i).id,V (qG x i).name,V (qG x i).query],.bool (bl ce.id i x.seas)]) w:=by
 rw[h.seaLook hi true];rfl
theorem aH.itmSl(h:aH w g M x)(hi:bn i):∃v:Sl,∀W,aa ag w W→bF W v (ah x i).tags∧∀ok,(Instr.lookup 108 (.map (some M.it)) (I J i) ok).run pQ W=.ok (if ok=true then .tuple #[iG v (ah x i),.bool (bl aR.id i x.itms)] else iG v (ah x i)) W:=by
 obtain⟨sl,h1,h2⟩:=h.maps.it;refine⟨if bl aR.id i x.itms=true then sl i else (none,0),λW hf=>?_⟩;have h1':=h1.frm hf id;have tN:=qm (g:=aR.id) (id:=i) (l:=x.itms);unfold ah
 cases ha:kS aR.id i x.itms with
 | some t=>
   rw[ha] at tN;obtain⟨h3,h4⟩:=gM ha;have Me:bl aR.id i x.itms=true:=tN.symm;rw[if_pos Me];have h5:=(h2 t h3).frm hf λ_ _=>id
   rw[h4] at h5;refine⟨h5,λok=>?_⟩;have:=nQ cE h1' Tryz.underlying108 (pN hi) (Jv W) ok;unfold kI at this;rw[this,ha];show _=Result.ok (if ok=true then Value.tuple #[iG (sl i) t,_] else iG (sl i) t) W
   rw[←h4]
   rfl
 | none=>
   rw[ha] at tN;have Me:bl aR.id i x.itms=false:=tN.symm;rw[if_neg (by rw[Me];simp)];refine⟨⟨Rd.none_,λ_=>rfl,Nat.le_refl _,Nat.zero_le _⟩,λok=>?_⟩;have:=nQ cE h1' Tryz.underlying108 (pN hi) (Jv W) ok;unfold kI at this;rw[this,ha];rfl
theorem aH.itmLook2{v:Sl}{W:World}(h:∀ok,(Instr.lookup 108 (.map (some M.it)) (I J i) ok).run pQ W=.ok (if ok=true then .tuple #[iG v (ah x i),.bool (bl aR.id i x.itms)] else iG v (ah x i)) W):
  (Instr.lookup 108 (.map (some M.it)) (I J i) true).run pQ W=.ok (.tuple #[.agg (nr v (ah x i)),.bool (bl aR.id i x.itms)]) W:=h true
end
theorem nX(h:kF s=true):s.size≤512:=by
 unfold kF pD gQ at h;simp at h;omega
theorem E9{x:St}{a b n:Int}{s t u:ByteArray}(he:aM ⟨10,a,b,n,s,t,u⟩=true):aG x ⟨10,a,b,n,s,t,u⟩=(bl aR.id a x.itms&&(decide (n=0)||(ah x a).tags.any (λy=>decide (y=s))||decide ((ah x a).tags.length<8))):=by
 have tN:=qm (g:=aR.id) (id:=a) (l:=x.itms);unfold aG ah;rw[if_neg (by rw[he];simp)];simp
 cases hat:kS aR.id a x.itms with
 | none=>
   rw[hat] at tN;have tN:bl aR.id a x.itms=false:=tN.symm
   simp[tN]
 | some y=>
   rw[hat] at tN;have tN:bl aR.id a x.itms=true:=tN.symm;simp[tN];rfl
theorem JF{w:World}{g:Nat}{M:Ms}{x:St}(h:aH w g M x)(e:Ev)(he:aM e=false):
  Calls pQ 51 #[O (some ⟨g,0,none⟩),bQ e] w λr w'=>r=.returned (.bool false)∧aa ag w w':=by
 have ar:aa ag w (w.alloc (.cells #[I J e.kind,I J e.a,I J e.b,I J e.n,V e.s,V e.t,V e.u] 42)):=(fR w).alloc _;have KC:=λW=>sw e W
 rw[he,if_neg (by simp)] at KC;clear h;unfold bQ at *;go_enter Tryz.func51,Tryz.ntmps51;go_wp2_with (go_at_call 99;refine(KC _).mono ?_;rintro r w' ⟨rfl,hf'⟩);go_ret;exact⟨rfl,ar.trans hf'⟩
end
theorem Mf{w wc:World}{g be:Nat}{M:Ms}{x:St}(hS:aH wc g M x)(hF:aa ag w wc)(a b n:Int)(s t u:ByteArray)(hB:aj wc be 42 #[I J 1,I J a,I J b,I J n,V s,V t,V u])(he:aM ⟨1,a,b,n,s,t,u⟩=true)(ha:bn a)(hb:bn b):
  Code.wp pQ (ai 6 (ae Tryz.f51)) (bodyPost pQ Tryz.f51 λr w'=>r=.returned (.bool (aG x ⟨1,a,b,n,s,t,u⟩))∧aa ag w w') ⟨#[O (some ⟨g,0,none⟩),.agg #[I J 1,I J a,I J b,I J n,V s,V t,V u],undef,O (some ⟨be,0,none⟩),.bool false,u5,.bool (bl bh.id a x.fols),u7,.bool (bl aX.id a x.fees),u9,.bool (bl aR.id a x.itms),u11,.bool (bl ce.id a x.seas),u13,u14,u15,u16,cG,cH,cI,cR,cS,cT,u23,u24,cN,u26,dc,u28,dm,dp,dr,u32,u33,df,dg,u36,dt,u38,dB,dC,dO,dP,dQ,u44,u45,dI,dJ,dK,dL,dD,dE,dF,dR,dS,dT,dM,dG,dH,dw,dx,dy,dz,dA,u64,dh,di,dl,cU,cX,fA,fB,fF,fG,fw,iO,iP,iQ,jN,jO,jP,jQ,jR,jS,jT,jU,jJ,jK,jV,jW,jX,jY,kZ,k9,lc,nd,nT,nU,nV,nW,fH,fJ,fK,fM,fO,fP,fQ,fU,ej,eo,ep,ew,ey,eA,eB,eC,eD,eF,eG,eH,eI,eJ,eK,eM,eO,eP,eQ,eU,eV,eW,eX,eY,eZ,fh,fj,fk,fl,fp,u138,fq,fV,fW,fX,fY,fZ,gb,gc,gg,gh,gS,gT,gU,gV,gW,gX,gY,gZ,g9,hZ,ie,ig,ii,jZ,j9,iW,iX,iY,iZ,i7,ja,jb,jc,jd,je,jf,jg,jh,ji,jk,jl,jm,jn,jo,jp,jq,jr,js,jt,ju,jw,jz,jA,jB,u193,jC,jD,ke,kg,u198,kh,ki,kj,km,ko,lG,lH,lI,lJ,lK,lL,lM,lN,lO,lQ,lh,li,lj,lm,lp,lq,lr,ox,oy,oz,oB,oC,oD,oF,oG,oH,oI,oJ,oK,oL,oM,oN,oO,oP,oQ,oT,oU,oV,oW,oX,oY,oZ,o0,o8,o9,pc,pd,pg,pj,pk],[]⟩ wc:=by
 have mS:Hid (aH wc g M x):=hS;have nY:Hid (aa ag w wc):=hF;have lS:Hid (aj wc be 42 #[I J 1,I J a,I J b,I J n,V s,V t,V u]):=hB;have En:=fR wc;obtain⟨c0,c1,c2,c3,c4,c5,c6,c7,c8,c9,c10,c11,c12⟩:=mS.out.cells;obtain⟨d0,d1,d2,d3,d4,d5,d6⟩:=az hB;clear hS hF hB;simp only[ai,ae,Tryz.f51]
 have HE:Hid (aG x ⟨1,a,b,n,s,t,u⟩=(!bl bh.id a x.fols&&decide (x.fols.length<64)&&nL x b&&decide (gv x b<7)&&!nK x b s)):=by
  unfold Hid aG;rw[if_neg (by rw[he];simp)];simp
 have hsz:s.size≤maxLen:=by
  have h1:=he;rw[show (⟨1,a,b,n,s,t,u⟩:Ev)=⟨1,a,b,0,s,eS,eS⟩ from CS he rfl,LX] at h1;simp only[Bool.and_eq_true] at h1;have:=qj h1.2;have:=mo;omega
 have q1:∀y:FW (aa ag wc),y.w.cell? ⟨g,1,none⟩=some (.map (some M.fo)):=λy=>(y.h.cell (gO c1) id).trans c1
 have q5:∀y:FW (aa ag wc),y.w.cell? ⟨g,5,none⟩=some (.map (some M.na)):=λy=>(y.h.cell (gO c5) id).trans c5
 have p2:∀y:FW (aa ag wc),y.w.cell? ⟨be,2,none⟩=some (I J b):=λy=>(y.h.cell (gO d2) id).trans d2
 have p4:∀y:FW (aa ag wc),y.w.cell? ⟨be,4,none⟩=some (V s):=λy=>(y.h.cell (gO d4) id).trans d4
 have ln:∀(y:FW (aa ag wc)) (ty:TypeId),(Builtin.len_ #[106] ty #[.map (some M.fo)]).run pQ y.w=.ok (I J x.fols.length) y.w:=λy ty=>by
  have:=(mS.out.nix y.h).maps.fo.len (P:=pQ) Tryz.underlying106 ty
  simpa using this
 have nl:∀y:FW (aa ag wc),(Instr.lookup 110 (.map (some M.na)) (.agg #[I J b,V s]) false).run pQ y.w=.ok (I J (Ei x b s)) y.w:=λy=>(mS.out.nix y.h).nameLook hb hsz
 have KW:=λy:FW (aa ag wc)=>kB (mS.out.nix y.h) hb
 have KD:=λy:FW (aa ag wc)=>G8 (mS.out.nix y.h) hb
 have GM:=E1 mS.out.ok b s;clear c0 c2 c3 c4 c6 c7 c8 c9 c10 c11 c12 hsz;generalize Ei x b s=ni at *;generalize nK x b s=nm at *;generalize nL x b=ib at *;generalize gv x b=db at *;generalize bl bh.id a x.fols=ia at *;generalize x.fols.length=ll at *
 cases ia
 ·by_cases h2:ll<64
  ·have k2:decide ((ll:Int)<64)=true:=by simp;omega
   cases ib
   ·skip
    go_wp2_with fail;refine ak (aa ag wc) ((fR wc).drew) (by kernel_rfl) (by kernel_rfl) ?_
    repeat (go_big_quiet_step (first
     | (rename_i y;go_at_call 100;refine y.call (KW y) ?_;exact λw' hf=>y.h.trans hf)
     | (rename_i y;go_at_call 101;refine y.call (KD y) ?_;exact λw' hf=>y.h.trans hf)
     | fail))
    refine wpQuiet_nil ?_;rintro w2 ⟨⟨_,hf2⟩,rfl⟩;go_wp2;go_ret;exact⟨af (by rw[HE.out];try simp[*]),nY.out.trans hf2⟩
   ·by_cases h4:db<7
    ·have k4:decide ((db:Int)<7)=true:=by simp;omega
     cases nm
     all_goals
      simp only[Bool.not_false,Bool.not_true] at GM;go_wp2_with fail;refine ak (aa ag wc) ((fR wc).drew) (by kernel_rfl) (by kernel_rfl) ?_
      repeat (go_big_quiet_step (first
       | (rename_i y;go_at_call 100;refine y.call (KW y) ?_;exact λw' hf=>y.h.trans hf)
       | (rename_i y;go_at_call 101;refine y.call (KD y) ?_;exact λw' hf=>y.h.trans hf)
       | fail))
      refine wpQuiet_nil ?_;rintro w2 ⟨⟨_,hf2⟩,rfl⟩;go_wp2;go_ret;exact⟨af (by rw[HE.out];try simp[*]),nY.out.trans hf2⟩
    ·have k4:decide ((db:Int)<7)=false:=by simp;omega
     go_wp2_with fail;refine ak (aa ag wc) ((fR wc).drew) (by kernel_rfl) (by kernel_rfl) ?_
     repeat (go_big_quiet_step (first
      | (rename_i y;go_at_call 100;refine y.call (KW y) ?_;exact λw' hf=>y.h.trans hf)
      | (rename_i y;go_at_call 101;refine y.call (KD y) ?_;exact λw' hf=>y.h.trans hf)
      | fail))
     refine wpQuiet_nil ?_;rintro w2 ⟨⟨_,hf2⟩,rfl⟩;go_wp2;go_ret;exact⟨af (by rw[HE.out];try simp[*]),nY.out.trans hf2⟩
  ·have k2:decide ((ll:Int)<64)=false:=by simp;omega
   go_wp2_with fail;refine ak (aa ag wc) ((fR wc).drew) (by kernel_rfl) (by kernel_rfl) ?_
   repeat (go_big_quiet_step (first
    | (rename_i y;go_at_call 100;refine y.call (KW y) ?_;exact λw' hf=>y.h.trans hf)
    | (rename_i y;go_at_call 101;refine y.call (KD y) ?_;exact λw' hf=>y.h.trans hf)
    | fail))
   refine wpQuiet_nil ?_;rintro w2 ⟨⟨_,hf2⟩,rfl⟩;go_wp2;go_ret;exact⟨af (by rw[HE.out];try simp[*]),nY.out.trans hf2⟩
 ·skip
  go_wp2_with fail;refine ak (aa ag wc) ((fR wc).drew) (by kernel_rfl) (by kernel_rfl) ?_
  repeat (go_big_quiet_step (first
   | (rename_i y;go_at_call 100;refine y.call (KW y) ?_;exact λw' hf=>y.h.trans hf)
   | (rename_i y;go_at_call 101;refine y.call (KD y) ?_;exact λw' hf=>y.h.trans hf)
   | fail))
  refine wpQuiet_nil ?_;rintro w2 ⟨⟨_,hf2⟩,rfl⟩;go_wp2;go_ret;exact⟨af (by rw[HE.out];try simp[*]),nY.out.trans hf2⟩
theorem Mg{w wc:World}{g be:Nat}{M:Ms}{x:St}(hS:aH wc g M x)(hF:aa ag w wc)(a b n:Int)(s t u:ByteArray)(hB:aj wc be 42 #[I J 2,I J a,I J b,I J n,V s,V t,V u])(he:aM ⟨2,a,b,n,s,t,u⟩=true)(ha:bn a)(hb:bn b):
  Code.wp pQ (ai 6 (ae Tryz.f51)) (bodyPost pQ Tryz.f51 λr w'=>r=.returned (.bool (aG x ⟨2,a,b,n,s,t,u⟩))∧aa ag w w') ⟨#[O (some ⟨g,0,none⟩),.agg #[I J 2,I J a,I J b,I J n,V s,V t,V u],undef,O (some ⟨be,0,none⟩),.bool false,u5,.bool (bl bh.id a x.fols),u7,.bool (bl aX.id a x.fees),u9,.bool (bl aR.id a x.itms),u11,.bool (bl ce.id a x.seas),u13,u14,u15,u16,cG,cH,cI,cR,cS,cT,u23,u24,cN,u26,dc,u28,dm,dp,dr,u32,u33,df,dg,u36,dt,u38,dB,dC,dO,dP,dQ,u44,u45,dI,dJ,dK,dL,dD,dE,dF,dR,dS,dT,dM,dG,dH,dw,dx,dy,dz,dA,u64,dh,di,dl,cU,cX,fA,fB,fF,fG,fw,iO,iP,iQ,jN,jO,jP,jQ,jR,jS,jT,jU,jJ,jK,jV,jW,jX,jY,kZ,k9,lc,nd,nT,nU,nV,nW,fH,fJ,fK,fM,fO,fP,fQ,fU,ej,eo,ep,ew,ey,eA,eB,eC,eD,eF,eG,eH,eI,eJ,eK,eM,eO,eP,eQ,eU,eV,eW,eX,eY,eZ,fh,fj,fk,fl,fp,u138,fq,fV,fW,fX,fY,fZ,gb,gc,gg,gh,gS,gT,gU,gV,gW,gX,gY,gZ,g9,hZ,ie,ig,ii,jZ,j9,iW,iX,iY,iZ,i7,ja,jb,jc,jd,je,jf,jg,jh,ji,jk,jl,jm,jn,jo,jp,jq,jr,js,jt,ju,jw,jz,jA,jB,u193,jC,jD,ke,kg,u198,kh,ki,kj,km,ko,lG,lH,lI,lJ,lK,lL,lM,lN,lO,lQ,lh,li,lj,lm,lp,lq,lr,ox,oy,oz,oB,oC,oD,oF,oG,oH,oI,oJ,oK,oL,oM,oN,oO,oP,oQ,oT,oU,oV,oW,oX,oY,oZ,o0,o8,o9,pc,pd,pg,pj,pk],[]⟩ wc:=by
 have mS:Hid (aH wc g M x):=hS;have nY:Hid (aa ag w wc):=hF;have lS:Hid (aj wc be 42 #[I J 2,I J a,I J b,I J n,V s,V t,V u]):=hB;have En:=fR wc;obtain⟨c0,c1,c2,c3,c4,c5,c6,c7,c8,c9,c10,c11,c12⟩:=mS.out.cells;obtain⟨d0,d1,d2,d3,d4,d5,d6⟩:=az hB;clear hS hF hB;simp only[ai,ae,Tryz.f51]
 have HE:Hid (aG x ⟨2,a,b,n,s,t,u⟩=(bl bh.id a x.fols&&kM x a)):=by
  unfold Hid aG;rw[if_neg (by rw[he];simp)];simp
 have ha0:a≠0:=by
  have:=nN he;simp[aB] at this;have:=iD.1 this;omega
 have q8:∀y:FW (aa ag wc),y.w.cell? ⟨g,8,none⟩=some (.map (some M.he)):=λy=>(y.h.cell (gO c8) id).trans c8
 have p1:∀y:FW (aa ag wc),y.w.cell? ⟨be,1,none⟩=some (I J a):=λy=>(y.h.cell (gO d1) id).trans d1
 have nl:∀y:FW (aa ag wc),(Instr.lookup 113 (.map (some M.he)) (I J a) false).run pQ y.w=.ok (I J (bq x a)) y.w:=λy=>(mS.out.nix y.h).heldLook ha ha0
 have GM:=E2 x a;clear c0 c1 c2 c3 c4 c5 c6 c7 c9 c10 c11 c12;generalize bq x a=ni at *;generalize kM x a=nm at *;generalize bl bh.id a x.fols=ia at *
 cases ia
 ·skip
  go_wp2_with fail;refine ak (aa ag wc) ((fR wc).drew) (by kernel_rfl) (by kernel_rfl) ?_
  repeat (go_big_quiet_step (first
   | (rename_i y;go_at_call 100;refine y.call (KW y) ?_;exact λw' hf=>y.h.trans hf)
   | (rename_i y;go_at_call 101;refine y.call (KD y) ?_;exact λw' hf=>y.h.trans hf)
   | fail))
  refine wpQuiet_nil ?_;rintro w2 ⟨⟨_,hf2⟩,rfl⟩;go_wp2;go_ret;exact⟨af (by rw[HE.out];try simp[*]),nY.out.trans hf2⟩
 ·cases nm
  all_goals
   go_wp2_with fail;refine ak (aa ag wc) ((fR wc).drew) (by kernel_rfl) (by kernel_rfl) ?_
   repeat (go_big_quiet_step (first
    | (rename_i y;go_at_call 100;refine y.call (KW y) ?_;exact λw' hf=>y.h.trans hf)
    | (rename_i y;go_at_call 101;refine y.call (KD y) ?_;exact λw' hf=>y.h.trans hf)
    | fail))
   refine wpQuiet_nil ?_;rintro w2 ⟨⟨_,hf2⟩,rfl⟩;go_wp2;go_ret;exact⟨af (by rw[HE.out];try simp[*]),nY.out.trans hf2⟩
theorem Mh{w wc:World}{g be:Nat}{M:Ms}{x:St}(hS:aH wc g M x)(hF:aa ag w wc)(a b n:Int)(s t u:ByteArray)(hB:aj wc be 42 #[I J 3,I J a,I J b,I J n,V s,V t,V u])(he:aM ⟨3,a,b,n,s,t,u⟩=true)(ha:bn a)(hb:bn b):
  Code.wp pQ (ai 6 (ae Tryz.f51)) (bodyPost pQ Tryz.f51 λr w'=>r=.returned (.bool (aG x ⟨3,a,b,n,s,t,u⟩))∧aa ag w w') ⟨#[O (some ⟨g,0,none⟩),.agg #[I J 3,I J a,I J b,I J n,V s,V t,V u],undef,O (some ⟨be,0,none⟩),.bool false,u5,.bool (bl bh.id a x.fols),u7,.bool (bl aX.id a x.fees),u9,.bool (bl aR.id a x.itms),u11,.bool (bl ce.id a x.seas),u13,u14,u15,u16,cG,cH,cI,cR,cS,cT,u23,u24,cN,u26,dc,u28,dm,dp,dr,u32,u33,df,dg,u36,dt,u38,dB,dC,dO,dP,dQ,u44,u45,dI,dJ,dK,dL,dD,dE,dF,dR,dS,dT,dM,dG,dH,dw,dx,dy,dz,dA,u64,dh,di,dl,cU,cX,fA,fB,fF,fG,fw,iO,iP,iQ,jN,jO,jP,jQ,jR,jS,jT,jU,jJ,jK,jV,jW,jX,jY,kZ,k9,lc,nd,nT,nU,nV,nW,fH,fJ,fK,fM,fO,fP,fQ,fU,ej,eo,ep,ew,ey,eA,eB,eC,eD,eF,eG,eH,eI,eJ,eK,eM,eO,eP,eQ,eU,eV,eW,eX,eY,eZ,fh,fj,fk,fl,fp,u138,fq,fV,fW,fX,fY,fZ,gb,gc,gg,gh,gS,gT,gU,gV,gW,gX,gY,gZ,g9,hZ,ie,ig,ii,jZ,j9,iW,iX,iY,iZ,i7,ja,jb,jc,jd,je,jf,jg,jh,ji,jk,jl,jm,jn,jo,jp,jq,jr,js,jt,ju,jw,jz,jA,jB,u193,jC,jD,ke,kg,u198,kh,ki,kj,km,ko,lG,lH,lI,lJ,lK,lL,lM,lN,lO,lQ,lh,li,lj,lm,lp,lq,lr,ox,oy,oz,oB,oC,oD,oF,oG,oH,oI,oJ,oK,oL,oM,oN,oO,oP,oQ,oT,oU,oV,oW,oX,oY,oZ,o0,o8,o9,pc,pd,pg,pj,pk],[]⟩ wc:=by
 have mS:Hid (aH wc g M x):=hS;have nY:Hid (aa ag w wc):=hF;have lS:Hid (aj wc be 42 #[I J 3,I J a,I J b,I J n,V s,V t,V u]):=hB;have En:=fR wc;obtain⟨c0,c1,c2,c3,c4,c5,c6,c7,c8,c9,c10,c11,c12⟩:=mS.out.cells;obtain⟨d0,d1,d2,d3,d4,d5,d6⟩:=az hB;clear hS hF hB;simp only[ai,ae,Tryz.f51]
 have HE:Hid (aG x ⟨3,a,b,n,s,t,u⟩=(!bl aX.id a x.fees&&decide (x.fees.length<64)&&nL x b&&decide (dX x s=0))):=by
  unfold Hid aG;rw[if_neg (by rw[he];simp)];simp
 have hsz:s.size≤maxLen:=by
  have h1:=he;rw[show (⟨3,a,b,n,s,t,u⟩:Ev)=⟨3,a,b,0,s,t,eS⟩ from CT he rfl,Lf] at h1;simp only[Bool.and_eq_true] at h1;have:=nX h1.1.2;have:=mo;omega
 have q2:∀y:FW (aa ag wc),y.w.cell? ⟨g,2,none⟩=some (.map (some M.fe)):=λy=>(y.h.cell (gO c2) id).trans c2
 have q6:∀y:FW (aa ag wc),y.w.cell? ⟨g,6,none⟩=some (.map (some M.pl)):=λy=>(y.h.cell (gO c6) id).trans c6
 have p2:∀y:FW (aa ag wc),y.w.cell? ⟨be,2,none⟩=some (I J b):=λy=>(y.h.cell (gO d2) id).trans d2
 have p4:∀y:FW (aa ag wc),y.w.cell? ⟨be,4,none⟩=some (V s):=λy=>(y.h.cell (gO d4) id).trans d4
 have ln:∀(y:FW (aa ag wc)) (ty:TypeId),(Builtin.len_ #[107] ty #[.map (some M.fe)]).run pQ y.w=.ok (I J x.fees.length) y.w:=λy ty=>by
  have:=(mS.out.nix y.h).maps.fe.len (P:=pQ) Tryz.underlying107 ty
  simpa using this
 have nl:∀y:FW (aa ag wc),(Instr.lookup 111 (.map (some M.pl)) (V s) false).run pQ y.w=.ok (I J (dX x s)) y.w:=λy=>(mS.out.nix y.h).placeLook hsz false
 have KW:=λy:FW (aa ag wc)=>kB (mS.out.nix y.h) hb
 clear c0 c1 c3 c4 c5 c7 c8 c9 c10 c11 c12 hsz;generalize dX x s=ni at *;generalize nL x b=ib at *;generalize bl aX.id a x.fees=ia at *;generalize x.fees.length=ll at *
 cases ia
 ·by_cases h2:ll<64
  ·have k2:decide ((ll:Int)<64)=true:=by simp;omega
   cases ib
   ·skip
    go_wp2_with fail;refine ak (aa ag wc) ((fR wc).drew) (by kernel_rfl) (by kernel_rfl) ?_
    repeat (go_big_quiet_step (first
     | (rename_i y;go_at_call 100;refine y.call (KW y) ?_;exact λw' hf=>y.h.trans hf)
     | (rename_i y;go_at_call 101;refine y.call (KW y) ?_;exact λw' hf=>y.h.trans hf)
     | fail))
    refine wpQuiet_nil ?_;rintro w2 ⟨⟨_,hf2⟩,rfl⟩;go_wp2;go_ret;exact⟨af (by rw[HE.out];try simp[*]),nY.out.trans hf2⟩
   ·by_cases h4:ni=0
    ·have GM:(ni==0)=true:=by simp[h4]
     subst h4;go_wp2_with fail;refine ak (aa ag wc) ((fR wc).drew) (by kernel_rfl) (by kernel_rfl) ?_
     repeat (go_big_quiet_step (first
      | (rename_i y;go_at_call 100;refine y.call (KW y) ?_;exact λw' hf=>y.h.trans hf)
      | (rename_i y;go_at_call 101;refine y.call (KD y) ?_;exact λw' hf=>y.h.trans hf)
      | fail))
     refine wpQuiet_nil ?_;rintro w2 ⟨⟨_,hf2⟩,rfl⟩;go_wp2;go_ret;exact⟨af (by rw[HE.out];try simp[*]),nY.out.trans hf2⟩
    ·have GM:(ni==0)=false:=by simp[h4]
     go_wp2_with fail;refine ak (aa ag wc) ((fR wc).drew) (by kernel_rfl) (by kernel_rfl) ?_
     repeat (go_big_quiet_step (first
      | (rename_i y;go_at_call 100;refine y.call (KW y) ?_;exact λw' hf=>y.h.trans hf)
      | (rename_i y;go_at_call 101;refine y.call (KD y) ?_;exact λw' hf=>y.h.trans hf)
      | fail))
     refine wpQuiet_nil ?_;rintro w2 ⟨⟨_,hf2⟩,rfl⟩;go_wp2;go_ret;exact⟨af (by rw[HE.out];try simp[*]),nY.out.trans hf2⟩
  ·have k2:decide ((ll:Int)<64)=false:=by simp;omega
   go_wp2_with fail;refine ak (aa ag wc) ((fR wc).drew) (by kernel_rfl) (by kernel_rfl) ?_
   repeat (go_big_quiet_step (first
    | (rename_i y;go_at_call 100;refine y.call (KW y) ?_;exact λw' hf=>y.h.trans hf)
    | (rename_i y;go_at_call 101;refine y.call (KD y) ?_;exact λw' hf=>y.h.trans hf)
    | fail))
   refine wpQuiet_nil ?_;rintro w2 ⟨⟨_,hf2⟩,rfl⟩;go_wp2;go_ret;exact⟨af (by rw[HE.out];try simp[*]),nY.out.trans hf2⟩
 ·skip
  go_wp2_with fail;refine ak (aa ag wc) ((fR wc).drew) (by kernel_rfl) (by kernel_rfl) ?_
  repeat (go_big_quiet_step (first
   | (rename_i y;go_at_call 100;refine y.call (KW y) ?_;exact λw' hf=>y.h.trans hf)
   | (rename_i y;go_at_call 101;refine y.call (KD y) ?_;exact λw' hf=>y.h.trans hf)
   | fail))
  refine wpQuiet_nil ?_;rintro w2 ⟨⟨_,hf2⟩,rfl⟩;go_wp2;go_ret;exact⟨af (by rw[HE.out];try simp[*]),nY.out.trans hf2⟩
end Go.Proofs.YtaecjmiobllhmaaGreat
