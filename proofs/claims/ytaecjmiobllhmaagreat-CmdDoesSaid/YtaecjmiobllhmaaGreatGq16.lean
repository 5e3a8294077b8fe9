/- Words. -/
import Derived.Test.YtaecjmiobllhmaaGreatGq13
import Derived.Deep.Cut
import Derived.Deep.CutRange
import Derived.Deep.DeepCutAuto
set_option linter.unusedVariables false
set_option linter.unusedSimpArgs false
set_option maxRecDepth 100000
set_option maxHeartbeats 16000000
namespace Go.Proofs.YtaecjmiobllhmaaGreat
open Go.Value renaming int→I,string→V,pointer→O
open Go.IntKind renaming i64→J
open Tryz renaming prog→pQ
open Go.RowKit Go.Lib
variable {i:Int}{s:ByteArray}{u5 u7 u9 u11 u13 u14 u15 u16 eG eH eI eJ eK eM u23 u24 eO u26 eW u28 eX eY eZ u32 u33 fh fj u36 fk u38 fw fx fy fG fH u44 u45 fJ fK gC gD gw gy gj gl gm gp fM fO fP fQ fU fV fW fX u64 fY fZ gc gg gF gO gP gQ gR gS gT gU gV gW gX gY gZ g9 hZ ie ig ii ij il im io ip iw ix iy iz iJ iK iM iO cJ cK cL cM cN cO cP cQ bH bI bJ bK bM bN bO bP bQ bR bS bT bU bV bW bX bY bZ cd cg cj cn cq ct cz cA cC cD cE cF u138 cG cR cS cT cU dz dA dB dC dD dS dT dU dV dW ki kj km ko kq kr kt ku kw kz jt ju jv jw jx jy jz jA jB jC jD jE jF jG jH jI jJ jK jL jM jN jO jP jQ jR jS jT jU jV u193 jW jX kA kB u198 kC kD kE kF kG lN lO lQ lR lS lT lU lV lW lX lw lz lA lB lC lD lF oo oq ot ow ox oy oz oB oC oD oF oG oH oI oJ oK oL oM oN oO oP oQ oT oU oV oW oX oY oZ o0 o8 o9 pc:Value}
section
theorem iG{w:World}{a:Addr}{v:Value}(h:w.cell? a=some v):a.block<w.heap.size:=World.block_lt_of_cell? w _ h
section
variable {w:World} {g:Nat} {M:Ms} {x:St}
theorem aw.feeLook2(h:aw w g M x)(hi:bj i):(Instr.lookup 107 (.map (some M.fe)) (I J i) true).run pQ w=.ok (.tuple #[.agg #[I J (ar x i).id,I J (ar x i).inn,V (ar x i).url,V (ar x i).title],.bool (aS aP.id i x.fees)]) w:=by
 rw[h.feeLook hi true];rfl
theorem aw.seaLook2(h:aw w g M x)(hi:bj i):(Instr.lookup 109 (.map (some M.se)) (I J i) true).run pQ w=.ok (.tuple #[.agg #[I J (lK x i).id,V (lK x i).name,V (lK x i).query],.bool (aS dE.id i x.seas)]) w:=by
 rw[h.seaLook hi true];rfl
theorem aw.itmSl(h:aw w g M x)(hi:bj i):∃v:Sl,∀W,aa ac w W→cI W v (ag x i).tags∧∀ok,(Instr.lookup 108 (.map (some M.it)) (I J i) ok).run pQ W=.ok (if ok=true then .tuple #[jm v (ag x i),.bool (aS aJ.id i x.itms)] else jm v (ag x i)) W:=by
 obtain⟨sl,h1,h2⟩:=h.maps.it;refine⟨if aS aJ.id i x.itms=true then sl i else (none,0),λW hf=>?_⟩;have h1':=h1.frm hf id;have tJ:=mJ (g:=aJ.id) (id:=i) (l:=x.itms);unfold ag
 cases ha:eV aJ.id i x.itms with
 | some t=>
   rw[ha] at tJ;obtain⟨h3,h4⟩:=dG ha;have Ni:aS aJ.id i x.itms=true:=tJ.symm;rw[if_pos Ni];have h5:=(h2 t h3).frm hf λ_ _=>id
   rw[h4] at h5;refine⟨h5,λok=>?_⟩;have:=nL d7 h1' Tryz.underlying108 (pJ hi) (Kw W) ok;unfold kI at this;rw[this,ha];show _=Result.ok (if ok=true then Value.tuple #[jm (sl i) t,_] else jm (sl i) t) W
   rw[←h4]
   rfl
 | none=>
   rw[ha] at tJ;have Ni:aS aJ.id i x.itms=false:=tJ.symm;rw[if_neg (by rw[Ni];simp)];refine⟨⟨Rd.none_,λ_=>rfl,Nat.le_refl _,Nat.zero_le _⟩,λok=>?_⟩;have:=nL d7 h1' Tryz.underlying108 (pJ hi) (Kw W) ok;unfold kI at this;rw[this,ha];rfl
theorem aw.itmLook2{v:Sl}{W:World}(h:∀ok,(Instr.lookup 108 (.map (some M.it)) (I J i) ok).run pQ W=.ok (if ok=true then .tuple #[jm v (ag x i),.bool (aS aJ.id i x.itms)] else jm v (ag x i)) W):
  (Instr.lookup 108 (.map (some M.it)) (I J i) true).run pQ W=.ok (.tuple #[.agg (nj v (ag x i)),.bool (aS aJ.id i x.itms)]) W:=h true
end
theorem nN(h:iD s=true):s.size≤512:=by
 unfold iD nH dQ at h;simp at h;omega
theorem Gb{x:St}{a b n:Int}{s t u:ByteArray}(he:aQ ⟨10,a,b,n,s,t,u⟩=true):av x ⟨10,a,b,n,s,t,u⟩=(aS aJ.id a x.itms&&(decide (n=0)||(ag x a).tags.any (λy=>decide (y=s))||decide ((ag x a).tags.length<8))):=by
 have tJ:=mJ (g:=aJ.id) (id:=a) (l:=x.itms);unfold av ag;rw[if_neg (by rw[he];simp)];simp
 cases hat:eV aJ.id a x.itms with
 | none=>
   rw[hat] at tJ;have tJ:aS aJ.id a x.itms=false:=tJ.symm
   simp[tJ]
 | some y=>
   rw[hat] at tJ;have tJ:aS aJ.id a x.itms=true:=tJ.symm;simp[tJ];rfl
theorem KJ{w:World}{g:Nat}{M:Ms}{x:St}(h:aw w g M x)(e:Ev)(he:aQ e=false):
  Calls pQ 51 #[O (some ⟨g,0,none⟩),dt e] w λr w'=>r=.returned (.bool false)∧aa ac w w':=by
 have az:aa ac w (w.alloc (.cells #[I J e.kind,I J e.a,I J e.b,I J e.n,V e.s,V e.t,V e.u] 42)):=(fR w).alloc _;have KC:=λW=>wh e W
 rw[he,if_neg (by simp)] at KC;clear h;unfold dt at *;go_enter Tryz.func51,Tryz.ntmps51;go_wp2_with (go_at_call 99;refine(KC _).mono ?_;rintro r w' ⟨rfl,hf'⟩);go_ret;exact⟨rfl,az.trans hf'⟩
end
theorem Nj{w wc:World}{g be:Nat}{M:Ms}{x:St}(hS:aw wc g M x)(hF:aa ac w wc)(a b n:Int)(s t u:ByteArray)(hB:ai wc be 42 #[I J 1,I J a,I J b,I J n,V s,V t,V u])(he:aQ ⟨1,a,b,n,s,t,u⟩=true)(ha:bj a)(hb:bj b):
  Code.wp pQ (aj 6 (ae Tryz.f51)) (bodyPost pQ Tryz.f51 λr w'=>r=.returned (.bool (av x ⟨1,a,b,n,s,t,u⟩))∧aa ac w w') ⟨#[O (some ⟨g,0,none⟩),.agg #[I J 1,I J a,I J b,I J n,V s,V t,V u],undef,O (some ⟨be,0,none⟩),.bool false,u5,.bool (aS bg.id a x.fols),u7,.bool (aS aP.id a x.fees),u9,.bool (aS aJ.id a x.itms),u11,.bool (aS dE.id a x.seas),u13,u14,u15,u16,eG,eH,eI,eJ,eK,eM,u23,u24,eO,u26,eW,u28,eX,eY,eZ,u32,u33,fh,fj,u36,fk,u38,fw,fx,fy,fG,fH,u44,u45,fJ,fK,gC,gD,gw,gy,gj,gl,gm,gp,fM,fO,fP,fQ,fU,fV,fW,fX,u64,fY,fZ,gc,gg,gF,gO,gP,gQ,gR,gS,gT,gU,gV,gW,gX,gY,gZ,g9,hZ,ie,ig,ii,ij,il,im,io,ip,iw,ix,iy,iz,iJ,iK,iM,iO,cJ,cK,cL,cM,cN,cO,cP,cQ,bH,bI,bJ,bK,bM,bN,bO,bP,bQ,bR,bS,bT,bU,bV,bW,bX,bY,bZ,cd,cg,cj,cn,cq,ct,cz,cA,cC,cD,cE,cF,u138,cG,cR,cS,cT,cU,dz,dA,dB,dC,dD,dS,dT,dU,dV,dW,ki,kj,km,ko,kq,kr,kt,ku,kw,kz,jt,ju,jv,jw,jx,jy,jz,jA,jB,jC,jD,jE,jF,jG,jH,jI,jJ,jK,jL,jM,jN,jO,jP,jQ,jR,jS,jT,jU,jV,u193,jW,jX,kA,kB,u198,kC,kD,kE,kF,kG,lN,lO,lQ,lR,lS,lT,lU,lV,lW,lX,lw,lz,lA,lB,lC,lD,lF,oo,oq,ot,ow,ox,oy,oz,oB,oC,oD,oF,oG,oH,oI,oJ,oK,oL,oM,oN,oO,oP,oQ,oT,oU,oV,oW,oX,oY,oZ,o0,o8,o9,pc],[]⟩ wc:=by
 have mS:Hid (aw wc g M x):=hS;have nO:Hid (aa ac w wc):=hF;have fp:Hid (ai wc be 42 #[I J 1,I J a,I J b,I J n,V s,V t,V u]):=hB;have E3:=fR wc;obtain⟨c0,c1,c2,c3,c4,c5,c6,c7,c8,c9,c10,c11,c12⟩:=mS.out.cells;obtain⟨d0,d1,d2,d3,d4,d5,d6⟩:=ap hB;clear hS hF hB;simp only[aj,ae,Tryz.f51]
 have HE:Hid (av x ⟨1,a,b,n,s,t,u⟩=(!aS bg.id a x.fols&&decide (x.fols.length<64)&&eQ x b&&decide (gG x b<7)&&!ey x b s)):=by
  unfold Hid av;rw[if_neg (by rw[he];simp)];simp
 have hsz:s.size≤maxLen:=by
  have h1:=he;rw[show (⟨1,a,b,n,s,t,u⟩:Ev)=⟨1,a,b,0,s,eS,eS⟩ from C8 he rfl,Km] at h1;simp only[Bool.and_eq_true] at h1;have:=qa h1.2;have:=mz;omega
 have q1:∀y:FW (aa ac wc),y.w.cell? ⟨g,1,none⟩=some (.map (some M.fo)):=λy=>(y.h.cell (iG c1) id).trans c1
 have q5:∀y:FW (aa ac wc),y.w.cell? ⟨g,5,none⟩=some (.map (some M.na)):=λy=>(y.h.cell (iG c5) id).trans c5
 have p2:∀y:FW (aa ac wc),y.w.cell? ⟨be,2,none⟩=some (I J b):=λy=>(y.h.cell (iG d2) id).trans d2
 have p4:∀y:FW (aa ac wc),y.w.cell? ⟨be,4,none⟩=some (V s):=λy=>(y.h.cell (iG d4) id).trans d4
 have ln:∀(y:FW (aa ac wc)) (ty:TypeId),(Builtin.len_ #[106] ty #[.map (some M.fo)]).run pQ y.w=.ok (I J x.fols.length) y.w:=λy ty=>by
  have:=(mS.out.nix y.h).maps.fo.len (P:=pQ) Tryz.underlying106 ty
  simpa using this
 have nl:∀y:FW (aa ac wc),(Instr.lookup 110 (.map (some M.na)) (.agg #[I J b,V s]) false).run pQ y.w=.ok (I J (EY x b s)) y.w:=λy=>(mS.out.nix y.h).nameLook hb hsz
 have KW:=λy:FW (aa ac wc)=>kO (mS.out.nix y.h) hb
 have KD:=λy:FW (aa ac wc)=>Iq (mS.out.nix y.h) hb
 have Hz:=FX mS.out.ok b s;clear c0 c2 c3 c4 c6 c7 c8 c9 c10 c11 c12 hsz;generalize EY x b s=ni at *;generalize ey x b s=nm at *;generalize eQ x b=ib at *;generalize gG x b=db at *;generalize aS bg.id a x.fols=ia at *;generalize x.fols.length=ll at *
 cases ia
 ·by_cases h2:ll<64
  ·have k2:decide ((ll:Int)<64)=true:=by simp;omega
   cases ib
   ·skip
    go_wp2_with fail;refine au (aa ac wc) ((fR wc).drew) (by kernel_rfl) (by kernel_rfl) ?_
    repeat (go_big_quiet_step (first
     | (rename_i y;go_at_call 100;refine y.call (KW y) ?_;exact λw' hf=>y.h.trans hf)
     | (rename_i y;go_at_call 101;refine y.call (KD y) ?_;exact λw' hf=>y.h.trans hf)
     | fail))
    refine wpQuiet_nil ?_;rintro w2 ⟨⟨_,hf2⟩,rfl⟩;go_wp2;go_ret;exact⟨af (by rw[HE.out];try simp[*]),nO.out.trans hf2⟩
   ·by_cases h4:db<7
    ·have k4:decide ((db:Int)<7)=true:=by simp;omega
     cases nm
     all_goals
      simp only[Bool.not_false,Bool.not_true] at Hz;go_wp2_with fail;refine au (aa ac wc) ((fR wc).drew) (by kernel_rfl) (by kernel_rfl) ?_
      repeat (go_big_quiet_step (first
       | (rename_i y;go_at_call 100;refine y.call (KW y) ?_;exact λw' hf=>y.h.trans hf)
       | (rename_i y;go_at_call 101;refine y.call (KD y) ?_;exact λw' hf=>y.h.trans hf)
       | fail))
      refine wpQuiet_nil ?_;rintro w2 ⟨⟨_,hf2⟩,rfl⟩;go_wp2;go_ret;exact⟨af (by rw[HE.out];try simp[*]),nO.out.trans hf2⟩
    ·have k4:decide ((db:Int)<7)=false:=by simp;omega
     go_wp2_with fail;refine au (aa ac wc) ((fR wc).drew) (by kernel_rfl) (by kernel_rfl) ?_
     repeat (go_big_quiet_step (first
      | (rename_i y;go_at_call 100;refine y.call (KW y) ?_;exact λw' hf=>y.h.trans hf)
      | (rename_i y;go_at_call 101;refine y.call (KD y) ?_;exact λw' hf=>y.h.trans hf)
      | fail))
     refine wpQuiet_nil ?_;rintro w2 ⟨⟨_,hf2⟩,rfl⟩;go_wp2;go_ret;exact⟨af (by rw[HE.out];try simp[*]),nO.out.trans hf2⟩
  ·have k2:decide ((ll:Int)<64)=false:=by simp;omega
   go_wp2_with fail;refine au (aa ac wc) ((fR wc).drew) (by kernel_rfl) (by kernel_rfl) ?_
   repeat (go_big_quiet_step (first
    | (rename_i y;go_at_call 100;refine y.call (KW y) ?_;exact λw' hf=>y.h.trans hf)
    | (rename_i y;go_at_call 101;refine y.call (KD y) ?_;exact λw' hf=>y.h.trans hf)
    | fail))
   refine wpQuiet_nil ?_;rintro w2 ⟨⟨_,hf2⟩,rfl⟩;go_wp2;go_ret;exact⟨af (by rw[HE.out];try simp[*]),nO.out.trans hf2⟩
 ·skip
  go_wp2_with fail;refine au (aa ac wc) ((fR wc).drew) (by kernel_rfl) (by kernel_rfl) ?_
  repeat (go_big_quiet_step (first
   | (rename_i y;go_at_call 100;refine y.call (KW y) ?_;exact λw' hf=>y.h.trans hf)
   | (rename_i y;go_at_call 101;refine y.call (KD y) ?_;exact λw' hf=>y.h.trans hf)
   | fail))
  refine wpQuiet_nil ?_;rintro w2 ⟨⟨_,hf2⟩,rfl⟩;go_wp2;go_ret;exact⟨af (by rw[HE.out];try simp[*]),nO.out.trans hf2⟩
theorem Nk{w wc:World}{g be:Nat}{M:Ms}{x:St}(hS:aw wc g M x)(hF:aa ac w wc)(a b n:Int)(s t u:ByteArray)(hB:ai wc be 42 #[I J 2,I J a,I J b,I J n,V s,V t,V u])(he:aQ ⟨2,a,b,n,s,t,u⟩=true)(ha:bj a)(hb:bj b):
  Code.wp pQ (aj 6 (ae Tryz.f51)) (bodyPost pQ Tryz.f51 λr w'=>r=.returned (.bool (av x ⟨2,a,b,n,s,t,u⟩))∧aa ac w w') ⟨#[O (some ⟨g,0,none⟩),.agg #[I J 2,I J a,I J b,I J n,V s,V t,V u],undef,O (some ⟨be,0,none⟩),.bool false,u5,.bool (aS bg.id a x.fols),u7,.bool (aS aP.id a x.fees),u9,.bool (aS aJ.id a x.itms),u11,.bool (aS dE.id a x.seas),u13,u14,u15,u16,eG,eH,eI,eJ,eK,eM,u23,u24,eO,u26,eW,u28,eX,eY,eZ,u32,u33,fh,fj,u36,fk,u38,fw,fx,fy,fG,fH,u44,u45,fJ,fK,gC,gD,gw,gy,gj,gl,gm,gp,fM,fO,fP,fQ,fU,fV,fW,fX,u64,fY,fZ,gc,gg,gF,gO,gP,gQ,gR,gS,gT,gU,gV,gW,gX,gY,gZ,g9,hZ,ie,ig,ii,ij,il,im,io,ip,iw,ix,iy,iz,iJ,iK,iM,iO,cJ,cK,cL,cM,cN,cO,cP,cQ,bH,bI,bJ,bK,bM,bN,bO,bP,bQ,bR,bS,bT,bU,bV,bW,bX,bY,bZ,cd,cg,cj,cn,cq,ct,cz,cA,cC,cD,cE,cF,u138,cG,cR,cS,cT,cU,dz,dA,dB,dC,dD,dS,dT,dU,dV,dW,ki,kj,km,ko,kq,kr,kt,ku,kw,kz,jt,ju,jv,jw,jx,jy,jz,jA,jB,jC,jD,jE,jF,jG,jH,jI,jJ,jK,jL,jM,jN,jO,jP,jQ,jR,jS,jT,jU,jV,u193,jW,jX,kA,kB,u198,kC,kD,kE,kF,kG,lN,lO,lQ,lR,lS,lT,lU,lV,lW,lX,lw,lz,lA,lB,lC,lD,lF,oo,oq,ot,ow,ox,oy,oz,oB,oC,oD,oF,oG,oH,oI,oJ,oK,oL,oM,oN,oO,oP,oQ,oT,oU,oV,oW,oX,oY,oZ,o0,o8,o9,pc],[]⟩ wc:=by
 have mS:Hid (aw wc g M x):=hS;have nO:Hid (aa ac w wc):=hF;have fp:Hid (ai wc be 42 #[I J 2,I J a,I J b,I J n,V s,V t,V u]):=hB;have E3:=fR wc;obtain⟨c0,c1,c2,c3,c4,c5,c6,c7,c8,c9,c10,c11,c12⟩:=mS.out.cells;obtain⟨d0,d1,d2,d3,d4,d5,d6⟩:=ap hB;clear hS hF hB;simp only[aj,ae,Tryz.f51]
 have HE:Hid (av x ⟨2,a,b,n,s,t,u⟩=(aS bg.id a x.fols&&kZ x a)):=by
  unfold Hid av;rw[if_neg (by rw[he];simp)];simp
 have ha0:a≠0:=by
  have:=nK he;simp[aA] at this;have:=dy.1 this;omega
 have q8:∀y:FW (aa ac wc),y.w.cell? ⟨g,8,none⟩=some (.map (some M.he)):=λy=>(y.h.cell (iG c8) id).trans c8
 have p1:∀y:FW (aa ac wc),y.w.cell? ⟨be,1,none⟩=some (I J a):=λy=>(y.h.cell (iG d1) id).trans d1
 have nl:∀y:FW (aa ac wc),(Instr.lookup 113 (.map (some M.he)) (I J a) false).run pQ y.w=.ok (I J (bv x a)) y.w:=λy=>(mS.out.nix y.h).heldLook ha ha0
 have Hz:=FY x a;clear c0 c1 c2 c3 c4 c5 c6 c7 c9 c10 c11 c12;generalize bv x a=ni at *;generalize kZ x a=nm at *;generalize aS bg.id a x.fols=ia at *
 cases ia
 ·skip
  go_wp2_with fail;refine au (aa ac wc) ((fR wc).drew) (by kernel_rfl) (by kernel_rfl) ?_
  repeat (go_big_quiet_step (first
   | (rename_i y;go_at_call 100;refine y.call (KW y) ?_;exact λw' hf=>y.h.trans hf)
   | (rename_i y;go_at_call 101;refine y.call (KD y) ?_;exact λw' hf=>y.h.trans hf)
   | fail))
  refine wpQuiet_nil ?_;rintro w2 ⟨⟨_,hf2⟩,rfl⟩;go_wp2;go_ret;exact⟨af (by rw[HE.out];try simp[*]),nO.out.trans hf2⟩
 ·cases nm
  all_goals
   go_wp2_with fail;refine au (aa ac wc) ((fR wc).drew) (by kernel_rfl) (by kernel_rfl) ?_
   repeat (go_big_quiet_step (first
    | (rename_i y;go_at_call 100;refine y.call (KW y) ?_;exact λw' hf=>y.h.trans hf)
    | (rename_i y;go_at_call 101;refine y.call (KD y) ?_;exact λw' hf=>y.h.trans hf)
    | fail))
   refine wpQuiet_nil ?_;rintro w2 ⟨⟨_,hf2⟩,rfl⟩;go_wp2;go_ret;exact⟨af (by rw[HE.out];try simp[*]),nO.out.trans hf2⟩
theorem Nl{w wc:World}{g be:Nat}{M:Ms}{x:St}(hS:aw wc g M x)(hF:aa ac w wc)(a b n:Int)(s t u:ByteArray)(hB:ai wc be 42 #[I J 3,I J a,I J b,I J n,V s,V t,V u])(he:aQ ⟨3,a,b,n,s,t,u⟩=true)(ha:bj a)(hb:bj b):
  Code.wp pQ (aj 6 (ae Tryz.f51)) (bodyPost pQ Tryz.f51 λr w'=>r=.returned (.bool (av x ⟨3,a,b,n,s,t,u⟩))∧aa ac w w') ⟨#[O (some ⟨g,0,none⟩),.agg #[I J 3,I J a,I J b,I J n,V s,V t,V u],undef,O (some ⟨be,0,none⟩),.bool false,u5,.bool (aS bg.id a x.fols),u7,.bool (aS aP.id a x.fees),u9,.bool (aS aJ.id a x.itms),u11,.bool (aS dE.id a x.seas),u13,u14,u15,u16,eG,eH,eI,eJ,eK,eM,u23,u24,eO,u26,eW,u28,eX,eY,eZ,u32,u33,fh,fj,u36,fk,u38,fw,fx,fy,fG,fH,u44,u45,fJ,fK,gC,gD,gw,gy,gj,gl,gm,gp,fM,fO,fP,fQ,fU,fV,fW,fX,u64,fY,fZ,gc,gg,gF,gO,gP,gQ,gR,gS,gT,gU,gV,gW,gX,gY,gZ,g9,hZ,ie,ig,ii,ij,il,im,io,ip,iw,ix,iy,iz,iJ,iK,iM,iO,cJ,cK,cL,cM,cN,cO,cP,cQ,bH,bI,bJ,bK,bM,bN,bO,bP,bQ,bR,bS,bT,bU,bV,bW,bX,bY,bZ,cd,cg,cj,cn,cq,ct,cz,cA,cC,cD,cE,cF,u138,cG,cR,cS,cT,cU,dz,dA,dB,dC,dD,dS,dT,dU,dV,dW,ki,kj,km,ko,kq,kr,kt,ku,kw,kz,jt,ju,jv,jw,jx,jy,jz,jA,jB,jC,jD,jE,jF,jG,jH,jI,jJ,jK,jL,jM,jN,jO,jP,jQ,jR,jS,jT,jU,jV,u193,jW,jX,kA,kB,u198,kC,kD,kE,kF,kG,lN,lO,lQ,lR,lS,lT,lU,lV,lW,lX,lw,lz,lA,lB,lC,lD,lF,oo,oq,ot,ow,ox,oy,oz,oB,oC,oD,oF,oG,oH,oI,oJ,oK,oL,oM,oN,oO,oP,oQ,oT,oU,oV,oW,oX,oY,oZ,o0,o8,o9,pc],[]⟩ wc:=by
 have mS:Hid (aw wc g M x):=hS;have nO:Hid (aa ac w wc):=hF;have fp:Hid (ai wc be 42 #[I J 3,I J a,I J b,I J n,V s,V t,V u]):=hB;have E3:=fR wc;obtain⟨c0,c1,c2,c3,c4,c5,c6,c7,c8,c9,c10,c11,c12⟩:=mS.out.cells;obtain⟨d0,d1,d2,d3,d4,d5,d6⟩:=ap hB;clear hS hF hB;simp only[aj,ae,Tryz.f51]
 have HE:Hid (av x ⟨3,a,b,n,s,t,u⟩=(!aS aP.id a x.fees&&decide (x.fees.length<64)&&eQ x b&&decide (cH x s=0))):=by
  unfold Hid av;rw[if_neg (by rw[he];simp)];simp
 have hsz:s.size≤maxLen:=by
  have h1:=he;rw[show (⟨3,a,b,n,s,t,u⟩:Ev)=⟨3,a,b,0,s,t,eS⟩ from C9 he rfl,JY] at h1;simp only[Bool.and_eq_true] at h1;have:=nN h1.1.2;have:=mz;omega
 have q2:∀y:FW (aa ac wc),y.w.cell? ⟨g,2,none⟩=some (.map (some M.fe)):=λy=>(y.h.cell (iG c2) id).trans c2
 have q6:∀y:FW (aa ac wc),y.w.cell? ⟨g,6,none⟩=some (.map (some M.pl)):=λy=>(y.h.cell (iG c6) id).trans c6
 have p2:∀y:FW (aa ac wc),y.w.cell? ⟨be,2,none⟩=some (I J b):=λy=>(y.h.cell (iG d2) id).trans d2
 have p4:∀y:FW (aa ac wc),y.w.cell? ⟨be,4,none⟩=some (V s):=λy=>(y.h.cell (iG d4) id).trans d4
 have ln:∀(y:FW (aa ac wc)) (ty:TypeId),(Builtin.len_ #[107] ty #[.map (some M.fe)]).run pQ y.w=.ok (I J x.fees.length) y.w:=λy ty=>by
  have:=(mS.out.nix y.h).maps.fe.len (P:=pQ) Tryz.underlying107 ty
  simpa using this
 have nl:∀y:FW (aa ac wc),(Instr.lookup 111 (.map (some M.pl)) (V s) false).run pQ y.w=.ok (I J (cH x s)) y.w:=λy=>(mS.out.nix y.h).placeLook hsz false
 have KW:=λy:FW (aa ac wc)=>kO (mS.out.nix y.h) hb
 clear c0 c1 c3 c4 c5 c7 c8 c9 c10 c11 c12 hsz;generalize cH x s=ni at *;generalize eQ x b=ib at *;generalize aS aP.id a x.fees=ia at *;generalize x.fees.length=ll at *
 cases ia
 ·by_cases h2:ll<64
  ·have k2:decide ((ll:Int)<64)=true:=by simp;omega
   cases ib
   ·skip
    go_wp2_with fail;refine au (aa ac wc) ((fR wc).drew) (by kernel_rfl) (by kernel_rfl) ?_
    repeat (go_big_quiet_step (first
     | (rename_i y;go_at_call 100;refine y.call (KW y) ?_;exact λw' hf=>y.h.trans hf)
     | (rename_i y;go_at_call 101;refine y.call (KW y) ?_;exact λw' hf=>y.h.trans hf)
     | fail))
    refine wpQuiet_nil ?_;rintro w2 ⟨⟨_,hf2⟩,rfl⟩;go_wp2;go_ret;exact⟨af (by rw[HE.out];try simp[*]),nO.out.trans hf2⟩
   ·by_cases h4:ni=0
    ·have Hz:(ni==0)=true:=by simp[h4]
     subst h4;go_wp2_with fail;refine au (aa ac wc) ((fR wc).drew) (by kernel_rfl) (by kernel_rfl) ?_
     repeat (go_big_quiet_step (first
      | (rename_i y;go_at_call 100;refine y.call (KW y) ?_;exact λw' hf=>y.h.trans hf)
      | (rename_i y;go_at_call 101;refine y.call (KD y) ?_;exact λw' hf=>y.h.trans hf)
      | fail))
     refine wpQuiet_nil ?_;rintro w2 ⟨⟨_,hf2⟩,rfl⟩;go_wp2;go_ret;exact⟨af (by rw[HE.out];try simp[*]),nO.out.trans hf2⟩
    ·have Hz:(ni==0)=false:=by simp[h4]
     go_wp2_with fail;refine au (aa ac wc) ((fR wc).drew) (by kernel_rfl) (by kernel_rfl) ?_
     repeat (go_big_quiet_step (first
      | (rename_i y;go_at_call 100;refine y.call (KW y) ?_;exact λw' hf=>y.h.trans hf)
      | (rename_i y;go_at_call 101;refine y.call (KD y) ?_;exact λw' hf=>y.h.trans hf)
      | fail))
     refine wpQuiet_nil ?_;rintro w2 ⟨⟨_,hf2⟩,rfl⟩;go_wp2;go_ret;exact⟨af (by rw[HE.out];try simp[*]),nO.out.trans hf2⟩
  ·have k2:decide ((ll:Int)<64)=false:=by simp;omega
   go_wp2_with fail;refine au (aa ac wc) ((fR wc).drew) (by kernel_rfl) (by kernel_rfl) ?_
   repeat (go_big_quiet_step (first
    | (rename_i y;go_at_call 100;refine y.call (KW y) ?_;exact λw' hf=>y.h.trans hf)
    | (rename_i y;go_at_call 101;refine y.call (KD y) ?_;exact λw' hf=>y.h.trans hf)
    | fail))
   refine wpQuiet_nil ?_;rintro w2 ⟨⟨_,hf2⟩,rfl⟩;go_wp2;go_ret;exact⟨af (by rw[HE.out];try simp[*]),nO.out.trans hf2⟩
 ·skip
  go_wp2_with fail;refine au (aa ac wc) ((fR wc).drew) (by kernel_rfl) (by kernel_rfl) ?_
  repeat (go_big_quiet_step (first
   | (rename_i y;go_at_call 100;refine y.call (KW y) ?_;exact λw' hf=>y.h.trans hf)
   | (rename_i y;go_at_call 101;refine y.call (KD y) ?_;exact λw' hf=>y.h.trans hf)
   | fail))
  refine wpQuiet_nil ?_;rintro w2 ⟨⟨_,hf2⟩,rfl⟩;go_wp2;go_ret;exact⟨af (by rw[HE.out];try simp[*]),nO.out.trans hf2⟩
end Go.Proofs.YtaecjmiobllhmaaGreat
