/- Words. -/
import Derived.Test.YtaecjmiobllhmaaGreatGr90
set_option linter.unusedVariables false
set_option linter.unusedSimpArgs false
set_option maxRecDepth 100000
set_option maxHeartbeats 16000000
namespace Go.Proofs.YtaecjmiobllhmaaGreat
open Go.Value renaming int→I,slice→U,pointer→O
open Go.IntKind renaming i64→J
open Tryz renaming prog→pQ
open Go.RowKit Go.Lib
variable {d:qD}{wo:World}{n c nw cw i:Nat}{ls:List qK}{v:Value}{a:Au}{G:Nat→Prop}{A:Option Addr}
theorem Po{op:Oper}{ac:Act}{W:World}{b o:Nat}{l:List Value}(hl:l.length=20)(x:Operand)(ho:op.op=.load 44 x)(hx:ac.eval x=O (some ⟨b,o,none⟩))(h:∀j v,l[j]? =some v→W.cell? ⟨b,o+j,none⟩=some v):(execOp ac.eval op).run pQ W=.ok (.value (.agg l.toArray)) W:=by
 unfold execOp;simp only[ho,hx,Instr.loadAt,Instr.sureAddr,Sem.run_bind,Sem.run_pure,Result.andThen_ok,run_loadVar_mid W b o 44 l _ h Tryz.underlying44 rfl (by rw[hl];exact DX)]
theorem Pq{Q:Exit→Act→World→Prop}{wr:World}{bm om n c bw ow nw cw i k:Nat}{p:qK}{G7:Nat→Prop}(hp:∀W,aa ag wr W→W.cell? ⟨bw,ow+k * 5,none⟩=some (I J p.d.mode)∧W.cell? ⟨bw,ow+k * 5+1,none⟩=some (U p.v.1 p.d.all.length p.v.2)∧W.cell? ⟨bw,ow+k * 5+2,none⟩=some (I J p.d.last)∧W.cell? ⟨bw,ow+k * 5+3,none⟩=some (I J p.d.sure)∧W.cell? ⟨bw,ow+k * 5+4,none⟩=some (I J p.d.snap))(hd:∀W,aa ag wr W→∀(j:Nat) (u:Value),d.cells[j]? =some u→W.cell? ⟨bm,om+i * 20+j,none⟩=some u)(hi:i<n)(hk:k<nw)
  (hKS:∀W,aa ag wr W→Calls pQ 28 #[.agg #[I J p.d.mode,U p.v.1 p.d.all.length p.v.2,I J p.d.last,I J p.d.sure,I J p.d.snap],.agg d.cells.toArray] W (bJ W G7 (bz d.m p.d))) {u1 u2 u3 u6 u8 u9 u10 u11 u12 u13 u14 u15 u16 cG cH cI cR cS cT u23 u24 cN u26 dc u28 dm dp dr u32 u33 df dg u36 dt u38 dB dC dO dP dQ u44 u45 dI dJ dK dL dD dE dF dR dS dT dM dG dH dw dx dy dz dA u64 dh di dl cU cX fA fB fF fG fw:Value}
  (hP:∀(e:_) (a:Act) (i:Nat) (v:Value) (w:World),Q (.panic e) (a.put (some i) v) w→Q (.panic e) a w) (hQ:∀(z26 z27 z28 IW Dg z31 z32 z33 Fp:Value) (W':World) (v:Sl),bJ wr G7 (bz d.m p.d) (.returned (U v.1 (bz d.m p.d).length v.2)) W'→Q .normal ⟨#[U (some ⟨bm,om,none⟩) n c,u1,u2,u3,U (some ⟨bw,ow,none⟩) nw cw,I J i,u6,I J k,U v.1 (bz d.m p.d).length v.2,u9,u10,u11,u12,u13,u14,u15,u16,cG,cH,cI,cR,cS,cT,u23,u24,cN,z26,z27,z28,IW,Dg,z31,z32,z33,Fp,dg,u36,dt,u38,dB,dC,dO,dP,dQ,u44,u45,dI,dJ,dK,dL,dD,dE,dF,dR,dS,dT,dM,dG,dH,dw,dx,dy,dz,dA,u64,dh,di,dl,cU,cX,fA,fB,fF,fG,fw],[]⟩ W'):
  Code.wp pQ (aD (bM (aD (ap (bC (bM (ap (aD (ap (bM (aD (ap (bC (bM (ap (aD (ai 2 (ae Tryz.f10)))))))))))))))))) Q ⟨#[U (some ⟨bm,om,none⟩) n c,u1,u2,u3,U (some ⟨bw,ow,none⟩) nw cw,I J i,u6,I J k,u8,u9,u10,u11,u12,u13,u14,u15,u16,cG,cH,cI,cR,cS,cT,u23,u24,cN,u26,dc,u28,dm,dp,dr,u32,u33,df,dg,u36,dt,u38,dB,dC,dO,dP,dQ,u44,u45,dI,dJ,dK,dL,dD,dE,dF,dR,dS,dT,dM,dG,dH,dw,dx,dy,dz,dA,u64,dh,di,dl,cU,cX,fA,fB,fF,fG,fw],[]⟩ wr:=by
 have HC:Hid (∀W,aa ag wr W→(W.cell? ⟨bw,ow+k * 5,none⟩=some (I J p.d.mode)∧W.cell? ⟨bw,ow+k * 5+1,none⟩=some (U p.v.1 p.d.all.length p.v.2)∧W.cell? ⟨bw,ow+k * 5+2,none⟩=some (I J p.d.last)∧W.cell? ⟨bw,ow+k * 5+3,none⟩=some (I J p.d.sure)∧W.cell? ⟨bw,ow+k * 5+4,none⟩=some (I J p.d.snap))∧∀(j:Nat) (u:Value),d.cells[j]? =some u→W.cell? ⟨bm,om+i * 20+j,none⟩=some u):=λW hW=>⟨hp W hW,hd W hW⟩
 have HP:=h_ hP;have HQ:=h_ hQ;have KS:=h_ hKS;have pu:Hid (aa ag wr wr.drew):=(fR wr).drew;have wJ:(i:Int)<(n:Int):=by omega
 have GK:(0:Int)≤(i:Int):=Int.natCast_nonneg _;have vh:(k:Int)<(nw:Int):=by omega
 have hk0:(0:Int)≤(k:Int):=Int.natCast_nonneg _;clear hp hd hP hQ hKS;simp only[bH,ap,aT,bM,bC,aD,ai,ae,Tryz.f10];refine wp_region_held_drew (S:=λW=>(W.cell? ⟨bw,ow+k * 5,none⟩=some (I J p.d.mode)∧W.cell? ⟨bw,ow+k * 5+1,none⟩=some (U p.v.1 p.d.all.length p.v.2)∧W.cell? ⟨bw,ow+k * 5+2,none⟩=some (I J p.d.last)∧W.cell? ⟨bw,ow+k * 5+3,none⟩=some (I J p.d.sure)∧W.cell? ⟨bw,ow+k * 5+4,none⟩=some (I J p.d.snap))∧∀(j:Nat) (u:Value),d.cells[j]? =some u→W.cell? ⟨bm,om+i * 20+j,none⟩=some u) (by kernel_rfl) (HC.out _ pu.out) λhH=>?_
 refine tk (i:=0) HP rfl rfl hH ?_
 try simp only[lt]
 refine tk (i:=1) HP rfl rfl hH ?_
 try simp only[lt]
 refine tk (i:=2) HP rfl rfl hH ?_
 try simp only[lt]
 refine tk (i:=3) HP rfl rfl hH ?_
 try simp only[lt]
 refine tk (i:=4) HP rfl rfl hH ?_
 try simp only[lt]
 refine tk (i:=5) HP rfl rfl hH ?_
 try simp only[lt]
 refine tk (i:=6) HP rfl rfl hH ?_
 try simp only[lt]
 refine tk (i:=7) (v:=.agg d.cells.toArray) HP rfl rfl hH ?_ (λW hW=>Po rfl _ rfl rfl hW.2)
 try simp only[lt]
 refine aw (i:=8) rfl (λK hK=>?_);go_simp;go_at_call 28;refine(KS.out _ pu.out).mono ?_;rintro e w2 ⟨v,l,rfl,hx⟩;have HX:Hid (bJ wr G7 (bz d.m p.d) (.returned (U v.1 (bz d.m p.d).length v.2)) w2):=bJ.up pu.out ⟨v,l,rfl,hx⟩;have kX:Hid (aa ag wr w2):=pu.out.trans hx.2.2.2;clear hx;refine hK.out _ _ (HC.out _ kX.out) (λhH=>?_);clear hK K
 try simp only[lt]
 refine tk (i:=9) HP rfl rfl hH ?_
 try simp only[lt]
 refine wpAnyH_done (by kernel_rfl) ?_ _;exact HQ.out _ _ _ _ _ _ _ _ _ _ _ HX.out
theorem Ge(m:Mv)(w:WD):(bz m w).length≤4:=by
 have h1:∀(x:WD) (b:Bool),(gw x b).length≤4:=λx b=>by unfold gw;split<;>simp
 unfold bz iB jM gJ gm
 repeat' split
 all_goals first|exact h1 _ _|simp
theorem yx:∀(l acc:List WD),(l.foldl ny acc).length≤acc.length+l.length
 | [],acc=>Nat.le_refl _
 | x::l,acc=>by
   have h1:=yx l (ny acc x);have h2:(ny acc x).length≤acc.length+1:=by unfold ny;split<;>simp
   simp only[List.foldl_cons,List.length_cons];omega
structure Pr(p:qK):Prop where
 le:p.d.last≤p.d.all.length
 max:p.d.all.length≤10000
 sure:0≤p.d.sure
theorem Ps{K0:Act→World→Prop}{Q0:Exit→Act→World→Prop}{Gw Gv Gm:Nat→Prop}{Am Aw:Option Addr}{l:List qD}(hl:l.length=n)(FZ:qJ wo Gm (Am,c) l)(hi:i<n)(hd:∀h:i<l.length,l[i]=d)(hls:ls.length=nw)(FE:nw≤4)(hw:qL wo Gw Gv (Aw,cw) ls)(bO:∀p∈ls,Pr p){u1 u2 u3 u7 u8 u9 u10 u11 u12 u13 u14 u15 u16 cG cH cI cR cS cT u23 u24 cN u26 dc u28 dm dp dr u32 u33 df dg u36 dt u38 dB dC dO dP dQ u44 u45 dI dJ dK dL dD dE dF dR dS dT dM dG dH dw dx dy dz dA u64 dh di dl cU cX fA fB fF fG fw:Value}
  (hP:∀(e:_) (a:Act) (i:Nat) (v:Value) (w:World),Q0 (.panic e) (a.put (some i) v) w→Q0 (.panic e) a w) (hQ:∀(z7 z8 z9 zl ye Gr z21 z22 z23 z24 z25 z26 z27 z28 IW Dg z31 z32 z33 Fp z35 z36 z37 Dh z39 z40 z41 xt xu z44 zh z46 zi zj z49 z50 z51 z52 z53 z54 z55 z56 z57 z58 z59 z60 z61 z62 z63 z64 z65 z66 z67:Value) (W':World) (A':Option Addr) (c':Nat) (nl':List qK),nl'.map (·.d)=xw d.m (ls.map (·.d))→ru wo W' (U A' nl'.length c') nl'→K0 ⟨#[U Am n c,u1,u2,u3,U Aw nw cw,I J i,U A' nl'.length c',z7,z8,z9,zl,ye,u12,u13,u14,u15,u16,cG,cH,cI,Gr,z21,z22,z23,z24,z25,z26,z27,z28,IW,Dg,z31,z32,z33,Fp,z35,z36,z37,Dh,z39,z40,z41,xt,xu,z44,zh,z46,zi,zj,z49,z50,z51,z52,z53,z54,z55,z56,z57,z58,z59,z60,z61,z62,z63,z64,z65,z66,z67,cU,cX,fA,fB,fF,fG,fw],[]⟩ W'):
  Code.wp pQ (aD (ap (bM (aD (ap (bC (bM (ap (aD (ai 2 (ae Tryz.f10))))))))))) (Exit.then K0 Q0) ⟨#[U Am n c,u1,u2,u3,U Aw nw cw,I J i,U none 0 0,u7,u8,u9,u10,u11,u12,u13,u14,u15,u16,cG,cH,cI,cR,cS,cT,u23,u24,cN,u26,dc,u28,dm,dp,dr,u32,u33,df,dg,u36,dt,u38,dB,dC,dO,dP,dQ,u44,u45,dI,dJ,dK,dL,dD,dE,dF,dR,dS,dT,dM,dG,dH,dw,dx,dy,dz,dA,u64,dh,di,dl,cU,cX,fA,fB,fF,fG,fw],[]⟩ wo:=by
 have HL:=h_ hl;have HMv:=h_ FZ;have HD:=h_ hd;have HLs:=h_ hls;have HWs:=h_ hw;have N5:=h_ bO;have HQ:=h_ hQ;have HP0:=h_ hP;clear hl FZ hd hls hw bO hQ hP;simp only[bH,ap,aT,bM,bC,aD,ai,ae,Tryz.f10];go_wp2
 go_loopw [6,7] (λov kv W=>∃(k:Nat) (nl:List qK),k≤nw∧kv=I J k∧nl.map (·.d)=xw d.m ((ls.map (·.d)).take k)∧nl.length≤4 * k∧ru wo W ov nl) (λ_ kv _=>nw-(intOf kv).toNat)
 case atStart=>exact⟨0,[],by omega,rfl,rfl,Nat.le_refl _,aI.nil_ _ _ (aa.refl _ _),λp hp=>by cases hp⟩
 case round=>
  show Code.wp pQ (.seq (.seq (aD (aD (bC (bM (ap (aD (ap (bM (aD (ap (bC (bM (ap (aD (ai 2 (ae Tryz.f10)))))))))))))))) (.cond (.tmp 23) .skip (.exit 2))) (.seq (.block 3 (.seq (aD (bM (aD (ap (bC (bM (ap (aD (ap (bM (aD (ap (bC (bM (ap (aD (ai 2 (ae Tryz.f10)))))))))))))))))) (ap (bM (aD (ap (bC (bM (ap (aD (ap (bM (aD (ap (bC (bM (ap (aD (ai 2 (ae Tryz.f10)))))))))))))))))))) (ap (ap (bC (bM (ap (aD (ap (bM (aD (ap (bC (bM (ap (aD (ai 2 (ae Tryz.f10)))))))))))))))))) _ _ _
  obtain⟨k,nl,hk,rfl,hmap,hlen,hrow⟩:=hrel;obtain⟨An,cn,rfl,-,-,-,-⟩:=hrow.row.shape;obtain⟨wk,rfl⟩:∃wk,wk=wr:=⟨_,rfl⟩;have HM:=h_ hmap;have eh:=h_ hrow;have HF:Hid (aa ag wo wk):=hrow.row.frm;have U3:=h_ hlen;clear hmap hrow
  conv in aD (aD (bC _))=>whnf
  by_cases hlt:k<nw
  ·have cQ:k<ls.length:=by rw[HLs.out];exact hlt
   have IU:i<l.length:=by rw[HL.out];exact hi
   obtain⟨bw,ow,hAw,-,hbl,hcell⟩:=(HWs.out.sl.nix HF.out).at_ qK.clen (by decide) (by omega);obtain⟨bm,om,hAm,-,hbm,hcm⟩:=(HMv.out.sl.nix HF.out).at_ qD.clen (by decide) (by omega);dsimp only at hAw hAm;have xl:=hcell k cQ;have hcd:=hcm i IU;have hev:=HWs.out.ev ls[k] (List.getElem_mem cQ);have hwk:=N5.out ls[k] (List.getElem_mem cQ);have hst:=Ky d.m (ls.map (·.d)) k (by simpa using cQ);have hme:=HMv.out.mv l[i] (List.getElem_mem IU);have hmu:=HMv.out.num l[i] (List.getElem_mem IU);rw[HD.out IU] at hcd hme hmu;rw[List.getElem_map] at hst;obtain⟨p,hp⟩:∃p,ls[k]=p:=⟨_,rfl⟩;rw[hp] at xl hev hwk hst;rw[←HM.out] at hst;have HST:=h_ hst;have HCp:Hid (∀W,aa ag wk W→W.cell? ⟨bw,ow+k * 5,none⟩=some (I J p.d.mode)∧W.cell? ⟨bw,ow+k * 5+1,none⟩=some (U p.v.1 p.d.all.length p.v.2)∧W.cell? ⟨bw,ow+k * 5+2,none⟩=some (I J p.d.last)∧W.cell? ⟨bw,ow+k * 5+3,none⟩=some (I J p.d.sure)∧W.cell? ⟨bw,ow+k * 5+4,none⟩=some (I J p.d.snap)):=λW hW=>Nn λjj u h=>(hW.cell (p:=⟨bw,ow+k * 5+jj,none⟩) hbl id).trans (xl jj u h)
   have HCd:Hid (∀W,aa ag wk W→∀(j:Nat) (u:Value),d.cells[j]? =some u→W.cell? ⟨bm,om+i * 20+j,none⟩=some u):=λW hW jj u h=>(hW.cell (p:=⟨bm,om+i * 20+jj,none⟩) hbm id).trans (hcd jj u h)
   have KS:Hid (∀W,aa ag wk W→Calls pQ 28 #[.agg #[I J p.d.mode,U p.v.1 p.d.all.length p.v.2,I J p.d.last,I J p.d.sure,I J p.d.snap],.agg d.cells.toArray] W (bJ W (λb=>b<wo.heap.size) (bz d.m p.d))):=λW hW=>by
    have q:=Cc (d:=p.d) (vw:=p.v) (m:=d.m) ((hev.cOld.nix (HF.out.trans hW)).mono λb hb=>hb.2) hwk.le hwk.max (hme.nix (HF.out.trans hW)) hwk.sure;exact q
   clear hcell hcm xl hcd hev hwk hst hme hmu hp hbl hbm;obtain⟨q,hq⟩:∃q,nl.length=q:=⟨_,rfl⟩;have MT:=h_ hq;rw[hq] at hlen eh;rw[hq];clear hq;subst hAw hAm;go_wp2;refine Pq HCp.out HCd.out hi hlt KS.out (λe a i v w h=>HP0.out e a i v w h) ?_;intro z26 z27 z28 IW Dg z31 z32 z33 Fp w1 v hS;go_wp2;obtain⟨v',tl,ev,Ow,xi,SL,hfr⟩:=hS
   have hvv:v=v':=by
    injection ev with ev;injection ev with e1 e2 e3
    cases v;cases v'
    simp_all
   subst hvv;have d9:(bz d.m p.d).length=tl.length:=by rw[←Ow,List.length_map]
   rw[d9];have h4:tl.length≤4:=by rw[←d9];exact Ge _ _
   have hwk:wk.heap.size≤w1.heap.size:=hfr.size
   have hown:∀b,(Value.slice An q cn).ownBlock=some b→b<wk.heap.size:=λb hb=>by
    have h:=eh.out.row.own;exact(h.lt b hb).2
   refine Pn (wo:=wo) (wk:=wk) (tl:=tl) (At:=v.1) (ct:=v.2) hwk MT.out (eh.out.more hfr) (by omega) hown rfl (by omega) ⟨xi.cOld,λp hp=>?_⟩ ?_
   ·exact((SL p hp).cOld.mono λb hb=>by rcases hb with ⟨h|h,h2⟩;exact .inl h;exact .inr ⟨h,h2⟩)
   intro z9 zl ye z35 z36 z37 Dh z39 z40 z41 xt xu z44 zh z46 zi zj z49 z50 z51 z52 z53 z54 z55 z56 z57 z58 z59 z60 z61 z62 z63 z64 z65 z66 z67 w3 A3 c3 nl3 hm3 hr3;go_wp2
   conv in ap (ap (bC _))=>whnf
   have HM3:=h_ hm3;have nG:=h_ hr3;have Pv:=h_ Ow;clear hm3 hr3 Ow xi SL hfr d9 hown ev;go_wp2;go_roundw
   case rel=>
    refine⟨k+1,nl3,by omega,by go_num,by rw[HM3.out,HST.out,Pv.out],?_,nG.out⟩;have h1:=congrArg List.length HM3.out;rw[List.length_map] at h1;have h2:=yx (tl.map (·.d)) (nl.map (·.d));rw[List.length_map,List.length_map,MT.out] at h2;omega
   case measure=>simp[intOf];omega
  ·obtain rfl:k=nw:=by omega
   have za:Hid ((ls.map (·.d)).take k=ls.map (·.d)):=List.take_of_length_le (by rw[List.length_map,HLs.out];exact Nat.le_refl _);have ND:Hid (nl.map (·.d)=xw d.m (ls.map (·.d))):=by unfold Hid;rw[HM.out,za.out]
   generalize hq:nl.length=q at *;go_wp2;subst hq;exact HQ.out _ _ _ _ _ _ _ _ _ _ _ _ _ _ _ _ _ _ _ _ _ _ _ _ _ _ _ _ _ _ _ _ _ _ _ _ _ _ _ _ _ _ _ _ _ _ _ _ _ _ _ _ _ _ An cn nl ND.out eh.out
structure wZ(wo:World)(v:Value)(a:Au)(ls:List qK)(i:Nat):Prop where
 sl:∃A c,v=U A ls.length c∧qL wo (λ_=>True) (λ_=>True) (A,c) ls
 ds:ls.map (·.d)=a.ws.map (mD a.all a.last)
 ok:lz a
 sure:∀w∈a.ws,0≤w.sure
 len:a.all.length≤i
theorem wZ.wok(h:wZ wo v a ls i)(hi:i≤10000):∀p∈ls,Pr p:=λp hp=>by
 have h1:p.d∈a.ws.map (mD a.all a.last):=by rw[←h.ds];exact List.mem_map_of_mem hp
 obtain⟨w,hw,e⟩:=List.mem_map.1 h1;have:=h.len;refine⟨?_,?_,?_⟩
 ·rw[←e];exact h.ok.le
 ·rw[←e];show a.all.length≤10000;omega
 ·rw[←e];exact h.sure w hw
theorem wZ.n4(h:wZ wo v a ls i):ls.length≤4:=by
 have h1:=congrArg List.length h.ds;rw[List.length_map,List.length_map] at h1;have:=h.ok.len;omega
theorem Gf{m:Mv}(h:lz a)(hs:∀w∈a.ws,0≤w.sure){ws:List WD}(hw:ws=a.ws.map (mD a.all a.last)):
  (ng a m=none∧xw m ws=[])∨∃b,ng a m=some b∧xw m ws=b.ws.map (mD b.all b.last)∧lz b∧(∀w∈b.ws,0≤w.sure)∧b.all.length≤a.all.length+1:=by
 have hg:=ID h hs (m:=m);rw[←hw] at hg
 cases hst:ng a m with
 | none=>exact .inl ⟨rfl,by rw[hg,hst];rfl⟩
 | some b=>
   have e:xw m ws=b.ws.map (mD b.all b.last):=by rw[hg,hst];rfl
   refine .inr ⟨b,rfl,e,BV h hst,λw Ah=>?_,yo hst⟩;have h1:mD b.all b.last w∈xw m ws:=by rw[e];exact List.mem_map_of_mem Ah
   unfold xw at h1;rcases yu _ _ _ h1 with h1|h1
   ·cases h1
   ·obtain⟨v,hv,hy⟩:=List.mem_flatMap.1 h1
    rw[hw] at hv;obtain⟨u,hu,rfl⟩:=List.mem_map.1 hv;exact DT (m:=m) (w:=mD a.all a.last u) (hs u hu) hy
theorem zO{w:World}{l:List qD}(hv:qJ w G (A,c) l)(hn:l.length≤512):
  Calls pQ 10 #[U A l.length c] w λe w'=>e=.returned (.tuple #[I J (il pK (bY l)),.bool (decide (il pK (bY l)=l.length))])∧aa ag w w':=by
 obtain⟨n,d9⟩:∃n,l.length=n:=⟨_,rfl⟩;have HL:=h_ d9;have HV:=h_ hv;obtain⟨q0,Lz⟩:∃q0,il pK (bY l)=q0:=⟨_,rfl⟩;have HQ:=h_ Lz;rw[d9] at hn ⊢;rw[Lz];clear hv d9 Lz
 have H0:Hid (wZ (w.alloc (.cells #[I J 1,U none 0 0,I J 0,I J 0,I J 0] 74)) (U (some ⟨w.heap.size,0,none⟩) 1 1) pK [⟨(none,0),SJ⟩] 0):=by
  have q:=(aI.lit (s:=5) 74 (fR w) 1 [I J 1,U none 0 0,I J 0,I J 0,I J 0] rfl (by unfold maxLen;omega)).sl;exact⟨⟨_,_,rfl,q.mono λ_ _=>trivial,λp hp=>by rw[List.mem_singleton.1 hp];exact aF.none_ _ _ _⟩,rfl,IC,λw hw=>by rw[List.mem_singleton.1 hw];exact Int.le_refl _,Nat.le_refl _⟩
 go_enter Tryz.func10,Tryz.ntmps10;go_wp2
 go_loopw [4,5] (λov kv wr=>∃(i:Nat) (a:Au) (ls:List qK),i≤n∧kv=I J i∧il pK (bY l)=i+il a ((bY l).drop i)∧wZ wr ov a ls i∧aa ag w wr) (λ_ kv _=>n-(intOf kv).toNat)
 case atStart=>exact⟨0,pK,[⟨(none,0),SJ⟩],by omega,rfl,by simp,H0.out,(fR w).alloc _⟩
 case round=>
  show Code.wp pQ (.seq (.seq (aD (aD (bC (bM (ap (aD (ai 2 (ae Tryz.f10)))))))) (.cond (.tmp 17) .skip (.exit 0))) (.seq (.block 1 (.seq (aD (bM (aD (ap (bC (bM (ap (aD (ai 2 (ae Tryz.f10)))))))))) (.seq (aD (ap (bM (aD (ap (bC (bM (ap (aD (ai 2 (ae Tryz.f10))))))))))) (ap (ap (bM (aD (ap (bC (bM (ap (aD (ai 2 (ae Tryz.f10)))))))))))))) (ap (ap (bC (bM (ap (aD (ai 2 (ae Tryz.f10)))))))))) _ _ _
  obtain⟨i,a,ls,hi,rfl,hch,hat,hf⟩:=hrel;obtain⟨Aw,cw,rfl,hws⟩:=hat.sl;obtain⟨wo,rfl⟩:∃wo,wo=wr:=⟨_,rfl⟩;have HA:=h_ hat;have HWs:=h_ hws;have HF:=h_ hf;have HC:=h_ hch;clear hch hat hf hws
  conv in aD (aD (bC _))=>whnf
  by_cases hlt:i<n
  ·have IU:i<l.length:=by rw[HL.out];exact hlt
   have hdr:(bY l).drop i=(l[i]).m::(bY l).drop (i+1):=by
    have h1:i<(bY l).length:=by simpa [bY] using IU
    rw[List.drop_eq_getElem_cons h1];simp[bY]
   have hch2:=HC.out;rw[hdr,yw] at hch2;obtain⟨d,hd⟩:∃d,l[i]=d:=⟨_,rfl⟩;rw[hd] at hch2;have HD:Hid (∀h:i<l.length,l[i]=d):=λ_=>hd
   have SM:=h_ hch2;clear hdr hch2 hd;obtain⟨nw,FE⟩:∃nw,ls.length=nw:=⟨_,rfl⟩;have HNw:=h_ FE;rw[FE];clear FE
   conv in aD (bM _)=>whnf
   go_wp2;refine Ps (d:=d) HL.out (HV.out.nix HF.out) hlt HD.out HNw.out (by have:=HA.out.n4;rw[HNw.out] at this;exact this) (by have:=HWs.out;exact this) (HA.out.wok (by omega)) (λ_ _ _ _ _ h=>h) ?_;intro z7 z8 z9 zl ye Gr z21 z22 z23 z24 z25 z26 z27 z28 IW Dg z31 z32 z33 Fp z35 z36 z37 Dh z39 z40 z41 xt xu z44 zh z46 zi zj z49 z50 z51 z52 z53 z54 z55 z56 z57 z58 z59 z60 z61 z62 z63 z64 z65 z66 z67 w1 A1 c1 nl hm1 hr1;have bo:=h_ hr1;have pG:Hid (aa ag w w1):=HF.out.trans hr1.row.frm;have ED:=Gf HA.out.ok HA.out.sure (m:=d.m) HA.out.ds;rw[←hm1] at ED;have HM1:=h_ hm1;clear hm1 hr1;rcases ED with ⟨hs,he⟩|⟨b,hs,he,NB,Lr,hbl⟩
   ·have h0:nl=[]:=List.map_eq_nil_iff.1 he
    have hch2:=SM.out;rw[hs] at hch2;simp only[Nat.add_zero] at hch2;have uw:Hid (q0=i):=by unfold Hid;rw[←HQ.out];exact hch2
    clear hs he hch2;subst h0;go_wp2;simp only[bH,ap,aT,bM,bC,aD,ai,ae,Tryz.f10];go_wp2
    go_ret2
    have e2:decide (i=n)=false:=decide_eq_false (by omega);exact⟨by rw[uw.out,e2];rfl,pG.out⟩
   ·have h0:((nl.length:Int)==0)=false:=by
     have h1:=congrArg List.length he;rw[List.length_map,List.length_map] at h1;have h2:a.ws≠[]:=HA.out.ok.ne;have h3:b.ws.length≠0:=λe=>NB.ne (List.eq_nil_of_length_eq_zero e)
     exact beq_eq_false_iff_ne.2 (by omega)
    have hch2:=SM.out;rw[hs] at hch2;have uw:Hid (il pK (bY l)=(i+1)+il b ((bY l).drop (i+1))):=by unfold Hid;rw[hch2];simp only;omega
    have HB:Hid (wZ w1 (U A1 nl.length c1) b nl (i+1)):=⟨⟨_,_,rfl,bo.out.row.sl.mono λ_ _=>trivial,λp hp=>(bo.out.ev p hp).mono λ_ _=>trivial⟩,he,NB,Lr,by have:=HA.out.len;omega⟩;clear hs he hch2 NB Lr hbl;obtain⟨nn,B6⟩:∃nn,nl.length=nn:=⟨_,rfl⟩;rw[B6] at h0 HB;rw[B6];clear B6;go_wp2;simp only[bH,ap,aT,bM,bC,aD,ai,ae,Tryz.f10];go_wp2
    conv in ap (ap (bC _))=>whnf
    go_wp2;go_roundw
    case rel=>exact⟨i+1,b,nl,by omega,by go_num,uw.out,HB.out,pG.out⟩
    case measure=>simp[intOf];omega
  ·obtain rfl:i=n:=by omega
   have uw:Hid (q0=i):=by
    unfold Hid;rw[←HQ.out,HC.out];have:(bY l).drop i=[]:=List.drop_eq_nil_of_le (by simp[bY,HL.out]);rw[this];rfl
   generalize ls.length=nls at *;simp only[bH,ap,aT,bM,bC,aD,ai,ae,Tryz.f10];go_wp2
   go_ret2
   have e2:decide (i=i)=true:=decide_eq_true rfl;exact⟨by rw[uw.out,e2];rfl,HF.out⟩
theorem xE{w:World}{l:List qD}(d9:l.length=n)(hv:pI w G (A,c) l):
  Calls pQ 3 #[U A n c] w λe w'=>e=.returned (.bool true)∧aa ag w w':=by
 have KL:Hid (∀W,aa ag w W→Calls pQ 7 #[U A n c] W λe w'=>e=.returned (.bool (mP (bY l)))∧aa ag W w'):=λW hW=>by
  have q:=zL (hv.nix hW);rw[d9] at q;exact q
 cases hl:mP (bY l) with
 | true=>
   rw[hl] at KL;clear hv hl;go_enter Tryz.func3,Tryz.ntmps3;go_wp2_with (first|(go_at_call 7;((with_reducible refine(KL.out _ (fR w)).mono ?_);rintro e w1 ⟨rfl,hf⟩);have W1:Hid (aa ag w w1):=hf;clear hf)|(go_at_call 8;((with_reducible refine(rr _).mono ?_);rintro e w2 ⟨rfl,hf⟩);have W2:Hid (aa ag w w2):=(W1.out.trans hf);clear hf)|fail);go_ret
   exact⟨rfl,W2.out⟩
 | false=>
 rw[hl] at KL;have My:=hv.small hl;have hnl:n≤100:=by have:=(uM hl).1;simp only[bY,List.length_map] at this;omega
 have KC:Hid (∀W,aa ag w W→Calls pQ 9 #[U A n c] W λe w'=>e=.returned (.tuple #[I J (il pK (bY l)),I J (xz (il pK (bY l)) n)])∧aa ag W w'):=λW hW=>by
  have q:=pY (My.nix hW) (by omega);rw[d9] at q;exact q
 have KR:Hid (∀W,aa ag w W→Calls pQ 10 #[U A n c] W λe w'=>e=.returned (.tuple #[I J (il pK (bY l)),.bool (decide (il pK (bY l)=n))])∧aa ag W w'):=λW hW=>by
  have q:=zO (My.nix hW) (by omega);rw[d9] at q;exact q
 have KM:Hid (∀W,aa ag w W→Calls pQ 11 #[U A n c] W λe w'=>e=.returned (.bool (decide (il pK (bY l)=n)))∧aa ag W w'):=λW hW=>by
  have q:=zK (My.nix hW) (by omega);rw[d9] at q;exact q
 obtain⟨b,hb⟩:∃b,decide (il pK (bY l)=n)=b:=⟨_,rfl⟩
 have he:xz (il pK (bY l)) n=if b=true then 0 else 4:=by
  unfold xz;rw[←hb]
  by_cases h:il pK (bY l)=n
  ·rw[if_pos h,if_pos (decide_eq_true h)]
  ·rw[if_neg h,if_neg (by rw[decide_eq_false h];simp)]
 rw[hb] at KR KM;rw[he] at KC;generalize il pK (bY l)=q at *;have q0:((q:Int)==(q:Int))=true:=beq_self_eq_true _;clear hv My hl d9 hb he hnl
 cases b with
 | true=>
   rw[if_pos rfl] at KC;go_enter Tryz.func3,Tryz.ntmps3;go_wp2_with (first|(go_at_call 7;((with_reducible refine(KL.out _ (fR w)).mono ?_);rintro e w1 ⟨rfl,hf⟩);have W1:Hid (aa ag w w1):=hf;clear hf)|(go_at_call 9;((with_reducible refine(KC.out _ W1.out).mono ?_);rintro e w2 ⟨rfl,hf⟩);have W2:Hid (aa ag w w2):=(W1.out.trans hf);clear hf)|(go_at_call 10;((with_reducible refine(KR.out _ W2.out).mono ?_);rintro e w3 ⟨rfl,hf⟩);have W3:Hid (aa ag w w3):=(W2.out.trans hf);clear hf)|(go_at_call 11;((with_reducible refine(KM.out _ W4.out).mono ?_);rintro e w5 ⟨rfl,hf⟩);have W5:Hid (aa ag w w5):=(W4.out.trans hf);clear hf)|(go_at_call 8;((with_reducible refine(rr _).mono ?_);rintro e w4 ⟨rfl,hf⟩);have W4:Hid (aa ag w w4):=(W3.out.trans hf);clear hf)|fail);go_ret
   exact⟨rfl,W5.out⟩
 | false=>
   rw[if_neg (by simp)] at KC;go_enter Tryz.func3,Tryz.ntmps3;go_wp2_with (first|(go_at_call 7;((with_reducible refine(KL.out _ (fR w)).mono ?_);rintro e w1 ⟨rfl,hf⟩);have W1:Hid (aa ag w w1):=hf;clear hf)|(go_at_call 9;((with_reducible refine(KC.out _ W1.out).mono ?_);rintro e w2 ⟨rfl,hf⟩);have W2:Hid (aa ag w w2):=(W1.out.trans hf);clear hf)|(go_at_call 10;((with_reducible refine(KR.out _ W2.out).mono ?_);rintro e w3 ⟨rfl,hf⟩);have W3:Hid (aa ag w w3):=(W2.out.trans hf);clear hf)|(go_at_call 11;((with_reducible refine(KM.out _ W4.out).mono ?_);rintro e w5 ⟨rfl,hf⟩);have W5:Hid (aa ag w w5):=(W4.out.trans hf);clear hf)|(go_at_call 8;((with_reducible refine(rr _).mono ?_);rintro e w4 ⟨rfl,hf⟩);have W4:Hid (aa ag w w4):=(W3.out.trans hf);clear hf)|fail);go_ret;exact⟨rfl,W5.out⟩
end Go.Proofs.YtaecjmiobllhmaaGreat
