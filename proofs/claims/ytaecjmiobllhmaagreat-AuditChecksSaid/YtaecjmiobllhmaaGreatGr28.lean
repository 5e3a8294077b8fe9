/- Words. -/
import Derived.Test.YtaecjmiobllhmaaGreatGr27
import Derived.Test.YtaecjmiobllhmaaGreatGr15
import Derived.Deep.RegionWith
set_option linter.unusedVariables false
set_option linter.unusedSimpArgs false
set_option maxRecDepth 100000
set_option maxHeartbeats 16000000
namespace Go.Proofs.YtaecjmiobllhmaaGreat
open Go.Value renaming int→I,string→V,slice→U,pointer→O
open Go.IntKind renaming i64→J
open Go.RowKit Go.Lib
variable {g:Nat}{a0 a1 a2 a3 a4 a5 a6 a7 a8 u0 u1 u4 u5 u6 u7 u8 u9 u10 u11 u12 u13 u14 u15 u16 cG cH cI cR cS cT u23 u24 cN u26 dc u28 dm dp dr u32 u33 df dg u36 dt u38 dB dC dO dP dQ u44 u45 dI dJ dK dL dD dE dF dR dS dT dM dG dH dw dx dy dz dA u64 dh di dl cU cX:Value}
theorem Oc{w:World}{t:TypeId}(h:aj w g t #[a0,a1,a2,a3,a4,a5,a6,a7,a8])(b0 b1 b2 b3 b4 b5 b6 b7 b8:Value):
  aj (((((((((w.setCell ⟨g,0,none⟩ b0).setCell ⟨g,1,none⟩ b1).setCell ⟨g,2,none⟩ b2).setCell ⟨g,3,none⟩ b3).setCell ⟨g,4,none⟩ b4).setCell ⟨g,5,none⟩ b5).setCell ⟨g,6,none⟩ b6).setCell ⟨g,7,none⟩ b7).setCell ⟨g,8,none⟩ b8) g t #[b0,b1,b2,b3,b4,b5,b6,b7,b8]:=by
 have:=aj.putL [b0,b1,b2,b3,b4,b5,b6,b7,b8] 0 h;rw[kK] at this;exact this
theorem Od(w:World)(g:Nat)(b0 b1 b2 b3 b4 b5 b6 b7 b8:Value):aa (·=g) w (((((((((w.setCell ⟨g,0,none⟩ b0).setCell ⟨g,1,none⟩ b1).setCell ⟨g,2,none⟩ b2).setCell ⟨g,3,none⟩ b3).setCell ⟨g,4,none⟩ b4).setCell ⟨g,5,none⟩ b5).setCell ⟨g,6,none⟩ b6).setCell ⟨g,7,none⟩ b7).setCell ⟨g,8,none⟩ b8):=aa.setCells [b0,b1,b2,b3,b4,b5,b6,b7,b8] 0 (aa.refl (·=g) w) (.inl rfl)
theorem H6{W:World}{tmps:Array Value}(hb:aj W g 36 #[a0,a1,a2,a3,a4,a5,a6,a7,a8])(h2:tmps.getD 2 undef=O (some ⟨g,0,none⟩)):
  (results Tryz.f23 tmps).run Tryz.prog W=.ok (.agg #[a0,a1,a2,a3,a4,a5,a6,a7,a8]) W:=by
 obtain⟨c0,c1,c2,c3,c4,c5,c6,c7,c8⟩:=aA hb;have h2':tmps[2]?.getD undef=O (some ⟨g,0,none⟩):=by simpa using h2
 simp[results,Tryz.results23,h2',go_sem,c0,c1,c2,c3,c4,c5,c6,c7,c8]
structure od(w wc:World)(br b3 B:Nat)(fo fe it se:Sl)(x:St)(k:Nat)(ts:List (Sl×aR)):Prop where
 res:aj wc br 36 #[I J 0,U none 0 0,U none 0 0,U none 0 0,U none 0 0,I J 0,I J 0,I J 0,I J 0]
 box:aj wc b3 36 #[I J x.clock,U fo.1 x.fols.length fo.2,U fe.1 x.fees.length fe.2,U it.1 x.itms.length it.2,U se.1 x.seas.length se.2,I J x.tFol,I J x.tFee,I J x.tItm,I J x.tSea]
 fol:aI 79 3 w wc (U fo.1 x.fols.length fo.2) x.fols.length (x.fols.flatMap bh.cells)
 fee:aI 64 4 w wc (U fe.1 x.fees.length fe.2) x.fees.length (x.fees.flatMap aX.cells)
 itm:aI 82 9 w wc (U it.1 x.itms.length it.2) x.itms.length (ts.flatMap io)
 sea:aI 84 3 w wc (U se.1 x.seas.length se.2) x.seas.length (x.seas.flatMap ce.cells)
 same:ts.map (·.2)=x.itms
 hbr:w.heap.size≤br
 hb3:w.heap.size≤b3
 hB:br<B∧b3<B∧∀j,(Value.slice it.1 x.itms.length it.2).ownBlock=some j→j<B
 old:∀i (h:i<ts.length),k≤i→bF wc ts[i].1 ts[i].2.tags
 new:∀i (h:i<ts.length),i<k→aF wc (λj=>B≤j) 1 ts[i].1 ts[i].2.tags.length (ts[i].2.tags.map Value.string)
section
variable {w wc w2:World} {br b3 B:Nat} {fo fe it se:Sl} {x:St} {k:Nat} {ts:List (Sl×aR)}
theorem od.nix(h:od w wc br b3 B fo fe it se x k ts)(hf:aa ag wc w2):od w w2 br b3 B fo fe it se x k ts:=
 ⟨h.res.frm hf id,h.box.frm hf id,h.fol.more hf,h.fee.more hf,h.itm.more hf,h.sea.more hf,h.same,h.hbr,h.hb3,h.hB,λi hi hk=>(h.old i hi hk).frm hf λ_ _=>id,λi hi hk=>(h.new i hi hk).nix hf⟩
theorem od.len(h:od w wc br b3 B fo fe it se x k ts):ts.length=x.itms.length:=by rw[←h.same,List.length_map]
end
theorem MD{w wc:World}{br b3 B:Nat}{fo fe it se:Sl}{x:St}{ts:List (Sl×aR)}(h:od w wc br b3 B fo fe it se x x.itms.length ts)(Nr:w.heap.size≤B):
  Code.wp Tryz.prog (ai 4 (ae Tryz.f23)) (bodyPost Tryz.prog Tryz.f23 λe w'=>∃fo fe it se:Sl,∃ts:List (Sl×aR),e=.returned (cC fo fe it se x)∧aY w' (λk=>w.heap.size≤k) fo fe it se ts x∧aa ag w w') ⟨#[u0,u1,O (some ⟨br,0,none⟩),O (some ⟨b3,0,none⟩),u4,u5,u6,u7,u8,u9,u10,u11,u12,u13,u14,u15,u16,cG,cH,cI,cR,cS,cT,u23,u24,cN,u26,dc,u28,dm,dp,dr,u32,u33,df,dg,u36,dt,u38,dB,dC,dO,dP,dQ,u44,u45,dI,dJ,dK,dL,dD,dE,dF,dR,dS,dT,dM,dG,dH,dw,dx,dy,dz,dA,u64,dh,di,dl,cU,cX],[]⟩ wc:=by
 obtain⟨x0,x1,x2,x3,x4,x5,x6,x7,x8⟩:=aA h.box;obtain⟨p0,p1,p2,p3,p4,p5,p6,p7,p8⟩:=aA h.res;have g0:=h.res.frozen 0;have g1:=h.res.frozen 1;have g2:=h.res.frozen 2;have g3:=h.res.frozen 3;have g4:=h.res.frozen 4;have g5:=h.res.frozen 5;have g6:=h.res.frozen 6;have g7:=h.res.frozen 7;have g8:=h.res.frozen 8;have hb:=Oc h.res (I J x.clock) (U fo.1 x.fols.length fo.2) (U fe.1 x.fees.length fe.2) (U it.1 x.itms.length it.2) (U se.1 x.seas.length se.2) (I J x.tFol) (I J x.tFee) (I J x.tItm) (I J x.tSea);have hf:=Od wc br (I J x.clock) (U fo.1 x.fols.length fo.2) (U fe.1 x.fees.length fe.2) (U it.1 x.itms.length it.2) (U se.1 x.seas.length se.2) (I J x.tFol) (I J x.tFee) (I J x.tItm) (I J x.tSea);have HB:=h_ hb;have HF:=h_ hf;have H:=h_ h;clear h hb hf;simp only[ai,ae,Tryz.f23];go_wp2;refine bodyPost_ret (H6 HB.out rfl) rfl ?_;have h:=H.out;have hf:=HF.out;have hbr:=h.hbr;have f1:∀k,k=br→w.heap.size≤k:=λk hk=>by omega
 have e1:=h.fol.far hf f1 (λj hj e=>h.fol.ne_blk h.res (by decide) (e ▸ hj));have e2:=h.fee.far hf f1 (λj hj e=>h.fee.ne_blk h.res (by decide) (e ▸ hj));have e3:=h.itm.far hf f1 (λj hj e=>h.itm.ne_blk h.res (by decide) (e ▸ hj));have e4:=h.sea.far hf f1 (λj hj e=>h.sea.ne_blk h.res (by decide) (e ▸ hj));have hl:=h.len;refine⟨fo,fe,it,se,ts,rfl,⟨e1.sl,e2.sl,⟨by rw[hl];exact e3.sl,λp hp=>?_⟩,h.same,e4.sl⟩,e1.frm⟩;obtain⟨i,hi,rfl⟩:=List.getElem_of_mem hp;exact((h.new i hi (by omega)).frm hf λj hj e=>by have:=h.hB.1;omega).mono λj hj=>by omega
theorem tB{α:Type}{l:List α}{k i:Nat}{y:α}(hi:i<(l.set k y).length):(l.set k y)[i]=if k=i then y else l[i]'(by simpa using hi):=List.getElem_set hi
theorem H7{w wc:World}{br b3:Nat}{fo fe it se:Sl}{x:St}{ts:List (Sl×aR)}(hx:gN x)(h:od w wc br b3 wc.heap.size fo fe it se x 0 ts):
  Code.wp Tryz.prog (ai 3 (ae Tryz.f23)) (bodyPost Tryz.prog Tryz.f23 λe w'=>∃fo fe it se:Sl,∃ts:List (Sl×aR),e=.returned (cC fo fe it se x)∧aY w' (λk=>w.heap.size≤k) fo fe it se ts x∧aa ag w w') ⟨#[u0,u1,O (some ⟨br,0,none⟩),O (some ⟨b3,0,none⟩),u4,u5,u6,u7,u8,u9,u10,u11,u12,u13,u14,u15,u16,cG,cH,cI,cR,cS,cT,u23,u24,cN,u26,dc,u28,dm,dp,dr,u32,u33,df,dg,u36,dt,u38,dB,dC,dO,dP,dQ,u44,u45,dI,dJ,dK,dL,dD,dE,dF,dR,dS,dT,dM,dG,dH,dw,dx,dy,dz,dA,u64,dh,di,dl,cU,cX],[]⟩ wc:=by
 have hsz:=h.itm.frm.size;obtain⟨x0,x1,x2,x3,x4,x5,x6,x7,x8⟩:=aA h.box;have cm:=hx.iL;obtain⟨ia,ic⟩:=it;dsimp only at x3;obtain⟨B,hB⟩:∃B,B=wc.heap.size:=⟨_,rfl⟩;rw[←hB] at h;have Nr:w.heap.size≤B:=by omega
 have H:=h_ h;have HX:=h_ hx;clear h hx;refine aC (k':=4) λK hK=>?_
 conv in aD _=>whnf
 go_wp2
 go_loopw [57] (λkv wr=>∃(k:Nat) (ts:List (Sl×aR)),k≤x.itms.length∧kv=I J k∧od w wr br b3 B fo fe (ia,ic) se x k ts∧B≤wr.heap.size) (λkv _=>x.itms.length-(intOf kv).toNat)
 case atStart=>exact⟨0,_,by omega,rfl,H.out,by omega⟩
 case round=>
  obtain⟨k,Gq,hk,rfl,h2,Vm⟩:=hrel;have H2:=h_ h2
  by_cases hlt:k<x.itms.length
  ·have hl2:=h2.len
   have cQ:k<Gq.length:=by omega
   obtain⟨g,hA,hg,vJ,⟨cs0,hbg⟩,hcell,hfz,hput⟩:=h2.itm.elem bN hl2 (by omega);dsimp only at hA;subst hA;have hg3:b3≠g:=h2.box.ne_ hbg (by decide);have Vn:g<B:=h2.hB.2.2 g rfl;obtain⟨z0,z1,z2,z3,z4,z5,z6,z7,z8⟩:=aA h2.box;dsimp only at z3;have qW:=h2.old k cQ (Nat.le_refl _)
   have Sp:Gq[k].2.tags.length≤1000:=by
    have hm:Gq[k].2∈x.itms:=by rw[←h2.same];exact List.mem_map_of_mem (List.getElem_mem cQ)
    have:=(HX.out.iE _ hm).2.2.2.1;omega
   have TZ:=h_ cQ;obtain⟨p,hp,Lb,tg,t8⟩:∃p:Sl×aR,Gq[k]'cQ=p∧(∀(j:Nat) (u:Value),(io p)[j]? =some u→wr.cell? ⟨g,k * 9+j,none⟩=some u)∧bF wr p.1 p.2.tags∧p.2.tags.length≤1000:=⟨Gq[k]'cQ,rfl,hcell k cQ,qW,Sp⟩;clear qW Sp;obtain⟨y0,y1,y2,y3,y4,y5,y6,y7,y8⟩:=rU (w:=wr) (b:=g) (off:=k * 9) (p:=p) Lb;clear Lb hcell;have HP:=h_ hp
   have KT:Hid (∀W,aa ag wr W→Calls Tryz.prog 60 #[.agg #[I J p.2.id,I J p.2.feed,I J p.2.date,V p.2.guid,V p.2.title,V p.2.link,.bool p.2.read,.bool p.2.star,U p.1.1 p.2.tags.length p.1.2]] W λe w'=>∃v':Sl,e=.returned (.agg #[I J p.2.id,I J p.2.feed,I J p.2.date,V p.2.guid,V p.2.title,V p.2.link,.bool p.2.read,.bool p.2.star,U v'.1 p.2.tags.length v'.2])∧aF w' (λk=>wr.heap.size≤k) 1 v' p.2.tags.length (p.2.tags.map Value.string)∧aa ag wr w'):=λW hW=>
    (Hd p.2 (tg.frm hW λ_ _=>id) t8).mono λe w' ⟨v',q1,q2,q3⟩=>⟨v',q1,q2.mono λk hk=>by have:=hW.size;omega,hW.trans q3⟩
   have HU:Hid (∀(v':Sl) (w2:World),aa ag wr w2→aF w2 (λk=>wr.heap.size≤k) 1 v' p.2.tags.length (p.2.tags.map Value.string)→od w (w2.setCells g (k * 9) (io (v',p.2))) br b3 B fo fe (some ⟨g,0,none⟩,ic) se x (k+1) (Gq.set k (v',p.2))∧B≤(w2.setCells g (k * 9) (io (v',p.2))).heap.size):=by
    intro v' w2 hf Gh;have q:=h2.nix hf;obtain⟨g',hA',-,-,⟨cs1,Fo⟩,-,-,Oe⟩:=q.itm.elem bN hl2 (by omega)
    have T1:g=g':=by
     simp only[Option.some.injEq,Addr.mk.injEq] at hA';exact hA'.1
    clear hA';subst T1;obtain⟨hr,J4⟩:=Oe k cQ (v',p.2);have Vo:wr.heap.size≤w2.heap.size:=hf.size;have hgr:g<wr.heap.size:=vJ;refine⟨⟨q.res.frm J4 (λe=>q.res.ne_ Fo (by decide) e),q.box.frm J4 (λe=>q.box.ne_ Fo (by decide) e),q.fol.far J4 (λj hj=>by omega) (λj hj e=>q.fol.ne_blk Fo (by decide) (e ▸ hj)),q.fee.far J4 (λj hj=>by omega) (λj hj e=>q.fee.ne_blk Fo (by decide) (e ▸ hj)),hr,q.sea.far J4 (λj hj=>by omega) (λj hj e=>q.sea.ne_blk Fo (by decide) (e ▸ hj)),?_,q.hbr,q.hb3,q.hB,λi hi hik=>?_,λi hi hik=>?_⟩,by have:=J4.size;omega⟩
    ·rw[List.map_set,←q.same]
     have:p.2=(Gq.map (·.2))[k]'(by rw[List.length_map];exact cQ):=by rw[List.getElem_map,hp]
     rw[this,List.set_getElem_self]
    ·rw[tB hi,if_neg (by omega)]
     exact(q.old i (by simpa using hi) (by omega)).frm J4 λj hj e=>Fo.ne_str (by decide) hj e
    ·rw[tB hi]
     by_cases Sq:k=i
     ·rw[if_pos Sq]
      exact((Gh.frm J4 λj hj e=>by omega).mono λj hj=>by omega)
     ·rw[if_neg Sq]
      exact(q.new i (by simpa using hi) (by omega)).frm J4 λj hj e=>by omega
   have HG:Hid (∀w2,aa ag wr w2→w2.cell? ⟨b3,3,none⟩=some (U (some ⟨g,0,none⟩) x.itms.length ic)∧(∀j,w2.frozen? ⟨g,j,none⟩=false)∧(w2.cell? ⟨g,k * 9,none⟩=some (I J p.2.id)∧w2.cell? ⟨g,k * 9+1,none⟩=some (I J p.2.feed)∧w2.cell? ⟨g,k * 9+2,none⟩=some (I J p.2.date)∧w2.cell? ⟨g,k * 9+3,none⟩=some (V p.2.guid)∧w2.cell? ⟨g,k * 9+4,none⟩=some (V p.2.title)∧w2.cell? ⟨g,k * 9+5,none⟩=some (V p.2.link)∧w2.cell? ⟨g,k * 9+6,none⟩=some (.bool p.2.read)∧w2.cell? ⟨g,k * 9+7,none⟩=some (.bool p.2.star)∧w2.cell? ⟨g,k * 9+8,none⟩=some (U p.1.1 p.2.tags.length p.1.2))):=λw2 hf=>
    ⟨(hf.cell (p:=⟨b3,3,none⟩) h2.box.lt id).trans z3,λj=>(hf.frozen (p:=⟨g,j,none⟩) vJ id).trans (hfz j),(hf.cell (p:=⟨g,_,none⟩) vJ id).trans y0,(hf.cell (p:=⟨g,_,none⟩) vJ id).trans y1,(hf.cell (p:=⟨g,_,none⟩) vJ id).trans y2,(hf.cell (p:=⟨g,_,none⟩) vJ id).trans y3,(hf.cell (p:=⟨g,_,none⟩) vJ id).trans y4,(hf.cell (p:=⟨g,_,none⟩) vJ id).trans y5,(hf.cell (p:=⟨g,_,none⟩) vJ id).trans y6,(hf.cell (p:=⟨g,_,none⟩) vJ id).trans y7,(hf.cell (p:=⟨g,_,none⟩) vJ id).trans y8⟩
   clear TZ;clear h2 hput hfz tg t8 hp hbg;go_wp2;obtain⟨w6,PG⟩:∃w6,w6=wr.alloc (.cells #[I J p.2.id,I J p.2.feed,I J p.2.date,V p.2.guid,V p.2.title,V p.2.link,.bool p.2.read,.bool p.2.star,U p.1.1 p.2.tags.length p.1.2] 82):=⟨_,rfl⟩;have Mm:aa ag wr w6:=by rw[PG];exact(fR wr).alloc _
   obtain⟨s0,s1,s2,s3,s4,s5,s6,s7,s8⟩:_:=aA (show aj w6 wr.heap.size 82 #[I J p.2.id,I J p.2.feed,I J p.2.date,V p.2.guid,V p.2.title,V p.2.link,.bool p.2.read,.bool p.2.star,U p.1.1 p.2.tags.length p.1.2] by rw[PG];exact aj.new wr _ _);obtain⟨q3,-,-⟩:=HG.out w6 Mm;rw[←PG];clear PG y0 y1 y2 y3 y4 y5 y6 y7 y8 z0 z1 z2 z3 z4 z5 z6 z7 z8 x0 x1 x2 x4 x5 x6 x7 x8
   go_region_with (go_at_call 60;refine(KT.out _ Mm.drew).mono ?_;rintro e w2 ⟨v',rfl,Gh,hf2⟩;obtain⟨q3,qf,r0,r1,r2,r3,r4,r5,r6,r7,r8⟩:=HG.out w2 hf2;have Ny:=h_ (HU.out v' w2 hf2 Gh);clear Gh hf2)
   all_goals
    go_wp2;go_roundw
    case rel=>exact⟨k+1,_,by omega,by go_num,Ny.out.1,Ny.out.2⟩
    case measure=>simp[intOf];omega
  ·obtain rfl:k=x.itms.length:=by omega
   clear h2;go_wp2;exact MD H2.out Nr
end Go.Proofs.YtaecjmiobllhmaaGreat
