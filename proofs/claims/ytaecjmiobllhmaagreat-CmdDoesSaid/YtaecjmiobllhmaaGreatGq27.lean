/- Words. -/
import Derived.Test.YtaecjmiobllhmaaGreatGq26
import Derived.Test.YtaecjmiobllhmaaGreatGq15
import Derived.Deep.RegionWith
set_option linter.unusedVariables false
set_option linter.unusedSimpArgs false
set_option maxRecDepth 100000
set_option maxHeartbeats 16000000
namespace Go.Proofs.YtaecjmiobllhmaaGreat
open Go.Value renaming int→I,string→V,slice→U,pointer→O
open Go.IntKind renaming i64→J
open Go.RowKit Go.Lib
variable {g:Nat}{a0 a1 a2 a3 a4 a5 a6 a7 a8 u0 u1 u4 u5 u6 u7 u8 u9 u10 u11 u12 u13 u14 u15 u16 eG eH eI eJ eK eM u23 u24 eO u26 eW u28 eX eY eZ u32 u33 fh fj u36 fk u38 fw fx fy fG fH u44 u45 fJ fK gC gD gw gy gj gl gm gp fM fO fP fQ fU fV fW fX u64 fY fZ gc gg gF:Value}
theorem PP{w:World}{t:TypeId}(h:ai w g t #[a0,a1,a2,a3,a4,a5,a6,a7,a8])(b0 b1 b2 b3 b4 b5 b6 b7 b8:Value):
  ai (((((((((w.setCell ⟨g,0,none⟩ b0).setCell ⟨g,1,none⟩ b1).setCell ⟨g,2,none⟩ b2).setCell ⟨g,3,none⟩ b3).setCell ⟨g,4,none⟩ b4).setCell ⟨g,5,none⟩ b5).setCell ⟨g,6,none⟩ b6).setCell ⟨g,7,none⟩ b7).setCell ⟨g,8,none⟩ b8) g t #[b0,b1,b2,b3,b4,b5,b6,b7,b8]:=by
 have:=ai.putL [b0,b1,b2,b3,b4,b5,b6,b7,b8] 0 h;rw[i7] at this;exact this
theorem PQ(w:World)(g:Nat)(b0 b1 b2 b3 b4 b5 b6 b7 b8:Value):aa (·=g) w (((((((((w.setCell ⟨g,0,none⟩ b0).setCell ⟨g,1,none⟩ b1).setCell ⟨g,2,none⟩ b2).setCell ⟨g,3,none⟩ b3).setCell ⟨g,4,none⟩ b4).setCell ⟨g,5,none⟩ b5).setCell ⟨g,6,none⟩ b6).setCell ⟨g,7,none⟩ b7).setCell ⟨g,8,none⟩ b8):=aa.setCells [b0,b1,b2,b3,b4,b5,b6,b7,b8] 0 (aa.refl (·=g) w) (.inl rfl)
theorem I5{W:World}{tmps:Array Value}(hb:ai W g 36 #[a0,a1,a2,a3,a4,a5,a6,a7,a8])(h2:tmps.getD 2 undef=O (some ⟨g,0,none⟩)):
  (results Tryz.f23 tmps).run Tryz.prog W=.ok (.agg #[a0,a1,a2,a3,a4,a5,a6,a7,a8]) W:=by
 obtain⟨c0,c1,c2,c3,c4,c5,c6,c7,c8⟩:=ak hb;have h2':tmps[2]?.getD undef=O (some ⟨g,0,none⟩):=by simpa using h2
 simp[results,Tryz.results23,h2',go_sem,c0,c1,c2,c3,c4,c5,c6,c7,c8]
structure nS(w wc:World)(br b3 B:Nat)(fo fe it se:Sl)(x:St)(k:Nat)(ts:List (Sl×aJ)):Prop where
 res:ai wc br 36 #[I J 0,U none 0 0,U none 0 0,U none 0 0,U none 0 0,I J 0,I J 0,I J 0,I J 0]
 box:ai wc b3 36 #[I J x.clock,U fo.1 x.fols.length fo.2,U fe.1 x.fees.length fe.2,U it.1 x.itms.length it.2,U se.1 x.seas.length se.2,I J x.tFol,I J x.tFee,I J x.tItm,I J x.tSea]
 fol:aO 79 3 w wc (U fo.1 x.fols.length fo.2) x.fols.length (x.fols.flatMap bg.cells)
 fee:aO 64 4 w wc (U fe.1 x.fees.length fe.2) x.fees.length (x.fees.flatMap aP.cells)
 itm:aO 82 9 w wc (U it.1 x.itms.length it.2) x.itms.length (ts.flatMap iY)
 sea:aO 84 3 w wc (U se.1 x.seas.length se.2) x.seas.length (x.seas.flatMap dE.cells)
 same:ts.map (·.2)=x.itms
 hbr:w.heap.size≤br
 hb3:w.heap.size≤b3
 hB:br<B∧b3<B∧∀j,(Value.slice it.1 x.itms.length it.2).ownBlock=some j→j<B
 old:∀i (h:i<ts.length),k≤i→cI wc ts[i].1 ts[i].2.tags
 new:∀i (h:i<ts.length),i<k→aN wc (λj=>B≤j) 1 ts[i].1 ts[i].2.tags.length (ts[i].2.tags.map Value.string)
section
variable {w wc w2:World} {br b3 B:Nat} {fo fe it se:Sl} {x:St} {k:Nat} {ts:List (Sl×aJ)}
theorem nS.nix(h:nS w wc br b3 B fo fe it se x k ts)(hf:aa ac wc w2):nS w w2 br b3 B fo fe it se x k ts:=
 ⟨h.res.frm hf id,h.box.frm hf id,h.fol.more hf,h.fee.more hf,h.itm.more hf,h.sea.more hf,h.same,h.hbr,h.hb3,h.hB,λi hi hk=>(h.old i hi hk).frm hf λ_ _=>id,λi hi hk=>(h.new i hi hk).nix hf⟩
theorem nS.len(h:nS w wc br b3 B fo fe it se x k ts):ts.length=x.itms.length:=by rw[←h.same,List.length_map]
end
theorem NF{w wc:World}{br b3 B:Nat}{fo fe it se:Sl}{x:St}{ts:List (Sl×aJ)}(h:nS w wc br b3 B fo fe it se x x.itms.length ts)(OM:w.heap.size≤B):
  Code.wp Tryz.prog (aj 4 (ae Tryz.f23)) (bodyPost Tryz.prog Tryz.f23 λe w'=>∃fo fe it se:Sl,∃ts:List (Sl×aJ),e=.returned (bE fo fe it se x)∧aM w' (λk=>w.heap.size≤k) fo fe it se ts x∧aa ac w w') ⟨#[u0,u1,O (some ⟨br,0,none⟩),O (some ⟨b3,0,none⟩),u4,u5,u6,u7,u8,u9,u10,u11,u12,u13,u14,u15,u16,eG,eH,eI,eJ,eK,eM,u23,u24,eO,u26,eW,u28,eX,eY,eZ,u32,u33,fh,fj,u36,fk,u38,fw,fx,fy,fG,fH,u44,u45,fJ,fK,gC,gD,gw,gy,gj,gl,gm,gp,fM,fO,fP,fQ,fU,fV,fW,fX,u64,fY,fZ,gc,gg,gF],[]⟩ wc:=by
 obtain⟨x0,x1,x2,x3,x4,x5,x6,x7,x8⟩:=ak h.box;obtain⟨p0,p1,p2,p3,p4,p5,p6,p7,p8⟩:=ak h.res;have g0:=h.res.frozen 0;have g1:=h.res.frozen 1;have g2:=h.res.frozen 2;have g3:=h.res.frozen 3;have g4:=h.res.frozen 4;have g5:=h.res.frozen 5;have g6:=h.res.frozen 6;have g7:=h.res.frozen 7;have g8:=h.res.frozen 8;have hb:=PP h.res (I J x.clock) (U fo.1 x.fols.length fo.2) (U fe.1 x.fees.length fe.2) (U it.1 x.itms.length it.2) (U se.1 x.seas.length se.2) (I J x.tFol) (I J x.tFee) (I J x.tItm) (I J x.tSea);have hf:=PQ wc br (I J x.clock) (U fo.1 x.fols.length fo.2) (U fe.1 x.fees.length fe.2) (U it.1 x.itms.length it.2) (U se.1 x.seas.length se.2) (I J x.tFol) (I J x.tFee) (I J x.tItm) (I J x.tSea);have HB:=h_ hb;have HF:=h_ hf;have H:=h_ h;clear h hb hf;simp only[aj,ae,Tryz.f23];go_wp2;refine bodyPost_ret (I5 HB.out rfl) rfl ?_;have h:=H.out;have hf:=HF.out;have hbr:=h.hbr;have f1:∀k,k=br→w.heap.size≤k:=λk hk=>by omega
 have e1:=h.fol.far hf f1 (λj hj e=>h.fol.ne_blk h.res (by decide) (e ▸ hj));have e2:=h.fee.far hf f1 (λj hj e=>h.fee.ne_blk h.res (by decide) (e ▸ hj));have e3:=h.itm.far hf f1 (λj hj e=>h.itm.ne_blk h.res (by decide) (e ▸ hj));have e4:=h.sea.far hf f1 (λj hj e=>h.sea.ne_blk h.res (by decide) (e ▸ hj));have hl:=h.len;refine⟨fo,fe,it,se,ts,rfl,⟨e1.sl,e2.sl,⟨by rw[hl];exact e3.sl,λp hp=>?_⟩,h.same,e4.sl⟩,e1.frm⟩;obtain⟨i,hi,rfl⟩:=List.getElem_of_mem hp;exact((h.new i hi (by omega)).frm hf λj hj e=>by have:=h.hB.1;omega).mono λj hj=>by omega
theorem sY{α:Type}{l:List α}{k i:Nat}{y:α}(hi:i<(l.set k y).length):(l.set k y)[i]=if k=i then y else l[i]'(by simpa using hi):=List.getElem_set hi
theorem I6{w wc:World}{br b3:Nat}{fo fe it se:Sl}{x:St}{ts:List (Sl×aJ)}(hx:di x)(h:nS w wc br b3 wc.heap.size fo fe it se x 0 ts):
  Code.wp Tryz.prog (aj 3 (ae Tryz.f23)) (bodyPost Tryz.prog Tryz.f23 λe w'=>∃fo fe it se:Sl,∃ts:List (Sl×aJ),e=.returned (bE fo fe it se x)∧aM w' (λk=>w.heap.size≤k) fo fe it se ts x∧aa ac w w') ⟨#[u0,u1,O (some ⟨br,0,none⟩),O (some ⟨b3,0,none⟩),u4,u5,u6,u7,u8,u9,u10,u11,u12,u13,u14,u15,u16,eG,eH,eI,eJ,eK,eM,u23,u24,eO,u26,eW,u28,eX,eY,eZ,u32,u33,fh,fj,u36,fk,u38,fw,fx,fy,fG,fH,u44,u45,fJ,fK,gC,gD,gw,gy,gj,gl,gm,gp,fM,fO,fP,fQ,fU,fV,fW,fX,u64,fY,fZ,gc,gg,gF],[]⟩ wc:=by
 have hsz:=h.itm.frm.size;obtain⟨x0,x1,x2,x3,x4,x5,x6,x7,x8⟩:=ak h.box;have ew:=hx.iL;obtain⟨ia,ic⟩:=it;dsimp only at x3;obtain⟨B,hB⟩:∃B,B=wc.heap.size:=⟨_,rfl⟩;rw[←hB] at h;have OM:w.heap.size≤B:=by omega
 have H:=h_ h;have HX:=h_ hx;clear h hx;refine aG (k':=4) λK hK=>?_
 conv in bz _=>whnf
 go_wp2
 go_loopw [57] (λkv wr=>∃(k:Nat) (ts:List (Sl×aJ)),k≤x.itms.length∧kv=I J k∧nS w wr br b3 B fo fe (ia,ic) se x k ts∧B≤wr.heap.size) (λkv _=>x.itms.length-(intOf kv).toNat)
 case atStart=>exact⟨0,_,by omega,rfl,H.out,by omega⟩
 case round=>
  obtain⟨k,NG,hk,rfl,h2,YZ⟩:=hrel;have H2:=h_ h2
  by_cases hlt:k<x.itms.length
  ·have hl2:=h2.len
   have dX:k<NG.length:=by omega
   obtain⟨g,hA,hg,xS,⟨cs0,hbg⟩,hcell,hfz,hput⟩:=h2.itm.elem dp hl2 (by omega);dsimp only at hA;subst hA;have hg3:b3≠g:=h2.box.ne_ hbg (by decide);have Y0:g<B:=h2.hB.2.2 g rfl;obtain⟨z0,z1,z2,z3,z4,z5,z6,z7,z8⟩:=ak h2.box;dsimp only at z3;have sf:=h2.old k dX (Nat.le_refl _)
   have Vb:NG[k].2.tags.length≤1000:=by
    have hm:NG[k].2∈x.itms:=by rw[←h2.same];exact List.mem_map_of_mem (List.getElem_mem dX)
    have:=(HX.out.iE _ hm).2.2.2.1;omega
   have WW:=h_ dX;obtain⟨p,hp,Q8,tg,t8⟩:∃p:Sl×aJ,NG[k]'dX=p∧(∀(j:Nat) (u:Value),(iY p)[j]? =some u→wr.cell? ⟨g,k * 9+j,none⟩=some u)∧cI wr p.1 p.2.tags∧p.2.tags.length≤1000:=⟨NG[k]'dX,rfl,hcell k dX,sf,Vb⟩;clear sf Vb;obtain⟨y0,y1,y2,y3,y4,y5,y6,y7,y8⟩:=wn (w:=wr) (b:=g) (off:=k * 9) (p:=p) Q8;clear Q8 hcell;have HP:=h_ hp
   have KT:Hid (∀W,aa ac wr W→Calls Tryz.prog 60 #[.agg #[I J p.2.id,I J p.2.feed,I J p.2.date,V p.2.guid,V p.2.title,V p.2.link,.bool p.2.read,.bool p.2.star,U p.1.1 p.2.tags.length p.1.2]] W λe w'=>∃v':Sl,e=.returned (.agg #[I J p.2.id,I J p.2.feed,I J p.2.date,V p.2.guid,V p.2.title,V p.2.link,.bool p.2.read,.bool p.2.star,U v'.1 p.2.tags.length v'.2])∧aN w' (λk=>wr.heap.size≤k) 1 v' p.2.tags.length (p.2.tags.map Value.string)∧aa ac wr w'):=λW hW=>
    (Bg p.2 (tg.frm hW λ_ _=>id) t8).mono λe w' ⟨v',q1,q2,q3⟩=>⟨v',q1,q2.mono λk hk=>by have:=hW.size;omega,hW.trans q3⟩
   have HU:Hid (∀(v':Sl) (w2:World),aa ac wr w2→aN w2 (λk=>wr.heap.size≤k) 1 v' p.2.tags.length (p.2.tags.map Value.string)→nS w (w2.setCells g (k * 9) (iY (v',p.2))) br b3 B fo fe (some ⟨g,0,none⟩,ic) se x (k+1) (NG.set k (v',p.2))∧B≤(w2.setCells g (k * 9) (iY (v',p.2))).heap.size):=by
    intro v' w2 hf dL;have q:=h2.nix hf;obtain⟨g',hA',-,-,⟨cs1,Gs⟩,-,-,PR⟩:=q.itm.elem dp hl2 (by omega)
    have WX:g=g':=by
     simp only[Option.some.injEq,Addr.mk.injEq] at hA';exact hA'.1
    clear hA';subst WX;obtain⟨hr,Ln⟩:=PR k dX (v',p.2);have Hk:wr.heap.size≤w2.heap.size:=hf.size;have hgr:g<wr.heap.size:=xS;refine⟨⟨q.res.frm Ln (λe=>q.res.ne_ Gs (by decide) e),q.box.frm Ln (λe=>q.box.ne_ Gs (by decide) e),q.fol.far Ln (λj hj=>by omega) (λj hj e=>q.fol.ne_blk Gs (by decide) (e ▸ hj)),q.fee.far Ln (λj hj=>by omega) (λj hj e=>q.fee.ne_blk Gs (by decide) (e ▸ hj)),hr,q.sea.far Ln (λj hj=>by omega) (λj hj e=>q.sea.ne_blk Gs (by decide) (e ▸ hj)),?_,q.hbr,q.hb3,q.hB,λi hi hik=>?_,λi hi hik=>?_⟩,by have:=Ln.size;omega⟩
    ·rw[List.map_set,←q.same]
     have:p.2=(NG.map (·.2))[k]'(by rw[List.length_map];exact dX):=by rw[List.getElem_map,hp]
     rw[this,List.set_getElem_self]
    ·rw[sY hi,if_neg (by omega)]
     exact(q.old i (by simpa using hi) (by omega)).frm Ln λj hj e=>Gs.ne_str (by decide) hj e
    ·rw[sY hi]
     by_cases Ro:k=i
     ·rw[if_pos Ro]
      exact((dL.frm Ln λj hj e=>by omega).mono λj hj=>by omega)
     ·rw[if_neg Ro]
      exact(q.new i (by simpa using hi) (by omega)).frm Ln λj hj e=>by omega
   have HG:Hid (∀w2,aa ac wr w2→w2.cell? ⟨b3,3,none⟩=some (U (some ⟨g,0,none⟩) x.itms.length ic)∧(∀j,w2.frozen? ⟨g,j,none⟩=false)∧(w2.cell? ⟨g,k * 9,none⟩=some (I J p.2.id)∧w2.cell? ⟨g,k * 9+1,none⟩=some (I J p.2.feed)∧w2.cell? ⟨g,k * 9+2,none⟩=some (I J p.2.date)∧w2.cell? ⟨g,k * 9+3,none⟩=some (V p.2.guid)∧w2.cell? ⟨g,k * 9+4,none⟩=some (V p.2.title)∧w2.cell? ⟨g,k * 9+5,none⟩=some (V p.2.link)∧w2.cell? ⟨g,k * 9+6,none⟩=some (.bool p.2.read)∧w2.cell? ⟨g,k * 9+7,none⟩=some (.bool p.2.star)∧w2.cell? ⟨g,k * 9+8,none⟩=some (U p.1.1 p.2.tags.length p.1.2))):=λw2 hf=>
    ⟨(hf.cell (p:=⟨b3,3,none⟩) h2.box.lt id).trans z3,λj=>(hf.frozen (p:=⟨g,j,none⟩) xS id).trans (hfz j),(hf.cell (p:=⟨g,_,none⟩) xS id).trans y0,(hf.cell (p:=⟨g,_,none⟩) xS id).trans y1,(hf.cell (p:=⟨g,_,none⟩) xS id).trans y2,(hf.cell (p:=⟨g,_,none⟩) xS id).trans y3,(hf.cell (p:=⟨g,_,none⟩) xS id).trans y4,(hf.cell (p:=⟨g,_,none⟩) xS id).trans y5,(hf.cell (p:=⟨g,_,none⟩) xS id).trans y6,(hf.cell (p:=⟨g,_,none⟩) xS id).trans y7,(hf.cell (p:=⟨g,_,none⟩) xS id).trans y8⟩
   clear WW;clear h2 hput hfz tg t8 hp hbg;go_wp2;obtain⟨w6,Rp⟩:∃w6,w6=wr.alloc (.cells #[I J p.2.id,I J p.2.feed,I J p.2.date,V p.2.guid,V p.2.title,V p.2.link,.bool p.2.read,.bool p.2.star,U p.1.1 p.2.tags.length p.1.2] 82):=⟨_,rfl⟩;have Ns:aa ac wr w6:=by rw[Rp];exact(fR wr).alloc _
   obtain⟨s0,s1,s2,s3,s4,s5,s6,s7,s8⟩:_:=ak (show ai w6 wr.heap.size 82 #[I J p.2.id,I J p.2.feed,I J p.2.date,V p.2.guid,V p.2.title,V p.2.link,.bool p.2.read,.bool p.2.star,U p.1.1 p.2.tags.length p.1.2] by rw[Rp];exact ai.new wr _ _);obtain⟨q3,-,-⟩:=HG.out w6 Ns;rw[←Rp];clear Rp y0 y1 y2 y3 y4 y5 y6 y7 y8 z0 z1 z2 z3 z4 z5 z6 z7 z8 x0 x1 x2 x4 x5 x6 x7 x8
   go_region_with (go_at_call 60;refine(KT.out _ Ns.drew).mono ?_;rintro e w2 ⟨v',rfl,dL,hf2⟩;obtain⟨q3,qf,r0,r1,r2,r3,r4,r5,r6,r7,r8⟩:=HG.out w2 hf2;have xf:=h_ (HU.out v' w2 hf2 dL);clear dL hf2)
   all_goals
    go_wp2;go_roundw
    case rel=>exact⟨k+1,_,by omega,by go_num,xf.out.1,xf.out.2⟩
    case measure=>simp[intOf];omega
  ·obtain rfl:k=x.itms.length:=by omega
   clear h2;go_wp2;exact NF H2.out OM
end Go.Proofs.YtaecjmiobllhmaaGreat
