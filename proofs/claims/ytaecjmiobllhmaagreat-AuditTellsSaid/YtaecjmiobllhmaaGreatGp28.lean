/- Words. -/
import Derived.Test.YtaecjmiobllhmaaGreatGp27
import Derived.Test.YtaecjmiobllhmaaGreatGp15
import Derived.Deep.RegionHeld3
import Derived.Deep.RegionWith
set_option linter.unusedVariables false
set_option linter.unusedSimpArgs false
set_option maxRecDepth 100000
set_option maxHeartbeats 16000000
namespace Go.Proofs.YtaecjmiobllhmaaGreat
open Go.RowKit Go.Lib
theorem put9{w:World}{g:Nat}{t:TypeId}{a0 a1 a2 a3 a4 a5 a6 a7 a8:Value}(h:Blk w g t #[a0,a1,a2,a3,a4,a5,a6,a7,a8])(b0 b1 b2 b3 b4 b5 b6 b7 b8:Value):
  Blk (((((((((w.setCell ⟨g,0,none⟩ b0).setCell ⟨g,1,none⟩ b1).setCell ⟨g,2,none⟩ b2).setCell ⟨g,3,none⟩ b3).setCell ⟨g,4,none⟩ b4).setCell ⟨g,5,none⟩ b5).setCell ⟨g,6,none⟩ b6).setCell ⟨g,7,none⟩ b7).setCell ⟨g,8,none⟩ b8) g t #[b0,b1,b2,b3,b4,b5,b6,b7,b8]:=by
 have:=Blk.putL [b0,b1,b2,b3,b4,b5,b6,b7,b8] 0 h;rw[putL9] at this;exact this
theorem frm9(w:World)(g:Nat)(b0 b1 b2 b3 b4 b5 b6 b7 b8:Value):Frm (·=g) w (((((((((w.setCell ⟨g,0,none⟩ b0).setCell ⟨g,1,none⟩ b1).setCell ⟨g,2,none⟩ b2).setCell ⟨g,3,none⟩ b3).setCell ⟨g,4,none⟩ b4).setCell ⟨g,5,none⟩ b5).setCell ⟨g,6,none⟩ b6).setCell ⟨g,7,none⟩ b7).setCell ⟨g,8,none⟩ b8):=Frm.setCells [b0,b1,b2,b3,b4,b5,b6,b7,b8] 0 (Frm.refl (·=g) w) (.inl rfl)
theorem Tell_ret{W:World}{g:Nat}{tmps:Array Value}{a0 a1 a2 a3 a4 a5 a6 a7 a8:Value}(hb:Blk W g 36 #[a0,a1,a2,a3,a4,a5,a6,a7,a8])(h2:tmps.getD 2 undef=.pointer (some ⟨g,0,none⟩)):
  (results Tryz.f23 tmps).run Tryz.prog W=.ok (.agg #[a0,a1,a2,a3,a4,a5,a6,a7,a8]) W:=by
 obtain⟨c0,c1,c2,c3,c4,c5,c6,c7,c8⟩:=blk9 hb;have h2':tmps[2]?.getD undef=.pointer (some ⟨g,0,none⟩):=by simpa using h2
 simp[results,Tryz.results23,h2',go_sem,c0,c1,c2,c3,c4,c5,c6,c7,c8]
structure TellAt(w wc:World)(br b3 B:Nat)(fo fe it se:Sl)(x:St)(k:Nat)(ts:List (Sl×Itm)):Prop where
 res:Blk wc br 36 #[.int .i64 0,.slice none 0 0,.slice none 0 0,.slice none 0 0,.slice none 0 0,.int .i64 0,.int .i64 0,.int .i64 0,.int .i64 0]
 box:Blk wc b3 36 #[.int .i64 x.clock,.slice fo.1 x.fols.length fo.2,.slice fe.1 x.fees.length fe.2,.slice it.1 x.itms.length it.2,.slice se.1 x.seas.length se.2,.int .i64 x.tFol,.int .i64 x.tFee,.int .i64 x.tItm,.int .i64 x.tSea]
 fol:RowK 79 3 w wc (.slice fo.1 x.fols.length fo.2) x.fols.length (x.fols.flatMap Fol.cells)
 fee:RowK 64 4 w wc (.slice fe.1 x.fees.length fe.2) x.fees.length (x.fees.flatMap Fee.cells)
 itm:RowK 82 9 w wc (.slice it.1 x.itms.length it.2) x.itms.length (ts.flatMap itmC)
 sea:RowK 84 3 w wc (.slice se.1 x.seas.length se.2) x.seas.length (x.seas.flatMap Sea.cells)
 same:ts.map (·.2)=x.itms
 hbr:w.heap.size≤br
 hb3:w.heap.size≤b3
 hB:br<B∧b3<B∧∀j,(Value.slice it.1 x.itms.length it.2).ownBlock=some j→j<B
 old:∀i (h:i<ts.length),k≤i→TagsIn wc ts[i].1 ts[i].2.tags
 new:∀i (h:i<ts.length),i<k→SlIn wc (λj=>B≤j) 1 ts[i].1 ts[i].2.tags.length (ts[i].2.tags.map Value.string)
section
variable {w wc w2:World} {br b3 B:Nat} {fo fe it se:Sl} {x:St} {k:Nat} {ts:List (Sl×Itm)}
theorem TellAt.nix(h:TellAt w wc br b3 B fo fe it se x k ts)(hf:Frm Nix wc w2):TellAt w w2 br b3 B fo fe it se x k ts:=
 ⟨h.res.frm hf id,h.box.frm hf id,h.fol.more hf,h.fee.more hf,h.itm.more hf,h.sea.more hf,h.same,h.hbr,h.hb3,h.hB,λi hi hk=>(h.old i hi hk).frm hf λ_ _=>id,λi hi hk=>(h.new i hi hk).nix hf⟩
theorem TellAt.len(h:TellAt w wc br b3 B fo fe it se x k ts):ts.length=x.itms.length:=by rw[←h.same,List.length_map]
end
theorem TellT4{w wc:World}{br b3 B:Nat}{fo fe it se:Sl}{x:St}{ts:List (Sl×Itm)}(h:TellAt w wc br b3 B fo fe it se x x.itms.length ts)(hBw:w.heap.size≤B){u0 u1 u4 u5 u6 u7 u8 u9 u10 u11 u12 u13 u14 u15 u16 u17 u18 u19 u20 u21 u22 u23 u24 u25 u26 u27 u28 u29 u30 u31 u32 u33 u34 u35 u36 u37 u38 u39 u40 u41 u42 u43 u44 u45 u46 u47 u48 u49 u50 u51 u52 u53 u54 u55 u56 u57 u58 u59 u60 u61 u62 u63 u64 u65 u66 u67 u68 u69:Value}:
  Code.wp Tryz.prog (peel 4 (bodyOf Tryz.f23)) (bodyPost Tryz.prog Tryz.f23 λe w'=>∃fo fe it se:Sl,∃ts:List (Sl×Itm),e=.returned (stV fo fe it se x)∧StIn w' (λk=>w.heap.size≤k) fo fe it se ts x∧Frm Nix w w') ⟨#[u0,u1,.pointer (some ⟨br,0,none⟩),.pointer (some ⟨b3,0,none⟩),u4,u5,u6,u7,u8,u9,u10,u11,u12,u13,u14,u15,u16,u17,u18,u19,u20,u21,u22,u23,u24,u25,u26,u27,u28,u29,u30,u31,u32,u33,u34,u35,u36,u37,u38,u39,u40,u41,u42,u43,u44,u45,u46,u47,u48,u49,u50,u51,u52,u53,u54,u55,u56,u57,u58,u59,u60,u61,u62,u63,u64,u65,u66,u67,u68,u69],[]⟩ wc:=by
 obtain⟨x0,x1,x2,x3,x4,x5,x6,x7,x8⟩:=blk9 h.box;obtain⟨p0,p1,p2,p3,p4,p5,p6,p7,p8⟩:=blk9 h.res;have g0:=h.res.frozen 0;have g1:=h.res.frozen 1;have g2:=h.res.frozen 2;have g3:=h.res.frozen 3;have g4:=h.res.frozen 4;have g5:=h.res.frozen 5;have g6:=h.res.frozen 6;have g7:=h.res.frozen 7;have g8:=h.res.frozen 8;have hb:=put9 h.res (.int .i64 x.clock) (.slice fo.1 x.fols.length fo.2) (.slice fe.1 x.fees.length fe.2) (.slice it.1 x.itms.length it.2) (.slice se.1 x.seas.length se.2) (.int .i64 x.tFol) (.int .i64 x.tFee) (.int .i64 x.tItm) (.int .i64 x.tSea);have hf:=frm9 wc br (.int .i64 x.clock) (.slice fo.1 x.fols.length fo.2) (.slice fe.1 x.fees.length fe.2) (.slice it.1 x.itms.length it.2) (.slice se.1 x.seas.length se.2) (.int .i64 x.tFol) (.int .i64 x.tFee) (.int .i64 x.tItm) (.int .i64 x.tSea);have HB:=h_ hb;have HF:=h_ hf;have H:=h_ h;clear h hb hf;simp only[peel,bodyOf,Tryz.f23];go_wp2;refine bodyPost_ret (Tell_ret HB.out rfl) rfl ?_;have h:=H.out;have hf:=HF.out;have hbr:=h.hbr;have f1:∀k,k=br→w.heap.size≤k:=λk hk=>by omega
 have e1:=h.fol.far hf f1 (λj hj e=>h.fol.ne_blk h.res (by decide) (e ▸ hj));have e2:=h.fee.far hf f1 (λj hj e=>h.fee.ne_blk h.res (by decide) (e ▸ hj));have e3:=h.itm.far hf f1 (λj hj e=>h.itm.ne_blk h.res (by decide) (e ▸ hj));have e4:=h.sea.far hf f1 (λj hj e=>h.sea.ne_blk h.res (by decide) (e ▸ hj));have hl:=h.len;refine⟨fo,fe,it,se,ts,rfl,⟨e1.sl,e2.sl,⟨by rw[hl];exact e3.sl,λp hp=>?_⟩,h.same,e4.sl⟩,e1.frm⟩;obtain⟨i,hi,rfl⟩:=List.getElem_of_mem hp;exact((h.new i hi (by omega)).frm hf λj hj e=>by have:=h.hB.1;omega).mono λj hj=>by omega
theorem getElem_set_{α:Type}{l:List α}{k i:Nat}{y:α}(hi:i<(l.set k y).length):(l.set k y)[i]=if k=i then y else l[i]'(by simpa using hi):=List.getElem_set hi
theorem TellT3{w wc:World}{br b3:Nat}{fo fe it se:Sl}{x:St}{ts:List (Sl×Itm)}(hx:StP x)(h:TellAt w wc br b3 wc.heap.size fo fe it se x 0 ts){u0 u1 u4 u5 u6 u7 u8 u9 u10 u11 u12 u13 u14 u15 u16 u17 u18 u19 u20 u21 u22 u23 u24 u25 u26 u27 u28 u29 u30 u31 u32 u33 u34 u35 u36 u37 u38 u39 u40 u41 u42 u43 u44 u45 u46 u47 u48 u49 u50 u51 u52 u53 u54 u55 u56 u57 u58 u59 u60 u61 u62 u63 u64 u65 u66 u67 u68 u69:Value}:
  Code.wp Tryz.prog (peel 3 (bodyOf Tryz.f23)) (bodyPost Tryz.prog Tryz.f23 λe w'=>∃fo fe it se:Sl,∃ts:List (Sl×Itm),e=.returned (stV fo fe it se x)∧StIn w' (λk=>w.heap.size≤k) fo fe it se ts x∧Frm Nix w w') ⟨#[u0,u1,.pointer (some ⟨br,0,none⟩),.pointer (some ⟨b3,0,none⟩),u4,u5,u6,u7,u8,u9,u10,u11,u12,u13,u14,u15,u16,u17,u18,u19,u20,u21,u22,u23,u24,u25,u26,u27,u28,u29,u30,u31,u32,u33,u34,u35,u36,u37,u38,u39,u40,u41,u42,u43,u44,u45,u46,u47,u48,u49,u50,u51,u52,u53,u54,u55,u56,u57,u58,u59,u60,u61,u62,u63,u64,u65,u66,u67,u68,u69],[]⟩ wc:=by
 have hsz:=h.itm.frm.size;obtain⟨x0,x1,x2,x3,x4,x5,x6,x7,x8⟩:=blk9 h.box;have hcap:=hx.iL;obtain⟨ia,ic⟩:=it;dsimp only at x3;obtain⟨B,hB⟩:∃B,B=wc.heap.size:=⟨_,rfl⟩;rw[←hB] at h;have hBw:w.heap.size≤B:=by omega
 have H:=h_ h;have HX:=h_ hx;clear h hx;refine peelK (k':=4) λK hK=>?_
 conv in hdC _=>whnf
 go_wp2
 go_loopw [57] (λkv wr=>∃(k:Nat) (ts:List (Sl×Itm)),k≤x.itms.length∧kv=.int .i64 k∧TellAt w wr br b3 B fo fe (ia,ic) se x k ts∧B≤wr.heap.size) (λkv _=>x.itms.length - (intOf kv).toNat)
 case atStart=>exact⟨0,_,by omega,rfl,H.out,by omega⟩
 case round=>
  obtain⟨k,ts2,hk,rfl,h2,hBr⟩:=hrel;have H2:=h_ h2
  by_cases hlt:k<x.itms.length
  ·have hl2:=h2.len
   have hkl:k<ts2.length:=by omega
   obtain⟨g,hA,hg,hgl,⟨cs0,hbg⟩,hcell,hfz,hput⟩:=h2.itm.elem itmC_len hl2 (by omega);dsimp only at hA;subst hA;have hg3:b3≠g:=h2.box.ne_ hbg (by decide);have hgB:g<B:=h2.hB.2.2 g rfl;obtain⟨z0,z1,z2,z3,z4,z5,z6,z7,z8⟩:=blk9 h2.box;dsimp only at z3;have htg:=h2.old k hkl (Nat.le_refl _)
   have ht8:ts2[k].2.tags.length≤1000:=by
    have hm:ts2[k].2∈x.itms:=by rw[←h2.same];exact List.mem_map_of_mem (List.getElem_mem hkl)
    have:=(HX.out.iE _ hm).2.2.2.1;omega
   have HKl:=h_ hkl;obtain⟨p,hp,hcp,tg,t8⟩:∃p:Sl×Itm,ts2[k]'hkl=p∧(∀(j:Nat) (u:Value),(itmC p)[j]? =some u→wr.cell? ⟨g,k * 9+j,none⟩=some u)∧TagsIn wr p.1 p.2.tags∧p.2.tags.length≤1000:=⟨ts2[k]'hkl,rfl,hcell k hkl,htg,ht8⟩;clear htg ht8;obtain⟨y0,y1,y2,y3,y4,y5,y6,y7,y8⟩:=itmcs (w:=wr) (b:=g) (off:=k * 9) (p:=p) hcp;clear hcp hcell;have HP:=h_ hp
   have KT:Hid (∀W,Frm Nix wr W→Calls Tryz.prog 60 #[.agg #[.int .i64 p.2.id,.int .i64 p.2.feed,.int .i64 p.2.date,.string p.2.guid,.string p.2.title,.string p.2.link,.bool p.2.read,.bool p.2.star,.slice p.1.1 p.2.tags.length p.1.2]] W λe w'=>∃v':Sl,e=.returned (.agg #[.int .i64 p.2.id,.int .i64 p.2.feed,.int .i64 p.2.date,.string p.2.guid,.string p.2.title,.string p.2.link,.bool p.2.read,.bool p.2.star,.slice v'.1 p.2.tags.length v'.2])∧SlIn w' (λk=>wr.heap.size≤k) 1 v' p.2.tags.length (p.2.tags.map Value.string)∧Frm Nix wr w'):=λW hW=>
    (told_any p.2 (tg.frm hW λ_ _=>id) t8).mono λe w' ⟨v',q1,q2,q3⟩=>⟨v',q1,q2.mono λk hk=>by have:=hW.size;omega,hW.trans q3⟩
   have HU:Hid (∀(v':Sl) (w2:World),Frm Nix wr w2→SlIn w2 (λk=>wr.heap.size≤k) 1 v' p.2.tags.length (p.2.tags.map Value.string)→TellAt w (w2.setCells g (k * 9) (itmC (v',p.2))) br b3 B fo fe (some ⟨g,0,none⟩,ic) se x (k+1) (ts2.set k (v',p.2))∧B≤(w2.setCells g (k * 9) (itmC (v',p.2))).heap.size):=by
    intro v' w2 hf hsl;have q:=h2.nix hf;obtain⟨g',hA',-,-,⟨cs1,hbg1⟩,-,-,hput1⟩:=q.itm.elem itmC_len hl2 (by omega)
    have hgg:g=g':=by
     simp only[Option.some.injEq,Addr.mk.injEq] at hA';exact hA'.1
    clear hA';subst hgg;obtain⟨hr,hfp⟩:=hput1 k hkl (v',p.2);have hrs:wr.heap.size≤w2.heap.size:=hf.size;have hgr:g<wr.heap.size:=hgl;refine⟨⟨q.res.frm hfp (λe=>q.res.ne_ hbg1 (by decide) e),q.box.frm hfp (λe=>q.box.ne_ hbg1 (by decide) e),q.fol.far hfp (λj hj=>by omega) (λj hj e=>q.fol.ne_blk hbg1 (by decide) (e ▸ hj)),q.fee.far hfp (λj hj=>by omega) (λj hj e=>q.fee.ne_blk hbg1 (by decide) (e ▸ hj)),hr,q.sea.far hfp (λj hj=>by omega) (λj hj e=>q.sea.ne_blk hbg1 (by decide) (e ▸ hj)),?_,q.hbr,q.hb3,q.hB,λi hi hik=>?_,λi hi hik=>?_⟩,by have:=hfp.size;omega⟩
    ·rw[List.map_set,←q.same]
     have:p.2=(ts2.map (·.2))[k]'(by rw[List.length_map];exact hkl):=by rw[List.getElem_map,hp]
     rw[this,List.set_getElem_self]
    ·rw[getElem_set_ hi,if_neg (by omega)]
     exact(q.old i (by simpa using hi) (by omega)).frm hfp λj hj e=>hbg1.ne_str (by decide) hj e
    ·rw[getElem_set_ hi]
     by_cases hki:k=i
     ·rw[if_pos hki]
      exact((hsl.frm hfp λj hj e=>by omega).mono λj hj=>by omega)
     ·rw[if_neg hki]
      exact(q.new i (by simpa using hi) (by omega)).frm hfp λj hj e=>by omega
   have HG:Hid (∀w2,Frm Nix wr w2→w2.cell? ⟨b3,3,none⟩=some (.slice (some ⟨g,0,none⟩) x.itms.length ic)∧(∀j,w2.frozen? ⟨g,j,none⟩=false)∧(w2.cell? ⟨g,k * 9,none⟩=some (.int .i64 p.2.id)∧w2.cell? ⟨g,k * 9+1,none⟩=some (.int .i64 p.2.feed)∧w2.cell? ⟨g,k * 9+2,none⟩=some (.int .i64 p.2.date)∧w2.cell? ⟨g,k * 9+3,none⟩=some (.string p.2.guid)∧w2.cell? ⟨g,k * 9+4,none⟩=some (.string p.2.title)∧w2.cell? ⟨g,k * 9+5,none⟩=some (.string p.2.link)∧w2.cell? ⟨g,k * 9+6,none⟩=some (.bool p.2.read)∧w2.cell? ⟨g,k * 9+7,none⟩=some (.bool p.2.star)∧w2.cell? ⟨g,k * 9+8,none⟩=some (.slice p.1.1 p.2.tags.length p.1.2))):=λw2 hf=>
    ⟨(hf.cell (p:=⟨b3,3,none⟩) h2.box.lt id).trans z3,λj=>(hf.frozen (p:=⟨g,j,none⟩) hgl id).trans (hfz j),(hf.cell (p:=⟨g,_,none⟩) hgl id).trans y0,(hf.cell (p:=⟨g,_,none⟩) hgl id).trans y1,(hf.cell (p:=⟨g,_,none⟩) hgl id).trans y2,(hf.cell (p:=⟨g,_,none⟩) hgl id).trans y3,(hf.cell (p:=⟨g,_,none⟩) hgl id).trans y4,(hf.cell (p:=⟨g,_,none⟩) hgl id).trans y5,(hf.cell (p:=⟨g,_,none⟩) hgl id).trans y6,(hf.cell (p:=⟨g,_,none⟩) hgl id).trans y7,(hf.cell (p:=⟨g,_,none⟩) hgl id).trans y8⟩
   clear HKl;clear h2 hput hfz tg t8 hp hbg;go_wp2;obtain⟨w6,hw6⟩:∃w6,w6=wr.alloc (.cells #[.int .i64 p.2.id,.int .i64 p.2.feed,.int .i64 p.2.date,.string p.2.guid,.string p.2.title,.string p.2.link,.bool p.2.read,.bool p.2.star,.slice p.1.1 p.2.tags.length p.1.2] 82):=⟨_,rfl⟩;have hf6:Frm Nix wr w6:=by rw[hw6];exact(fR wr).alloc _
   obtain⟨s0,s1,s2,s3,s4,s5,s6,s7,s8⟩:_:=blk9 (show Blk w6 wr.heap.size 82 #[.int .i64 p.2.id,.int .i64 p.2.feed,.int .i64 p.2.date,.string p.2.guid,.string p.2.title,.string p.2.link,.bool p.2.read,.bool p.2.star,.slice p.1.1 p.2.tags.length p.1.2] by rw[hw6];exact Blk.new wr _ _);obtain⟨q3,-,-⟩:=HG.out w6 hf6;rw[←hw6];clear hw6 y0 y1 y2 y3 y4 y5 y6 y7 y8 z0 z1 z2 z3 z4 z5 z6 z7 z8 x0 x1 x2 x4 x5 x6 x7 x8
   go_region_with (go_at_call 60;refine(KT.out _ hf6.drew).mono ?_;rintro e w2 ⟨v',rfl,hsl,hf2⟩;obtain⟨q3,qf,r0,r1,r2,r3,r4,r5,r6,r7,r8⟩:=HG.out w2 hf2;have HX2:=h_ (HU.out v' w2 hf2 hsl);clear hsl hf2)
   all_goals
    go_wp2;go_roundw
    case rel=>exact⟨k+1,_,by omega,by go_num,HX2.out.1,HX2.out.2⟩
    case measure=>simp[intOf];omega
  ·obtain rfl:k=x.itms.length:=by omega
   clear h2;go_wp2;exact TellT4 H2.out hBw
end Go.Proofs.YtaecjmiobllhmaaGreat
