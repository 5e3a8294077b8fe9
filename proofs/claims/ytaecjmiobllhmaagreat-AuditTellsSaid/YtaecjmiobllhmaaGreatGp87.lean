/- Words. -/
import Derived.Test.YtaecjmiobllhmaaGreatGp86
import Derived.Test.YtaecjmiobllhmaaGreatGp85
import Derived.Test.YtaecjmiobllhmaaGreatGp71
import Derived.Test.YtaecjmiobllhmaaGreatGp68
import Derived.Test.YtaecjmiobllhmaaGreatGp24
import Derived.Test.YtaecjmiobllhmaaGreatGp30
import Derived.Deep.RegionHeld3
import Derived.BigQuiet
set_option linter.unusedVariables false
set_option linter.unusedSimpArgs false
set_option maxRecDepth 100000
set_option maxHeartbeats 16000000
namespace Go.Proofs.YtaecjmiobllhmaaGreat
open Go.RowKit Go.Lib
theorem st9_one(fo fe it se:Sl)(x:St):∀u∈([.int .i64 x.clock,.slice fo.1 x.fols.length fo.2,.slice fe.1 x.fees.length fe.2,.slice it.1 x.itms.length it.2,.slice se.1 x.seas.length se.2,.int .i64 x.tFol,.int .i64 x.tFee,.int .i64 x.tItm,.int .i64 x.tSea]:List Value),u.oneCell'=true:=by
 intro u hu;simp at hu;rcases hu with rfl | rfl | rfl | rfl | rfl | rfl | rfl | rfl | rfl<;>rfl
theorem tBox_st(w:World)(fo fe it se:Sl)(x:St):∃w0,w0=w.alloc (.cells #[.int .i64 x.clock,.slice fo.1 x.fols.length fo.2,.slice fe.1 x.fees.length fe.2,.slice it.1 x.itms.length it.2,.slice se.1 x.seas.length se.2,.int .i64 x.tFol,.int .i64 x.tFee,.int .i64 x.tItm,.int .i64 x.tSea] 36)∧Frm Nix w w0∧Blk w0 w.heap.size 36 #[.int .i64 x.clock,.slice fo.1 x.fols.length fo.2,.slice fe.1 x.fees.length fe.2,.slice it.1 x.itms.length it.2,.slice se.1 x.seas.length se.2,.int .i64 x.tFol,.int .i64 x.tFee,.int .i64 x.tItm,.int .i64 x.tSea]∧w0.heap.size=w.heap.size+1:=
 ⟨_,rfl,(fR w).alloc _,Blk.new w _ _,by simp⟩
theorem tBox_z(w:World):∃w0,w0=w.alloc (.cells #[.int .i64 0,.slice none 0 0,.slice none 0 0,.slice none 0 0,.slice none 0 0,.int .i64 0,.int .i64 0,.int .i64 0,.int .i64 0] 36)∧Frm Nix w w0∧Blk w0 w.heap.size 36 #[.int .i64 0,.slice none 0 0,.slice none 0 0,.slice none 0 0,.slice none 0 0,.int .i64 0,.int .i64 0,.int .i64 0,.int .i64 0]∧w0.heap.size=w.heap.size+1:=
 ⟨_,rfl,(fR w).alloc _,Blk.new w _ _,by simp⟩
theorem tells_walk{w:World}{G Gx:Nat→Prop}{v:Sl}{l:List Ev}{fo0 fe0 it0 se0:Sl}{ts0:List (Sl×Itm)}{x:St}(hl:EvsIn w G v l)(hx:StIn w Gx fo0 fe0 it0 se0 ts0 x)(y last:Int):
  Calls Tryz.prog 4 #[.slice v.1 l.length v.2,.int .i64 y,.int .i64 last,.agg #[.int .i64 x.clock,.slice fo0.1 x.fols.length fo0.2,.slice fe0.1 x.fees.length fe0.2,.slice it0.1 x.itms.length it0.2,.slice se0.1 x.seas.length se0.2,.int .i64 x.tFol,.int .i64 x.tFee,.int .i64 x.tItm,.int .i64 x.tSea]] w λe w'=>e=.returned (.bool true)∧Frm Nix w w':=by
 obtain⟨Av,cv⟩:=v;dsimp only;obtain⟨W0,hW0,hf0,hb0,hs0⟩:=tBox_st w fo0 fe0 it0 se0 x;have HW:=h_ hW0;have HW0:=h_ hf0;have HXB:Hid (∀W,Frm Nix W0 W→W.cell? ⟨w.heap.size,0,none⟩=some (.int .i64 x.clock)∧W.cell? ⟨w.heap.size,1,none⟩=some (.slice fo0.1 x.fols.length fo0.2)∧W.cell? ⟨w.heap.size,2,none⟩=some (.slice fe0.1 x.fees.length fe0.2)∧W.cell? ⟨w.heap.size,3,none⟩=some (.slice it0.1 x.itms.length it0.2)∧W.cell? ⟨w.heap.size,4,none⟩=some (.slice se0.1 x.seas.length se0.2)∧W.cell? ⟨w.heap.size,5,none⟩=some (.int .i64 x.tFol)∧W.cell? ⟨w.heap.size,6,none⟩=some (.int .i64 x.tFee)∧W.cell? ⟨w.heap.size,7,none⟩=some (.int .i64 x.tItm)∧W.cell? ⟨w.heap.size,8,none⟩=some (.int .i64 x.tSea)):=λW hW=>blk9 (hb0.frm hW id)
 have HBX:=h_ hb0;obtain⟨n,hn⟩:∃n,l.length=n:=⟨_,rfl⟩;have HN:=h_ hn
 have KL:Hid (∀W,Frm Nix W0 W→Calls Tryz.prog 12 #[.slice Av n cv] W λe w'=>e=.returned (.bool (largeEvs l))∧Frm Nix W w'):=λW hW=>by
  have q:=(hl.nix (hf0.trans hW)).large;rw[hn] at q;exact q
 have KX:Hid (∀W,Frm Nix W0 W→Calls Tryz.prog 13 #[stV fo0 fe0 it0 se0 x] W λe w'=>e=.returned (.bool (largeS x))∧Frm Nix W w'):=λW hW=>rLargeSt_any (hx.nix (hf0.trans hW))
 have HL:=h_ hl;have HX:=h_ hx;rw[hn];obtain⟨x0,x1,x2,x3,x4,x5,x6,x7,x8⟩:=HXB.out _ (fR W0);clear hl hx hW0 hf0 hb0 hs0 hn
 cases hle:largeEvs l with
 | true=>
   rw[hle] at KL;clear hle;go_enter Tryz.func4,Tryz.ntmps4;show Code.wp Tryz.prog (peel 0 (bodyOf Tryz.f4)) _ _ _
   refine peelK (k':=1) λK hK=>?_
   conv in hdC _=>whnf
   go_wp2;rw[←HW.out];simp only[peel,bodyOf,Tryz.f4];go_wp2_with (first | (go_at_call 8;have _q:=Y1;refine(lives37_any _).mono ?_;rintro e wz ⟨rfl,hf⟩;have Yz:Hid (Frm Nix W0 wz):=Y1.out.trans hf;clear hf) | (go_at_call 12;refine(KL.out _ (fR _)).mono ?_;rintro e w1 ⟨rfl,hf⟩;have Y1:=h_ hf;obtain⟨x0,x1,x2,x3,x4,x5,x6,x7,x8⟩:=HXB.out _ hf;clear hf) | fail);go_ret
   exact⟨rfl,HW0.out.trans Yz.out⟩
 | false=>
 rw[hle] at KL
 by_cases h60:60<n
 ·have h60':(60:Int)<(n:Int):=by omega
  clear hle;go_enter Tryz.func4,Tryz.ntmps4;show Code.wp Tryz.prog (peel 0 (bodyOf Tryz.f4)) _ _ _
  refine peelK (k':=1) λK hK=>?_
  conv in hdC _=>whnf
  go_wp2;rw[←HW.out];simp only[peel,bodyOf,Tryz.f4];go_wp2_with (first | (go_at_call 8;have _q:=Y1;refine(lives37_any _).mono ?_;rintro e wz ⟨rfl,hf⟩;have Yz:Hid (Frm Nix W0 wz):=Y1.out.trans hf;clear hf) | (go_at_call 12;refine(KL.out _ (fR _)).mono ?_;rintro e w1 ⟨rfl,hf⟩;have Y1:=h_ hf;obtain⟨x0,x1,x2,x3,x4,x5,x6,x7,x8⟩:=HXB.out _ hf;clear hf) | fail);go_ret;exact⟨rfl,HW0.out.trans Yz.out⟩
 have h60':¬(60:Int)<(n:Int):=by omega
 cases hlx:largeS x with
 | true=>
   rw[hlx] at KX;clear hle hlx;go_enter Tryz.func4,Tryz.ntmps4;show Code.wp Tryz.prog (peel 0 (bodyOf Tryz.f4)) _ _ _
   refine peelK (k':=1) λK hK=>?_
   conv in hdC _=>whnf
   go_wp2;rw[←HW.out];simp only[peel,bodyOf,Tryz.f4];go_wp2_with (first | (go_at_call 8;have _q:=Y2;refine(lives37_any _).mono ?_;rintro e wz ⟨rfl,hf⟩;have Yz:Hid (Frm Nix W0 wz):=Y2.out.trans hf;clear hf) | (go_at_call 13;refine(KX.out _ Y1.out).mono ?_;rintro e w2 ⟨rfl,hf⟩;have Y2:Hid (Frm Nix W0 w2):=Y1.out.trans hf;clear hf) | (go_at_call 12;refine(KL.out _ (fR _)).mono ?_;rintro e w1 ⟨rfl,hf⟩;have Y1:=h_ hf;obtain⟨x0,x1,x2,x3,x4,x5,x6,x7,x8⟩:=HXB.out _ hf;clear hf) | fail);go_ret
   exact⟨rfl,HW0.out.trans Yz.out⟩
 | false=>
 rw[hlx] at KX;have HSm:Hid (StSmall x):=small_large hlx;have HNum:Hid (∀e∈l,I64 e.a∧I64 e.b):=HL.out.num;have hn60:l.length≤60:=by rw[HN.out];omega
 have H60:=h_ hn60;clear hle hlx hn60;go_enter Tryz.func4,Tryz.ntmps4;show Code.wp Tryz.prog (peel 0 (bodyOf Tryz.f4)) _ _ _
 refine peelK (k':=1) λK hK=>?_
 conv in hdC _=>whnf
 go_wp2;rw[←HW.out];refine peelK (k':=2) λK hK=>?_
 conv in hdC _=>whnf
 go_wp2_with (first | (go_at_call 13;refine(KX.out _ Y1.out).mono ?_;rintro e w2 ⟨rfl,hf⟩;have Y2:Hid (Frm Nix W0 w2):=Y1.out.trans hf;clear hf) | (go_at_call 12;refine(KL.out _ (fR _)).mono ?_;rintro e w1 ⟨rfl,hf⟩;have Y1:=h_ hf;obtain⟨x0,x1,x2,x3,x4,x5,x6,x7,x8⟩:=HXB.out _ hf;clear hf) | fail);clear x0 x1 x2 x3 x4 x5 x6 x7 x8;refine peelK (k':=3) λK hK=>?_
 conv in hdC _=>whnf
 go_wp2;refine peelK (k':=4) λK hK=>?_
 conv in hdC _=>whnf
 go_wp2;refine peelK (k':=5) λK hK=>?_
 conv in hdC _=>whnf
 go_wp2;obtain⟨w3,hw3,hf3,hb3,hs3⟩:=tBox_z w2;rw[←hw3];have HT3:Hid (TelAt w2 w3 w2.heap.size (.slice none 0 0) (.slice none 0 0) (none,0) (none,0) (none,0) (none,0) [] st0 [] []):=⟨RowK.nil_ _ _ hf3,RowK.nil_ _ _ hf3,hb3,StIn.zero _ _,Nat.le_refl _⟩;have HF3:=h_ hf3;obtain⟨bs,hbs⟩:∃bs,w2.heap.size=bs:=⟨_,rfl⟩;rw[hbs] at HT3 ⊢;have HBs:=h_ hbs;clear hw3 hf3 hb3 hs3 hbs;refine peelK (k':=6) λK hK=>?_
 conv in hdC _=>whnf
 go_wp2;refine peelK (k':=7) λK hK=>?_
 conv in hdC _=>whnf
 go_wp2
 go_loopw [9,10,12,13] (λmv av sv kv wr=>∃(k:Nat) (s:St) (all:List Ev) (ms:List Mv) (sure:Int) (fo fe it se:Sl) (ts:List (Sl×Itm)),k≤n∧kv=.int .i64 k∧sv=.int .i64 sure∧(⟨s,all,ms,sure⟩:Tl)=tellT y (l.take k)∧TelAt w2 wr bs av mv fo fe it se ts s all ms) (λ_ _ _ kv _=>n - (intOf kv).toNat)
 case atStart=>exact⟨0,st0,[],[],0,(none,0),(none,0),(none,0),(none,0),[],by omega,rfl,rfl,rfl,HT3.out⟩
 case round=>
  obtain⟨k,s,all,ms,sure,fo,fe,it,se,ts,hk,rfl,rfl,ht,hT⟩:=hrel;obtain⟨Am,cm,rfl,-,-,-,-⟩:=hT.rM.shape;obtain⟨Aa,ca,rfl,-,-,-,-⟩:=hT.rA.shape;have HT:=h_ hT;have HF:Hid (Frm Nix w2 wr):=hT.rA.frm;have HFw:Hid (Frm Nix w wr):=(HW0.out.trans Y2.out).trans hT.rA.frm;have HTe:=h_ ht;have hok:TlOk y ⟨s,all,ms,sure⟩:=by rw[ht];exact tellT_ok y _
  have HOk:=h_ hok
  have hal:all.length≤k:=by
   have q:=tellT_len y (l.take k);rw[←ht,List.length_take] at q;dsimp only at q;omega
  have hml:ms.length≤all.length+1:=by
   have q:=hok.len;dsimp only at q;split at q<;>omega
  have HAl:=h_ (And.intro hal hml);clear hT ht hok hal hml
  by_cases hlt:k<n
  ·have hkl:k<l.length:=by rw[HN.out];exact hlt
   obtain⟨b,off,hA,hgb,hbl,hcell⟩:=evs_cells HL.out.sl HFw.out hkl
   (try dsimp only at hA)
   subst hA;have HTk:=h_ (tellT_take (y:=y) hkl);obtain⟨ev,hev⟩:∃ev,l[k]=ev:=⟨_,rfl⟩;rw[hev] at hcell HTk;have HPs:Hid (StP s):=HOk.out.ok
   have KA:Hid (∀W,Frm Nix wr W→Calls Tryz.prog 14 #[stV fo fe it se s,.agg #[.int .i64 ev.kind,.int .i64 ev.a,.int .i64 ev.b,.int .i64 ev.n,.string ev.s,.string ev.t,.string ev.u]] W (ApOut W (λj=>(bs<j∧¬(Value.slice Aa all.length ca).ownBlock=some j∧¬(Value.slice Am ms.length cm).ownBlock=some j)∧j<wr.heap.size) (applyS s ev).1 (fits s ev))):=λW hW=>by
    have:=rApply_any (HT.out.st.old.nix hW) HPs.out.small ev;rw[applyS_snd] at this;exact this
   have HEV:Hid (∀W,Frm Nix w W→(W.cell? ⟨b,off+k * 7,none⟩=some (.int .i64 ev.kind)∧W.cell? ⟨b,off+k * 7+1,none⟩=some (.int .i64 ev.a)∧W.cell? ⟨b,off+k * 7+2,none⟩=some (.int .i64 ev.b)∧W.cell? ⟨b,off+k * 7+3,none⟩=some (.int .i64 ev.n)∧W.cell? ⟨b,off+k * 7+4,none⟩=some (.string ev.s)∧W.cell? ⟨b,off+k * 7+5,none⟩=some (.string ev.t)∧W.cell? ⟨b,off+k * 7+6,none⟩=some (.string ev.u))):=λW hW=>by
    obtain⟨b',off',hA',-,-,hc⟩:=evs_cells HL.out.sl hW hkl
    (try dsimp only at hA')
    injection hA' with hA';injection hA' with e1 e2;subst e1 e2;rw[hev] at hc;exact hc Nix W id (Frm.refl _ _)
   obtain⟨s',hy⟩:∃s',(applyS s ev).1=s':=⟨_,rfl⟩;obtain⟨bb,hbb⟩:∃bb,fits s ev=bb:=⟨_,rfl⟩
   have HTk2:Hid (tellT y (l.take (k+1))=if bb=true then (if (all.length:Int)+1=y then ⟨s',all++[ev],ms++[putM ev (all.length+1)]++[syncM],y⟩ else ⟨s',all++[ev],ms++[putM ev (all.length+1)],sure⟩) else ⟨s',all,ms,sure⟩):=by
    unfold Hid;rw[HTk.out,←HTe.out];unfold stepT;dsimp only;rw[hy,hbb]
   rw[hy,hbb] at KA;obtain⟨x0,x1,x2,x3,x4,x5,x6,x7,x8⟩:=blk9 HT.out.blk;obtain⟨c0,c1,c2,c3,c4,c5,c6⟩:=HEV.out wr HFw.out;clear hcell hev hy hbb HTk;go_wp2;refine tellsR10 (bx:=bs) (b:=b) (off:=off) (k:=k) (x:=s) (y:=s') (ev:=ev) (bb:=bb) (G:=λj=>(bs<j∧¬(Value.slice Aa all.length ca).ownBlock=some j∧¬(Value.slice Am ms.length cm).ownBlock=some j)∧j<wr.heap.size) HT.out.blk (λW hW=>HEV.out W (HFw.out.trans hW)) hlt (λj h=>h.2) KA.out (λ_ _ _ _ _ h=>h) ?_;intro w8 g' foy fey ity sey tsy z39 z40 z41 z42 z43 z44 z45 z46 z47 hg' hf8 hb8 hs8;have HB8:=h_ hb8;have HF8:=h_ hf8;have HX8:=h_ (HT.out.blk.frm hf8 id)
   have HT9:Hid (∀W',W'=w8.setCells bs 0 [.int .i64 s'.clock,.slice foy.1 s'.fols.length foy.2,.slice fey.1 s'.fees.length fey.2,.slice ity.1 s'.itms.length ity.2,.slice sey.1 s'.seas.length sey.2,.int .i64 s'.tFol,.int .i64 s'.tFee,.int .i64 s'.tItm,.int .i64 s'.tSea]→TelAt w2 W' bs (.slice Aa all.length ca) (.slice Am ms.length cm) foy fey ity sey tsy s' all ms):=λW' e=>by
    rw[e];exact HT.out.put hf8 hs8
   have HOne:Hid (∀u∈([.int .i64 s'.clock,.slice foy.1 s'.fols.length foy.2,.slice fey.1 s'.fees.length fey.2,.slice ity.1 s'.itms.length ity.2,.slice sey.1 s'.seas.length sey.2,.int .i64 s'.tFol,.int .i64 s'.tFee,.int .i64 s'.tItm,.int .i64 s'.tSea]:List Value),u.oneCell'=true):=st9_one foy fey ity sey s';clear x0 x1 x2 x3 x4 x5 x6 x7 x8 c0 c1 c2 c3 c4 c5 c6 hf8 hb8 hs8 hg';obtain⟨y0,y1,y2,y3,y4,y5,y6,y7,y8⟩:=blk9 HB8.out
   cases bb with
   | false=>
     have HTn:Hid ((⟨s',all,ms,sure⟩:Tl)=tellT y (l.take (k+1))):=by unfold Hid;rw[HTk2.out];rfl
     go_wp2_with (first | (refine stStore (l:=[.int .i64 s'.clock,.slice foy.1 s'.fols.length foy.2,.slice fey.1 s'.fees.length fey.2,.slice ity.1 s'.itms.length ity.2,.slice sey.1 s'.seas.length sey.2,.int .i64 s'.tFol,.int .i64 s'.tFee,.int .i64 s'.tItm,.int .i64 s'.tSea]) HX8.out rfl rfl HOne.out _ _ rfl rfl rfl rfl ?_;intro w9 hw9;have H9:=h_ (HT9.out w9 hw9);clear hw9 y0 y1 y2 y3 y4 y5 y6 y7 y8) | fail);go_roundw
     case rel=>exact⟨k+1,s',all,ms,sure,foy,fey,ity,sey,tsy,by omega,by go_num,rfl,HTn.out,H9.out⟩
     case measure=>simp[intOf];omega
   | true=>
     obtain⟨nA,hnA⟩:∃nA,all.length+1=nA:=⟨_,rfl⟩
     have HEv:Hid (∀w9,TelAt w2 w9 bs (.slice Aa all.length ca) (.slice Am ms.length cm) foy fey ity sey tsy s' all ms→∃A4 c4 w4,(∀ty,(Builtin.append_ #[30,30] ty #[.slice Aa all.length ca,.slice (some ⟨w9.heap.size,0,none⟩) 1 1]).run Tryz.prog (w9.alloc (.cells #[.int .i64 ev.kind,.int .i64 ev.a,.int .i64 ev.b,.int .i64 ev.n,.string ev.s,.string ev.t,.string ev.u] 42))=.ok (.slice A4 nA c4) w4)∧TelAt w2 w4 bs (.slice A4 nA c4) (.slice Am ms.length cm) foy fey ity sey tsy s' (all++[ev]) ms):=λw9 h9=>by
      obtain⟨v4,w4,hrun,h4⟩:=h9.ev (fR w9) ev (by have:=HAl.out;omega);obtain⟨A4,c4,rfl,-,-,-,-⟩:=h4.rA.shape;rw[show (all++[ev]).length=nA by simpa using hnA] at h4 hrun;exact⟨A4,c4,w4,hrun,h4⟩
     have HMp:Hid (∀w4 A4 c4,TelAt w2 w4 bs (.slice A4 nA c4) (.slice Am ms.length cm) foy fey ity sey tsy s' (all++[ev]) ms→∃A5 c5 w5,(∀ty,(Builtin.append_ #[22,22] ty #[.slice Am ms.length cm,.slice (some ⟨w4.heap.size,0,none⟩) 1 1]).run Tryz.prog (w4.alloc (.cells #[.int .i64 1,.int .i64 ev.kind,.int .i64 ev.a,.int .i64 ev.b,.int .i64 ev.n,.string ev.s,.string ev.t,.string ev.u,.int .i64 0,.int .i64 (nA:Int),.int .i64 0,.int .i64 0,.slice none 0 0,.slice none 0 0,.slice none 0 0,.slice none 0 0,.int .i64 0,.int .i64 0,.int .i64 0,.int .i64 0] 44))=.ok (.slice A5 (ms.length+1) c5) w5)∧TelAt w2 w5 bs (.slice A4 nA c4) (.slice A5 (ms.length+1) c5) foy fey ity sey tsy s' (all++[ev]) (ms++[putM ev nA])):=λw4 A4 c4 h4=>by
      obtain⟨v5,w5,hrun,h5⟩:=h4.mp (fR w4) ev (nA:Int) (by have:=HAl.out;omega);obtain⟨A5,c5,rfl,-,-,-,-⟩:=h5.rM.shape;rw[show (ms++[putM ev (nA:Int)]).length=ms.length+1 by simp] at h5 hrun;exact⟨A5,c5,w5,hrun,h5⟩
     have HMy:Hid (∀w5 A4 c4 A5 c5,TelAt w2 w5 bs (.slice A4 nA c4) (.slice A5 (ms.length+1) c5) foy fey ity sey tsy s' (all++[ev]) (ms++[putM ev nA])→∃A6 c6 w6,(∀ty,(Builtin.append_ #[22,22] ty #[.slice A5 (ms.length+1) c5,.slice (some ⟨w5.heap.size,0,none⟩) 1 1]).run Tryz.prog (w5.alloc (.cells #[.int .i64 2,.int .i64 0,.int .i64 0,.int .i64 0,.int .i64 0,.string ⟨#[]⟩,.string ⟨#[]⟩,.string ⟨#[]⟩,.int .i64 0,.int .i64 0,.int .i64 0,.int .i64 0,.slice none 0 0,.slice none 0 0,.slice none 0 0,.slice none 0 0,.int .i64 0,.int .i64 0,.int .i64 0,.int .i64 0] 44))=.ok (.slice A6 (ms.length+2) c6) w6)∧TelAt w2 w6 bs (.slice A4 nA c4) (.slice A6 (ms.length+2) c6) foy fey ity sey tsy s' (all++[ev]) (ms++[putM ev nA]++[syncM])):=λw5 A4 c4 A5 c5 h5=>by
      obtain⟨v6,w6,hrun,h6⟩:=h5.my (fR w5) (by rw[List.length_append,List.length_singleton];have:=HAl.out;omega);obtain⟨A6,c6,rfl,-,-,-,-⟩:=h6.rM.shape;rw[show (ms++[putM ev (nA:Int)]++[syncM]).length=ms.length+2 by simp] at h6 hrun;exact⟨A6,c6,w6,hrun,h6⟩
     have HNA:Hid ((all.length:Int)+1=(nA:Int)):=by unfold Hid;omega
     have hcd:∀w9,TelAt w2 w9 bs (.slice Aa all.length ca) (.slice Am ms.length cm) foy fey ity sey tsy s' all ms→(w9.cell? ⟨b,off+k * 7,none⟩=some (.int .i64 ev.kind)∧w9.cell? ⟨b,off+k * 7+1,none⟩=some (.int .i64 ev.a)∧w9.cell? ⟨b,off+k * 7+2,none⟩=some (.int .i64 ev.b)∧w9.cell? ⟨b,off+k * 7+3,none⟩=some (.int .i64 ev.n)∧w9.cell? ⟨b,off+k * 7+4,none⟩=some (.string ev.s)∧w9.cell? ⟨b,off+k * 7+5,none⟩=some (.string ev.t)∧w9.cell? ⟨b,off+k * 7+6,none⟩=some (.string ev.u)):=λw9 h9=>HEV.out w9 ((HW0.out.trans Y2.out).trans h9.rA.frm)
     have HCd:=h_ hcd;have hce:∀w9 va vb,TelAt w2 w9 bs va vb foy fey ity sey tsy s' (all++[ev]) ms→(w9.cell? ⟨b,off+k * 7,none⟩=some (.int .i64 ev.kind)∧w9.cell? ⟨b,off+k * 7+1,none⟩=some (.int .i64 ev.a)∧w9.cell? ⟨b,off+k * 7+2,none⟩=some (.int .i64 ev.b)∧w9.cell? ⟨b,off+k * 7+3,none⟩=some (.int .i64 ev.n)∧w9.cell? ⟨b,off+k * 7+4,none⟩=some (.string ev.s)∧w9.cell? ⟨b,off+k * 7+5,none⟩=some (.string ev.t)∧w9.cell? ⟨b,off+k * 7+6,none⟩=some (.string ev.u)):=λw9 a b h9=>HEV.out w9 ((HW0.out.trans Y2.out).trans h9.rA.frm)
     have HCe:=h_ hce;clear hcd hce;generalize all.length=na at *;generalize ms.length=nm at *
     by_cases hyy:(nA:Int)=y
     ·have hyb:((nA:Int)==y)=true:=beq_iff_eq.2 hyy
      have HTn:Hid ((⟨s',all++[ev],ms++[putM ev nA]++[syncM],y⟩:Tl)=tellT y (l.take (k+1))):=by
       unfold Hid;rw[HTk2.out,HNA.out,if_pos rfl,if_pos hyy]
      clear hyy hnA;go_wp2_with (first | (refine stStore (l:=[.int .i64 s'.clock,.slice foy.1 s'.fols.length foy.2,.slice fey.1 s'.fees.length fey.2,.slice ity.1 s'.itms.length ity.2,.slice sey.1 s'.seas.length sey.2,.int .i64 s'.tFol,.int .i64 s'.tFee,.int .i64 s'.tItm,.int .i64 s'.tSea]) HX8.out rfl rfl HOne.out _ _ rfl rfl rfl rfl ?_;intro w9 hw9;have H9:=h_ (HT9.out w9 hw9);obtain⟨c0,c1,c2,c3,c4,c5,c6⟩:=HCd.out w9 H9.out;obtain⟨A4,k4,w4,hrun4,h10⟩:=HEv.out w9 H9.out;have H10:=h_ h10;clear hw9 y0 y1 y2 y3 y4 y5 y6 y7 y8 h10) | (at_builtin;refine wpList_append_run hrun4 rfl _ _ rfl rfl rfl ?_;clear c0 c1 c2 c3 c4 c5 c6;obtain⟨c0,c1,c2,c3,c4,c5,c6⟩:=HCe.out w4 _ _ H10.out;obtain⟨A5,k5,w5,hrun5,h11⟩:=HMp.out w4 _ _ H10.out;have H11:=h_ h11;clear h11) | (at_builtin;refine wpList_append_run hrun5 rfl _ _ rfl rfl rfl ?_;obtain⟨A6,k6,w6,hrun6,h12⟩:=HMy.out w5 _ _ _ _ H11.out;have H12:=h_ h12;clear h12) | (at_builtin;refine wpList_append_run hrun6 rfl _ _ rfl rfl rfl ?_) | fail);go_roundw
      case rel=>exact⟨k+1,s',all++[ev],ms++[putM ev nA]++[syncM],y,foy,fey,ity,sey,tsy,by omega,by go_num,rfl,HTn.out,H12.out⟩
      case measure=>simp[intOf];omega
     ·have hyb:((nA:Int)==y)=false:=beq_eq_false_iff_ne.2 hyy
      have HTn:Hid ((⟨s',all++[ev],ms++[putM ev nA],sure⟩:Tl)=tellT y (l.take (k+1))):=by
       unfold Hid;rw[HTk2.out,HNA.out,if_pos rfl,if_neg hyy]
      clear hyy hnA;go_wp2_with (first | (refine stStore (l:=[.int .i64 s'.clock,.slice foy.1 s'.fols.length foy.2,.slice fey.1 s'.fees.length fey.2,.slice ity.1 s'.itms.length ity.2,.slice sey.1 s'.seas.length sey.2,.int .i64 s'.tFol,.int .i64 s'.tFee,.int .i64 s'.tItm,.int .i64 s'.tSea]) HX8.out rfl rfl HOne.out _ _ rfl rfl rfl rfl ?_;intro w9 hw9;have H9:=h_ (HT9.out w9 hw9);obtain⟨c0,c1,c2,c3,c4,c5,c6⟩:=HCd.out w9 H9.out;obtain⟨A4,k4,w4,hrun4,h10⟩:=HEv.out w9 H9.out;have H10:=h_ h10;clear hw9 y0 y1 y2 y3 y4 y5 y6 y7 y8 h10) | (at_builtin;refine wpList_append_run hrun4 rfl _ _ rfl rfl rfl ?_;clear c0 c1 c2 c3 c4 c5 c6;obtain⟨c0,c1,c2,c3,c4,c5,c6⟩:=HCe.out w4 _ _ H10.out;obtain⟨A5,k5,w5,hrun5,h11⟩:=HMp.out w4 _ _ H10.out;have H11:=h_ h11;clear h11) | (at_builtin;refine wpList_append_run hrun5 rfl _ _ rfl rfl rfl ?_;obtain⟨A6,k6,w6,hrun6,h12⟩:=HMy.out w5 _ _ _ _ H11.out;have H12:=h_ h12;clear h12) | fail);go_roundw
      case rel=>exact⟨k+1,s',all++[ev],ms++[putM ev nA],sure,foy,fey,ity,sey,tsy,by omega,by go_num,rfl,HTn.out,H11.out⟩
      case measure=>simp[intOf];omega
  ·obtain rfl:k=n:=by omega
   have HTe2:Hid (tellT y l=⟨s,all,ms,sure⟩):=by
    unfold Hid;rw[HTe.out,List.take_of_length_le (by rw[HN.out];exact Nat.le_refl _)]
   have HAl2:Hid (all.length≤1000∧ms.length≤1000):=by have:=HAl.out;have:=H60.out;rw[HN.out] at this;exact⟨by omega,by omega⟩
   have hmx:ca≤maxLen:=HT.out.rA.sl.max;have hcap:all.length≤ca:=HT.out.rA.sl.cap;have hnil:Aa=none→ca=0:=HT.out.rA.sl.nil
   have KM:Hid (∀W,Frm Nix wr W→Calls Tryz.prog 11 #[.slice Am ms.length cm] W λe w'=>e=.returned (.bool true)∧Frm Nix W w'):=λW hW=>by
    have q:=may_all (v:=(Am,cm)) (l:=l) (y:=y) HNum.out H60.out (by rw[HTe2.out];exact(HT.out.rM.more hW).sl);rw[HTe2.out] at q;exact q
   have HOpen:Hid (∀(x:St) (fo fe it se:Sl) (ts:List (Sl×Itm)) (Gx:Nat→Prop) W (A':Option Addr) (c':Nat) (G':Nat→Prop),StIn W Gx fo fe it se ts x→StSmall x→SlIn W G' 20 (A',c') (ms.length+1) (ms.flatMap mvc++[.int .i64 4,.int .i64 0,.int .i64 0,.int .i64 0,.int .i64 0,.string ⟨#[]⟩,.string ⟨#[]⟩,.string ⟨#[]⟩,.int .i64 0,.int .i64 last,.int .i64 0,.int .i64 x.clock,.slice fo.1 x.fols.length fo.2,.slice fe.1 x.fees.length fe.2,.slice it.1 x.itms.length it.2,.slice se.1 x.seas.length se.2,.int .i64 x.tFol,.int .i64 x.tFee,.int .i64 x.tItm,.int .i64 x.tSea])→Calls Tryz.prog 11 #[.slice A' (ms.length+1:Nat) c'] W λe w'=>e=.returned (.bool (decide (sure≤last)&&decide (last≤all.length)&&decide (x=foldE st0 (all.take last.toNat))))∧Frm Nix W w'):=λx fo fe it se ts Gx W A' c' G' h1 h2 h3=>by
    have q:=may_open (v:=(A',c')) (l:=l) (y:=y) (last:=last) HNum.out H60.out h1 h2 (by rw[HTe2.out];exact h3);rw[HTe2.out] at q;exact q
   have HLo:Hid (0≤sure):=HOk.out.lo;have HB0:Hid (Blk wr w.heap.size 36 #[.int .i64 x.clock,.slice fo0.1 x.fols.length fo0.2,.slice fe0.1 x.fees.length fe0.2,.slice it0.1 x.itms.length it0.2,.slice se0.1 x.seas.length se0.2,.int .i64 x.tFol,.int .i64 x.tFee,.int .i64 x.tItm,.int .i64 x.tSea]):=HBX.out.frm (Y2.out.trans HF.out) id;clear HTe HTe2 HOk;go_wp2;refine peelK (k':=8) λK hK=>?_
   conv in hdC _=>whnf
   go_wp2_with (first | (go_at_call 11;refine(KM.out _ Yv.out).mono ?_;rintro e wu ⟨rfl,hf⟩;have Ywu:Hid (Frm Nix wr wu):=Yv.out.trans hf;clear hf) | (go_at_call 8;refine(lives37_any _).mono ?_;rintro e wv ⟨rfl,hf⟩;have Yv:Hid (Frm Nix wr wv):=hf;clear hf) | fail)
   by_cases c1:sure≤last
   ·by_cases c2:last≤(all.length:Int)
    ·obtain⟨j,rfl⟩:∃j:Nat,last=j:=⟨last.toNat,by have:=HLo.out;omega⟩
     have hj:j≤all.length:=by omega
     obtain⟨f,hf⟩:∃f,foldE st0 (all.take j)=f:=⟨_,rfl⟩;have HPf:Hid (StP f):=by rw[←hf];exact foldE_ok _ st0_ok
     have KFo:Hid (∀W,Frm Nix wr W→Calls Tryz.prog 15 #[.slice Aa j ca] W λe w'=>∃(fo fe it se:Sl) (ts:List (Sl×Itm)),e=.returned (.agg #[.int .i64 f.clock,.slice fo.1 f.fols.length fo.2,.slice fe.1 f.fees.length fe.2,.slice it.1 f.itms.length it.2,.slice se.1 f.seas.length se.2,.int .i64 f.tFol,.int .i64 f.tFee,.int .i64 f.tItm,.int .i64 f.tSea])∧StIn w' (λk=>W.heap.size≤k) fo fe it se ts f∧Frm Nix W w'):=λW hW=>by
      have q:=rStFold_any (v:=(Aa,ca)) (all.take j) (EvsAll.first ((HT.out.rA.more hW).sl) hj) (by rw[List.length_take];have:=HAl2.out;omega);rw[hf,List.length_take,Nat.min_eq_left hj] at q;exact q
     obtain⟨bo,hbo⟩:∃bo,decide (f=x)=bo:=⟨_,rfl⟩;have HBo:=h_ hbo
     have HV1:Hid ((decide (sure≤(j:Int))&&decide ((j:Int)≤(all.length:Int))&&decide (f=foldE st0 (all.take (j:Int).toNat)))=true):=by
      unfold Hid;rw[decide_eq_true c1,decide_eq_true c2,Int.toNat_natCast,hf,decide_eq_true rfl];rfl
     have HV2:Hid ((decide (sure≤(j:Int))&&decide ((j:Int)≤(all.length:Int))&&decide (x=foldE st0 (all.take (j:Int).toNat)))=bo):=by
      unfold Hid;rw[decide_eq_true c1,decide_eq_true c2,Int.toNat_natCast,hf,←hbo];simp only[Bool.true_and];exact decide_eq_decide.2 ⟨λh=>h.symm,λh=>h.symm⟩
     have hi1:(0:Int)≤(j:Int):=by omega
     have hi2:(j:Int)≤(ca:Int):=by omega
     have hi4:(all.length:Int)≤(ca:Int):=by omega
     have d1:decide (sure≤(j:Int))=true:=decide_eq_true c1;clear hbo hf;refine peelK (k':=9) λK hK=>?_
     conv in hdC _=>whnf
     go_wp2;have HBu:Hid (Blk wu w.heap.size 36 #[.int .i64 x.clock,.slice fo0.1 x.fols.length fo0.2,.slice fe0.1 x.fees.length fe0.2,.slice it0.1 x.itms.length it0.2,.slice se0.1 x.seas.length se0.2,.int .i64 x.tFol,.int .i64 x.tFee,.int .i64 x.tItm,.int .i64 x.tSea]):=HB0.out.frm Ywu.out id;obtain⟨x0,x1,x2,x3,x4,x5,x6,x7,x8⟩:=blk9 HBu.out;refine peelK (k':=10) λK hK=>?_
     conv in hdC _=>whnf
     go_wp2;obtain⟨wt,hwt,hft,hbt,hst⟩:=tBox_st wu fo0 fe0 it0 se0 x;rw[←hwt];have HBt:=h_ hbt;have HFt:Hid (Frm Nix wr wt):=Ywu.out.trans hft;have HLb:Hid (w.heap.size<wu.heap.size∧wr.heap.size≤wu.heap.size):=⟨HBu.out.lt,Ywu.out.size⟩;obtain⟨bt,hbte⟩:∃bt,wu.heap.size=bt:=⟨_,rfl⟩;rw[hbte] at HBt HLb ⊢;clear hwt hft hbt hst hbte x0 x1 x2 x3 x4 x5 x6 x7 x8;refine peelK (k':=11) λK hK=>?_
     conv in hdC _=>whnf
     go_wp2_with (first | (go_at_call 15;refine(KFo.out _ HFt.out).mono ?_;rintro e w5 ⟨fo5,fe5,it5,se5,ts5,rfl,hd,hf⟩;have D5:=h_ hd.old;have Y5:=h_ hf;clear hd hf) | (refine stStore (l:=[.int .i64 f.clock,.slice fo5.1 f.fols.length fo5.2,.slice fe5.1 f.fees.length fe5.2,.slice it5.1 f.itms.length it5.2,.slice se5.1 f.seas.length se5.2,.int .i64 f.tFol,.int .i64 f.tFee,.int .i64 f.tItm,.int .i64 f.tSea]) (HBt.out.frm Y5.out id) rfl rfl (st9_one fo5 fe5 it5 se5 f) _ _ rfl rfl rfl rfl ?_;intro w6 hw6;have HW6:=h_ hw6;clear hw6) | fail);have HF6:Hid (Frm (λk=>k=bt) w5 w6):=by unfold Hid;rw[HW6.out];exact Frm.setCells _ 0 (Frm.refl _ _) (.inl rfl)
     have HB6:Hid (Blk w6 bt 36 #[.int .i64 f.clock,.slice fo5.1 f.fols.length fo5.2,.slice fe5.1 f.fees.length fe5.2,.slice it5.1 f.itms.length it5.2,.slice se5.1 f.seas.length se5.2,.int .i64 f.tFol,.int .i64 f.tFee,.int .i64 f.tItm,.int .i64 f.tSea]):=by
      have q:=Blk.putL [.int .i64 f.clock,.slice fo5.1 f.fols.length fo5.2,.slice fe5.1 f.fees.length fe5.2,.slice it5.1 f.itms.length it5.2,.slice se5.1 f.seas.length se5.2,.int .i64 f.tFol,.int .i64 f.tFee,.int .i64 f.tItm,.int .i64 f.tSea] 0 (HBt.out.frm Y5.out id);rw[putL9] at q;unfold Hid;rw[HW6.out];exact q
     have HSz6:Hid (bt<wt.heap.size):=HBt.out.lt;have D6:Hid (StIn w6 (λ_=>True) fo5 fe5 it5 se5 ts5 f):=(D5.out.frm HF6.out λk hk e=>by have h1:=hk.1;have h2:=HSz6.out;omega).mono λ_ _=>trivial
     have HR6:Hid (RowK 44 20 w2 w6 (.slice Am ms.length cm) ms.length (ms.flatMap mvc)):=(HT.out.rM.more (HFt.out.trans Y5.out)).far HF6.out (λk e=>by have h1:=HF.out.size;have h2:=HLb.out;omega) (λk hk e=>by subst e;exact(HT.out.rM.more (HFt.out.trans Y5.out)).ne_blk (HBt.out.frm Y5.out id) (by decide) hk);have HBx6:Hid (Blk w6 w.heap.size 36 #[.int .i64 x.clock,.slice fo0.1 x.fols.length fo0.2,.slice fe0.1 x.fees.length fe0.2,.slice it0.1 x.itms.length it0.2,.slice se0.1 x.seas.length se0.2,.int .i64 x.tFol,.int .i64 x.tFee,.int .i64 x.tItm,.int .i64 x.tSea]):=(HB0.out.frm (HFt.out.trans Y5.out) id).frm HF6.out (by have h2:=HLb.out;omega);have HFw6:Hid (Frm Nix w w6):=(HFw.out.trans (HFt.out.trans Y5.out)).next HF6.out λk hk=>.inr (by have h2:=HLb.out;omega)
     refine peelK (k':=12) λK hK=>?_
     refine tellsR24 (bt:=bt) (last:=(j:Int)) (x:=f) (xs:=ms.flatMap mvc) (bR:=true) HB6.out HR6.out.sl (λu hu=>by obtain⟨m,-,h⟩:=List.mem_flatMap.1 hu;exact mvc_one m u h) HAl2.out.2 (λA' c' W hW h=>by
      have q:=HOpen.out f fo5 fe5 it5 se5 ts5 _ W A' c' _ (D6.out.nix hW) HPf.out.small h;rw[HV1.out] at q;exact q) (λ_ _ _ _ _ h=>h) ?_
     intro w7 z99 z100 z101 z102 z103 z104 z105 z106 z107 hf7;have HF7:=h_ hf7;have HR7:=h_ (HR6.out.more hf7);have HB7:=h_ (HB6.out.frm hf7 id);have HBx7:=h_ (HBx6.out.frm hf7 id);have D7:=h_ (D6.out.nix hf7);have HFw7:Hid (Frm Nix w w7):=HFw6.out.trans hf7;clear hf7;go_wp2;refine peelK (k':=13) λK hK=>?_
     refine tellsR25 (bt:=w.heap.size) (last:=(j:Int)) (x:=x) (xs:=ms.flatMap mvc) (bR:=bo) HBx7.out HR7.out.sl (λu hu=>by obtain⟨m,-,h⟩:=List.mem_flatMap.1 hu;exact mvc_one m u h) HAl2.out.2 (λA' c' W hW h=>by
      have q:=HOpen.out x fo0 fe0 it0 se0 ts0 _ W A' c' _ (HX.out.nix (HFw7.out.trans hW)) HSm.out h;rw[HV2.out] at q;exact q) (λ_ _ _ _ _ h=>h) ?_
     intro w8 z108 z109 z110 z111 z112 z113 z114 z115 z116 hf8;have HB8:=h_ (HB7.out.frm hf8 id);have HBx8:=h_ (HBx7.out.frm hf8 id);have HFw8:Hid (Frm Nix w w8):=HFw7.out.trans hf8;have D8:=h_ (D7.out.nix hf8);clear hf8
     have KS:Hid (Calls Tryz.prog 16 #[stV fo5 fe5 it5 se5 f,.agg #[.int .i64 x.clock,.slice fo0.1 x.fols.length fo0.2,.slice fe0.1 x.fees.length fe0.2,.slice it0.1 x.itms.length it0.2,.slice se0.1 x.seas.length se0.2,.int .i64 x.tFol,.int .i64 x.tFee,.int .i64 x.tItm,.int .i64 x.tSea]] w8 λe w'=>e=.returned (.bool bo)∧Frm Nix w8 w'):=by
      have q:=rStSame_any D8.out (HX.out.nix HFw8.out) HPf.out.small HSm.out;rw[HBo.out] at q;exact q
     obtain⟨x0,x1,x2,x3,x4,x5,x6,x7,x8⟩:=blk9 HBx8.out;obtain⟨y0,y1,y2,y3,y4,y5,y6,y7,y8⟩:=blk9 HB8.out;clear HV1 HV2
     cases bo with
     | false=>
       go_wp2;simp only[peel,bodyOf,Tryz.f4];go_wp2_with (first | (go_at_call 16;refine KS.out.mono ?_;rintro e w9 ⟨rfl,hf⟩;have Y9:Hid (Frm Nix w w9):=HFw8.out.trans hf;clear hf) | fail);go_ret
       exact⟨rfl,Y9.out⟩
     | true=>
       go_wp2;simp only[peel,bodyOf,Tryz.f4];go_wp2_with (first | (go_at_call 16;refine KS.out.mono ?_;rintro e w9 ⟨rfl,hf⟩;have Y9:Hid (Frm Nix w w9):=HFw8.out.trans hf;clear hf) | fail);go_ret;exact⟨rfl,Y9.out⟩
    ·have HV1:Hid ((decide (sure≤last)&&decide (last≤(all.length:Int))&&decide (x=foldE st0 (all.take last.toNat)))=false):=by
      unfold Hid;rw[decide_eq_false c2];simp
     have HV2:=h_ HV1.out;refine peelK (k':=9) λK hK=>?_
     conv in hdC _=>whnf
     go_wp2;have HBu:Hid (Blk wu w.heap.size 36 #[.int .i64 x.clock,.slice fo0.1 x.fols.length fo0.2,.slice fe0.1 x.fees.length fe0.2,.slice it0.1 x.itms.length it0.2,.slice se0.1 x.seas.length se0.2,.int .i64 x.tFol,.int .i64 x.tFee,.int .i64 x.tItm,.int .i64 x.tSea]):=HB0.out.frm Ywu.out id;obtain⟨x0,x1,x2,x3,x4,x5,x6,x7,x8⟩:=blk9 HBu.out;refine peelK (k':=10) λK hK=>?_
     conv in hdC _=>whnf
     go_wp2;obtain⟨wt,hwt,hft,hbt,hst⟩:=tBox_st wu fo0 fe0 it0 se0 x;rw[←hwt];have HBt:=h_ hbt;have HFt:Hid (Frm Nix wr wt):=Ywu.out.trans hft;have HLb:Hid (w.heap.size<wu.heap.size∧wr.heap.size≤wu.heap.size):=⟨HBu.out.lt,Ywu.out.size⟩;obtain⟨bt,hbte⟩:∃bt,wu.heap.size=bt:=⟨_,rfl⟩;rw[hbte] at HBt HLb ⊢;clear hwt hft hbt hst hbte x0 x1 x2 x3 x4 x5 x6 x7 x8;refine peelK (k':=11) λK hK=>?_
     conv in hdC _=>whnf
     go_wp2;obtain⟨w6,hw6⟩:∃w6,w6=wt:=⟨_,rfl⟩;rw[←hw6] at HFt HBt ⊢;clear hw6;have HB6:=h_ HBt.out;have D6:Hid (StIn w6 (λ_=>True) fo0 fe0 it0 se0 ts0 x):=(HX.out.nix (HFw.out.trans HFt.out)).mono λ_ _=>trivial
     have HR6:Hid (RowK 44 20 w2 w6 (.slice Am ms.length cm) ms.length (ms.flatMap mvc)):=HT.out.rM.more HFt.out;have HBx6:Hid (Blk w6 w.heap.size 36 #[.int .i64 x.clock,.slice fo0.1 x.fols.length fo0.2,.slice fe0.1 x.fees.length fe0.2,.slice it0.1 x.itms.length it0.2,.slice se0.1 x.seas.length se0.2,.int .i64 x.tFol,.int .i64 x.tFee,.int .i64 x.tItm,.int .i64 x.tSea]):=HB0.out.frm HFt.out id;have HFw6:Hid (Frm Nix w w6):=HFw.out.trans HFt.out;refine peelK (k':=12) λK hK=>?_
     refine tellsR24 (bt:=bt) (last:=last) (x:=x) (xs:=ms.flatMap mvc) (bR:=false) HB6.out HR6.out.sl (λu hu=>by obtain⟨m,-,h⟩:=List.mem_flatMap.1 hu;exact mvc_one m u h) HAl2.out.2 (λA' c' W hW h=>by
      have q:=HOpen.out x fo0 fe0 it0 se0 ts0 _ W A' c' _ (D6.out.nix hW) HSm.out h;rw[HV1.out] at q;exact q) (λ_ _ _ _ _ h=>h) ?_
     intro w7 z99 z100 z101 z102 z103 z104 z105 z106 z107 hf7;have HF7:=h_ hf7;have HR7:=h_ (HR6.out.more hf7);have HB7:=h_ (HB6.out.frm hf7 id);have HBx7:=h_ (HBx6.out.frm hf7 id);have D7:=h_ (D6.out.nix hf7);have HFw7:Hid (Frm Nix w w7):=HFw6.out.trans hf7;clear hf7;go_wp2;refine peelK (k':=13) λK hK=>?_
     refine tellsR25 (bt:=w.heap.size) (last:=last) (x:=x) (xs:=ms.flatMap mvc) (bR:=false) HBx7.out HR7.out.sl (λu hu=>by obtain⟨m,-,h⟩:=List.mem_flatMap.1 hu;exact mvc_one m u h) HAl2.out.2 (λA' c' W hW h=>by
      have q:=HOpen.out x fo0 fe0 it0 se0 ts0 _ W A' c' _ (HX.out.nix (HFw7.out.trans hW)) HSm.out h;rw[HV2.out] at q;exact q) (λ_ _ _ _ _ h=>h) ?_
     intro w8 z108 z109 z110 z111 z112 z113 z114 z115 z116 hf8;have HB8:=h_ (HB7.out.frm hf8 id);have HBx8:=h_ (HBx7.out.frm hf8 id);have HFw8:Hid (Frm Nix w w8):=HFw7.out.trans hf8;have D8:=h_ (D7.out.nix hf8);clear hf8;go_wp2;simp only[peel,bodyOf,Tryz.f4];go_wp2;go_ret;exact⟨rfl,HFw8.out⟩
   ·have HV1:Hid ((decide (sure≤last)&&decide (last≤(all.length:Int))&&decide (x=foldE st0 (all.take last.toNat)))=false):=by
     unfold Hid;rw[decide_eq_false c1];simp
    have HV2:=h_ HV1.out;refine peelK (k':=9) λK hK=>?_
    conv in hdC _=>whnf
    go_wp2;have HBu:Hid (Blk wu w.heap.size 36 #[.int .i64 x.clock,.slice fo0.1 x.fols.length fo0.2,.slice fe0.1 x.fees.length fe0.2,.slice it0.1 x.itms.length it0.2,.slice se0.1 x.seas.length se0.2,.int .i64 x.tFol,.int .i64 x.tFee,.int .i64 x.tItm,.int .i64 x.tSea]):=HB0.out.frm Ywu.out id;obtain⟨x0,x1,x2,x3,x4,x5,x6,x7,x8⟩:=blk9 HBu.out;refine peelK (k':=10) λK hK=>?_
    conv in hdC _=>whnf
    go_wp2;obtain⟨wt,hwt,hft,hbt,hst⟩:=tBox_st wu fo0 fe0 it0 se0 x;rw[←hwt];have HBt:=h_ hbt;have HFt:Hid (Frm Nix wr wt):=Ywu.out.trans hft;have HLb:Hid (w.heap.size<wu.heap.size∧wr.heap.size≤wu.heap.size):=⟨HBu.out.lt,Ywu.out.size⟩;obtain⟨bt,hbte⟩:∃bt,wu.heap.size=bt:=⟨_,rfl⟩;rw[hbte] at HBt HLb ⊢;clear hwt hft hbt hst hbte x0 x1 x2 x3 x4 x5 x6 x7 x8;refine peelK (k':=11) λK hK=>?_
    conv in hdC _=>whnf
    go_wp2;obtain⟨w6,hw6⟩:∃w6,w6=wt:=⟨_,rfl⟩;rw[←hw6] at HFt HBt ⊢;clear hw6;have HB6:=h_ HBt.out;have D6:Hid (StIn w6 (λ_=>True) fo0 fe0 it0 se0 ts0 x):=(HX.out.nix (HFw.out.trans HFt.out)).mono λ_ _=>trivial
    have HR6:Hid (RowK 44 20 w2 w6 (.slice Am ms.length cm) ms.length (ms.flatMap mvc)):=HT.out.rM.more HFt.out;have HBx6:Hid (Blk w6 w.heap.size 36 #[.int .i64 x.clock,.slice fo0.1 x.fols.length fo0.2,.slice fe0.1 x.fees.length fe0.2,.slice it0.1 x.itms.length it0.2,.slice se0.1 x.seas.length se0.2,.int .i64 x.tFol,.int .i64 x.tFee,.int .i64 x.tItm,.int .i64 x.tSea]):=HB0.out.frm HFt.out id;have HFw6:Hid (Frm Nix w w6):=HFw.out.trans HFt.out;refine peelK (k':=12) λK hK=>?_
    refine tellsR24 (bt:=bt) (last:=last) (x:=x) (xs:=ms.flatMap mvc) (bR:=false) HB6.out HR6.out.sl (λu hu=>by obtain⟨m,-,h⟩:=List.mem_flatMap.1 hu;exact mvc_one m u h) HAl2.out.2 (λA' c' W hW h=>by
     have q:=HOpen.out x fo0 fe0 it0 se0 ts0 _ W A' c' _ (D6.out.nix hW) HSm.out h;rw[HV1.out] at q;exact q) (λ_ _ _ _ _ h=>h) ?_
    intro w7 z99 z100 z101 z102 z103 z104 z105 z106 z107 hf7;have HF7:=h_ hf7;have HR7:=h_ (HR6.out.more hf7);have HB7:=h_ (HB6.out.frm hf7 id);have HBx7:=h_ (HBx6.out.frm hf7 id);have D7:=h_ (D6.out.nix hf7);have HFw7:Hid (Frm Nix w w7):=HFw6.out.trans hf7;clear hf7;go_wp2;refine peelK (k':=13) λK hK=>?_
    refine tellsR25 (bt:=w.heap.size) (last:=last) (x:=x) (xs:=ms.flatMap mvc) (bR:=false) HBx7.out HR7.out.sl (λu hu=>by obtain⟨m,-,h⟩:=List.mem_flatMap.1 hu;exact mvc_one m u h) HAl2.out.2 (λA' c' W hW h=>by
     have q:=HOpen.out x fo0 fe0 it0 se0 ts0 _ W A' c' _ (HX.out.nix (HFw7.out.trans hW)) HSm.out h;rw[HV2.out] at q;exact q) (λ_ _ _ _ _ h=>h) ?_
    intro w8 z108 z109 z110 z111 z112 z113 z114 z115 z116 hf8;have HB8:=h_ (HB7.out.frm hf8 id);have HBx8:=h_ (HBx7.out.frm hf8 id);have HFw8:Hid (Frm Nix w w8):=HFw7.out.trans hf8;have D8:=h_ (D7.out.nix hf8);clear hf8;go_wp2;simp only[peel,bodyOf,Tryz.f4];go_wp2;go_ret;exact⟨rfl,HFw8.out⟩
end Go.Proofs.YtaecjmiobllhmaaGreat
