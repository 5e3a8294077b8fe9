/-
  CmdFits' walk.
-/
import Derived.Test.YtdihmpakglakdaaGreatGa45
import Derived.Test.YtdihmpakglakdaaGreatGa46
import Derived.Deep.RegionHeld3
set_option linter.unusedVariables false
set_option linter.unusedSimpArgs false
set_option maxRecDepth 100000
set_option maxHeartbeats 16000000
namespace Go.Proofs.YtdihmpakglakdaaGreat
open Go.RowKit Go.Lib
theorem TellA{w:World}{g:Nat}{M:Ms}{x:St}(h:StAt w g M x):Calls Tryz.prog 28 #[.pointer (some ⟨g,0,none⟩)] w fun e w'=>∃ fo fe it se:Sl,∃ ts:List (Sl×Itm),e=.returned (.agg #[.int .i64 x.clock,.slice fo.1 x.fols.length fo.2,.slice fe.1 x.fees.length fe.2,.slice it.1 x.itms.length it.2,.slice se.1 x.seas.length se.2,.int .i64 x.tFol,.int .i64 x.tFee,.int .i64 x.tItm,.int .i64 x.tSea])∧StIn w' (fun k=>w.heap.size≤k) fo fe it se ts x∧Frm Nix w w':=Tell_any h
theorem Rd.cOld{w:World}{G:Nat→Prop}{s n:Nat}{A:Option Addr}{xs:List Value}(h:Rd w G s A n xs):Rd w (fun k=>G k∧k<w.heap.size) s A n xs:=
 ⟨h.1,fun hn=>by
  obtain⟨a,e,h1,h2,h3⟩:=h.2 hn;exact⟨a,e,⟨h1,h2⟩,h2,h3⟩⟩
theorem SlIn.cOld{w:World}{G:Nat→Prop}{s n:Nat}{v:Sl}{xs:List Value}(h:SlIn w G s v n xs):SlIn w (fun k=>G k∧k<w.heap.size) s v n xs:=⟨h.rd.cOld,h.nil,h.cap,h.max⟩
theorem StIn.cOld{w:World}{G:Nat→Prop}{fo fe it se:Sl}{ts:List (Sl×Itm)}{x:St}(h:StIn w G fo fe it se ts x):StIn w (fun k=>G k∧k<w.heap.size) fo fe it se ts x:=⟨h.fols.cOld,h.fees.cOld,⟨h.itms.row.cOld,fun p hp=>(h.itms.tags p hp).cOld⟩,h.same,h.seas.cOld⟩
theorem setB{w6 w9:World}{g gb N:Nat}{M:Ms}{z z':St}{fo fe it se fo' fe' it' se':Sl}{ts':List (Sl×Itm)}(hn:∀ j,SF g M j→¬j=gb)(hs:StAt w9 g M z')(hb:Blk w9 gb 37 #[.int .i64 z.clock,.slice fo.1 z.fols.length fo.2,.slice fe.1 z.fees.length fe.2,.slice it.1 z.itms.length it.2,.slice se.1 z.seas.length se.2,.int .i64 z.tFol,.int .i64 z.tFee,.int .i64 z.tItm,.int .i64 z.tSea])(hd:StIn w9 (fun k=>N≤k∧¬k=gb) fo' fe' it' se' ts' z')(hf:Frm (fun k=>SF g M k∨k=gb) w6 w9):
  StAt (w9.setCells gb 0 [.int .i64 z'.clock,.slice fo'.1 z'.fols.length fo'.2,.slice fe'.1 z'.fees.length fe'.2,.slice it'.1 z'.itms.length it'.2,.slice se'.1 z'.seas.length se'.2,.int .i64 z'.tFol,.int .i64 z'.tFee,.int .i64 z'.tItm,.int .i64 z'.tSea]) g M z'∧Blk (w9.setCells gb 0 [.int .i64 z'.clock,.slice fo'.1 z'.fols.length fo'.2,.slice fe'.1 z'.fees.length fe'.2,.slice it'.1 z'.itms.length it'.2,.slice se'.1 z'.seas.length se'.2,.int .i64 z'.tFol,.int .i64 z'.tFee,.int .i64 z'.tItm,.int .i64 z'.tSea]) gb 37 #[.int .i64 z'.clock,.slice fo'.1 z'.fols.length fo'.2,.slice fe'.1 z'.fees.length fe'.2,.slice it'.1 z'.itms.length it'.2,.slice se'.1 z'.seas.length se'.2,.int .i64 z'.tFol,.int .i64 z'.tFee,.int .i64 z'.tItm,.int .i64 z'.tSea]∧StIn (w9.setCells gb 0 [.int .i64 z'.clock,.slice fo'.1 z'.fols.length fo'.2,.slice fe'.1 z'.fees.length fe'.2,.slice it'.1 z'.itms.length it'.2,.slice se'.1 z'.seas.length se'.2,.int .i64 z'.tFol,.int .i64 z'.tFee,.int .i64 z'.tItm,.int .i64 z'.tSea]) (fun k=>N≤k∧¬k=gb) fo' fe' it' se' ts' z'∧Frm (fun k=>SF g M k∨k=gb) w6 (w9.setCells gb 0 [.int .i64 z'.clock,.slice fo'.1 z'.fols.length fo'.2,.slice fe'.1 z'.fees.length fe'.2,.slice it'.1 z'.itms.length it'.2,.slice se'.1 z'.seas.length se'.2,.int .i64 z'.tFol,.int .i64 z'.tFee,.int .i64 z'.tItm,.int .i64 z'.tSea]):=by
 have f1:Frm (fun k=>k=gb) w9 (w9.setCells gb 0 [.int .i64 z'.clock,.slice fo'.1 z'.fols.length fo'.2,.slice fe'.1 z'.fees.length fe'.2,.slice it'.1 z'.itms.length it'.2,.slice se'.1 z'.seas.length se'.2,.int .i64 z'.tFol,.int .i64 z'.tFee,.int .i64 z'.tItm,.int .i64 z'.tSea]):=Frm.setCells _ 0 (Frm.refl _ _) (.inl rfl);refine⟨hs.frm f1 hn (fun j hj=>hb.ne_str (by decide) hj),?_,hd.frm f1 (fun k hk=>hk.2),hf.trans (f1.mono fun k e=>.inr e)⟩;have q:=hb.putL [.int .i64 z'.clock,.slice fo'.1 z'.fols.length fo'.2,.slice fe'.1 z'.fees.length fe'.2,.slice it'.1 z'.itms.length it'.2,.slice se'.1 z'.seas.length se'.2,.int .i64 z'.tFol,.int .i64 z'.tFee,.int .i64 z'.tItm,.int .i64 z'.tSea] 0;rw[putL9] at q;exact q
theorem fits_walk{w:World}{G:Nat→Prop}{v:Sl}{l:List Ev}(hl:EvsIn w G v l)(k a b n:Int)(s t:ByteArray)(ha:I64 a)(hb:I64 b)(hn:I64 n):
  Calls Tryz.prog 8 #[.slice v.1 l.length v.2,.agg #[.int .i64 k,.int .i64 a,.int .i64 b,.int .i64 n,.string s,.string t]] w fun e w'=>e=.returned (.bool true)∧Frm Nix w w':=by
 obtain⟨Av,cv⟩:=v;dsimp only;obtain⟨lc,hlc⟩:∃ lc,largeC l [⟨k,a,b,n,s,t⟩]=lc:=⟨_,rfl⟩
 have KLg:Hid (Calls Tryz.prog 22 #[.slice Av l.length cv,.slice (some ⟨w.heap.size+1,0,none⟩) 1 1] ((w.alloc (.cells #[.int .i64 k,.int .i64 a,.int .i64 b,.int .i64 n,.string s,.string t] 50)).alloc (.cells #[.int .i64 k,.int .i64 a,.int .i64 b,.int .i64 n,.string s,.string t] 50)) fun e w'=>e=.returned (.bool lc)∧Frm Nix (w.alloc (.cells #[.int .i64 k,.int .i64 a,.int .i64 b,.int .i64 n,.string s,.string t] 50)) w'):=by
  have q:=large1_any (hl.nix ((fR w).alloc (.cells #[.int .i64 k,.int .i64 a,.int .i64 b,.int .i64 n,.string s,.string t] 50))) (fR _) k a b n s t;rw[hlc,show (w.alloc (.cells #[.int .i64 k,.int .i64 a,.int .i64 b,.int .i64 n,.string s,.string t] 50)).heap.size=w.heap.size+1 by simp] at q;exact q
 have KF:Hid (∀ W,Frm Nix w W→largeEvs l=false→Calls Tryz.prog 24 #[.slice Av l.length cv] W fun e w'=>∃ g M,e=.returned (.pointer (some ⟨g,0,none⟩))∧StAt w' g M (foldE st0 l)∧Frm Nix W w'∧∀ k,SF g M k→W.heap.size≤k):=fun W hW=>(hl.nix hW).fold
 have HBc:Hid (∀ W,Frm Nix (w.alloc (.cells #[.int .i64 k,.int .i64 a,.int .i64 b,.int .i64 n,.string s,.string t] 50)) W→Blk W w.heap.size 50 #[.int .i64 k,.int .i64 a,.int .i64 b,.int .i64 n,.string s,.string t]):=fun W hW=>(Blk.new w 50 #[.int .i64 k,.int .i64 a,.int .i64 b,.int .i64 n,.string s,.string t]).frm hW id
 clear hl
 cases lc with
 | true=>
   generalize l.length=n1 at *;clear hlc KF HBc;go_enter Tryz.func8,Tryz.ntmps8;go_wp2_with (first | (go_at_call 23;have _q:=Z1;refine(lives22_any _).mono ?_;rintro e w2 ⟨rfl,hf⟩;have Z2:Hid (Frm Nix w w2):=Z1.out.trans hf;clear hf) | (go_at_call 22;refine KLg.out.mono ?_;rintro e w1 ⟨rfl,hf⟩;have Y1:=h_ hf;have Z1:Hid (Frm Nix w w1):=((fR w).alloc _).trans hf;clear hf) | fail);go_ret
   exact⟨rfl,Z2.out⟩
 | false=>
 obtain⟨h1,h2,h3⟩:=largeC_no hlc;have KF2:=h_ (fun W hW=>KF.out W hW h1);have HIs:Hid (CmIs ⟨k,a,b,n,s,t⟩):=⟨ha,hb,hn,by dsimp only at h2 ⊢;omega,by dsimp only at h3 ⊢;omega⟩;obtain⟨x,hx⟩:∃ x,foldE st0 l=x:=⟨_,rfl⟩;have HP:Hid (StP x):=by rw[← hx];exact foldE_ok l st0_ok
 rw[hx] at KF2;generalize l.length=n1 at *;clear hlc h1 h2 h3 hx KF ha hb hn;go_enter Tryz.func8,Tryz.ntmps8;show Code.wp Tryz.prog (peel 0 (bodyOf Tryz.f8)) _ _ _
 refine peelK (k':=1) fun K hK=>?_
 conv in hdC _=>whnf
 go_wp2;refine peelK (k':=2) fun K hK=>?_
 conv in hdC _=>whnf
 go_wp2_with (first | (go_at_call 22;refine KLg.out.mono ?_;rintro e w1 ⟨rfl,hf⟩;have Y1:=h_ hf;have Z1:Hid (Frm Nix w w1):=((fR w).alloc _).trans hf;clear hf) | fail);refine peelK (k':=3) fun K hK=>?_
 conv in hdC _=>whnf
 go_wp2_with (first | (go_at_call 24;refine(KF2.out _ Z1.out).mono ?_;rintro e w2 ⟨g,M,rfl,hs,hf,hg⟩;have HG:Hid (∀ j,SF g M j→(w.alloc (.cells #[.int .i64 k,.int .i64 a,.int .i64 b,.int .i64 n,.string s,.string t] 50)).heap.size≤j):=(fun j hj=>Nat.le_trans Y1.out.size (hg j hj));have H2:=h_ hs;have Y2:Hid (Frm Nix (w.alloc (.cells #[.int .i64 k,.int .i64 a,.int .i64 b,.int .i64 n,.string s,.string t] 50)) w2):=Y1.out.trans hf;clear hs hf hg) | fail);refine peelK (k':=4) fun K hK=>?_
 conv in hdC _=>whnf
 go_wp2_with (first | (go_at_call 23;refine(lives22_any _).mono ?_;rintro e w3 ⟨rfl,hf⟩;have H3:=h_ (H2.out.nix hf);have Y3:Hid (Frm Nix (w.alloc (.cells #[.int .i64 k,.int .i64 a,.int .i64 b,.int .i64 n,.string s,.string t] 50)) w3):=Y2.out.trans hf;clear hf) | fail);have hbC:=HBc.out _ Y3.out;obtain⟨y0,y1,y2,y3,y4,y5⟩:=blk6 hbC;clear hbC;refine peelK (k':=5) fun K hK=>?_
 conv in hdC _=>whnf
 go_wp2_with (first | (go_at_call 28;refine(TellA H3.out).mono ?_;rintro e w4 ⟨fo,fe,it,se,ts,rfl,hd,hf⟩;have D4:=h_ hd.cOld;have Y4:=h_ hf;clear hd hf) | fail);obtain⟨w5,hw5,hf5,hb5⟩:=cBox_st w4 fo fe it se x;rw[← hw5];have B5:=h_ hb5;have D5:=h_ ((D4.out.mono (G':=fun j=>w3.heap.size≤j∧¬j=w4.heap.size) fun j hj=>⟨hj.1,by have:=hj.2;omega⟩).nix hf5);have H5:=h_ (H3.out.nix (Y4.out.trans hf5));have Y5:Hid (Frm Nix (w.alloc (.cells #[.int .i64 k,.int .i64 a,.int .i64 b,.int .i64 n,.string s,.string t] 50)) w5):=Y3.out.trans (Y4.out.trans hf5);have HLt:Hid (∀ j,SF g M j→j<w3.heap.size):=H3.out.lt;have HSz:Hid (w3.heap.size≤w4.heap.size∧w5.heap.size=w4.heap.size+1):=⟨Y4.out.size,by rw[hw5];simp⟩;clear hw5 hf5 hb5 D4 y0 y1 y2 y3 y4 y5;have hbC:=HBc.out _ Y5.out;obtain⟨y0,y1,y2,y3,y4,y5⟩:=blk6 hbC;clear hbC;obtain⟨r,hr⟩:∃ r,planP shortS tagS x ⟨k,a,b,n,s,t⟩=r:=⟨_,rfl⟩;obtain⟨lr,er⟩:=r;obtain⟨m,hm⟩:∃ m,lr.length=m:=⟨_,rfl⟩
 have HMv:Hid (Moves x lr):=by
  have q:=plan_moves (tg:=tagS) short_ok HP.out ⟨k,a,b,n,s,t⟩;rw[hr] at q;exact q
 have hml:m≤1024:=by
  have q:=plan_len HP.out ⟨k,a,b,n,s,t⟩;rw[hr] at q;rw[← hm];exact q
 have HRef:Hid (er≠0→lr=[]):=fun h0=>by
  have q:=plan_refused (tg:=tagS) short_ok HP.out ⟨k,a,b,n,s,t⟩ (by rw[hr];exact h0);rw[hr] at q;exact q
 have KP:Hid (Calls Tryz.prog 25 #[.pointer (some ⟨g,0,none⟩),.agg #[.int .i64 k,.int .i64 a,.int .i64 b,.int .i64 n,.string s,.string t]] w5 fun e w'=>∃ A c,e=.returned (.tuple #[.slice A m c,.int .i64 er])∧SlIn w' (fun k=>w5.heap.size≤k) 7 (A,c) lr.length (lr.flatMap Ev.cells)∧Frm Nix w5 w'):=by
  have q:=Plan_any H5.out k a b n s t HIs.out;rw[hr] at q;exact q.mono fun e w' ⟨⟨A,c⟩,h1,h2,h3⟩=>⟨A,c,by rw[← hm];exact h1,h2,h3⟩
 have KD:Hid (∀ W,StAt W g M x→er≠0→Calls Tryz.prog 29 #[.pointer (some ⟨g,0,none⟩),.agg #[.int .i64 k,.int .i64 a,.int .i64 b,.int .i64 n,.string s,.string t]] W fun e w'=>∃ A c,e=.returned (.tuple #[.slice A 0 c,.int .i64 er])∧StAt w' g M x∧Frm (SF g M) W w'):=fun W hW h0=>by
  have q:=Do_any hW k a b n s t HIs.out;unfold doC at q;rw[hr,HRef.out h0] at q;exact q.mono fun e w' ⟨⟨A,c⟩,h1,h2,h3,h4⟩=>⟨A,c,h1,h3,h4⟩
 have HN:=h_ hm;clear hr hm KLg KF2 HIs;refine peelK (k':=6) fun K hK=>?_
 conv in hdC _=>whnf
 go_wp2_with (first | (go_at_call 25;refine KP.out.mono ?_;rintro e w6 ⟨A6,c6,rfl,hv,hf⟩;have V6:=h_ hv;have B6:=h_ (B5.out.frm hf id);have D6:=h_ (D5.out.nix hf);have SZ6:=h_ hf.size;have H6:=h_ (H5.out.nix hf);have Y6:Hid (Frm Nix (w.alloc (.cells #[.int .i64 k,.int .i64 a,.int .i64 b,.int .i64 n,.string s,.string t] 50)) w6):=Y5.out.trans hf;clear hv hf) | fail);clear y0 y1 y2 y3 y4 y5 KP B5 D5 H5;have ZB:Hid (Frm Nix w (w.alloc (.cells #[.int .i64 k,.int .i64 a,.int .i64 b,.int .i64 n,.string s,.string t] 50))):=(fR w).alloc _;have hbC:=HBc.out _ Y6.out;obtain⟨y0,y1,y2,y3,y4,y5⟩:=blk6 hbC;clear hbC;obtain⟨gb,hgb⟩:∃ gb,w4.heap.size=gb:=⟨_,rfl⟩;rw[hgb] at HSz B6 D6 ⊢;have HBn:Hid (∀ j,SF g M j→¬j=gb):=fun j hj e=>by have:=HLt.out j hj;have:=HSz.out.1;omega
 have HW6:Hid (w5.heap.size≤w6.heap.size):=SZ6.out;simp only[peel,bodyOf,Tryz.f8]
 by_cases h0:er=0
 ·subst h0
  clear KD HRef y0 y1 y2 y3 y4 y5;go_wp2
  go_loopw [11] (fun kv wr=>∃ (j:Nat) (z:St) (fo fe it se:Sl) (ts:List (Sl×Itm)),j≤m∧kv=.int .i64 j∧z=foldE x (lr.take j)∧StAt wr g M z∧Blk wr gb 37 #[.int .i64 z.clock,.slice fo.1 z.fols.length fo.2,.slice fe.1 z.fees.length fe.2,.slice it.1 z.itms.length it.2,.slice se.1 z.seas.length se.2,.int .i64 z.tFol,.int .i64 z.tFee,.int .i64 z.tItm,.int .i64 z.tSea]∧StIn wr (fun k=>w3.heap.size≤k∧¬k=gb) fo fe it se ts z∧Frm (fun k=>SF g M k∨k=gb) w6 wr) (fun kv _=>m - (intOf kv).toNat)
  case atStart=>exact⟨0,x,fo,fe,it,se,ts,by omega,rfl,rfl,H6.out,B6.out,D6.out,Frm.refl _ _⟩
  case round=>
   obtain⟨j,z,fo,fe,it,se,ts,hj,rfl,hz,hs,hb,hd,hf⟩:=hrel;have HZ:=h_ hz;have HS:=h_ hs;have HB:=h_ hb;have HD:=h_ hd;have HF:=h_ hf;clear hz hs hb hd hf
   by_cases hlt:j<m
   ·have hjl:j<lr.length:=by rw[HN.out];exact hlt
    obtain⟨be,off,hA,-,hbl,hcell⟩:=(V6.out.frm HF.out (fun i hi hi2=>by have:=HSz.out;rcases hi2 with hi2 | hi2;·{have:=HLt.out i hi2;omega};·omega)).at_ Ev.clen (by decide) (by omega);dsimp only at hA;subst hA;obtain⟨x0,x1,x2,x3,x4,x5,x6⟩:=evc7 (w:=wr) (b:=be) (off:=off+j * 7) (e:=lr[j]) (hcell j hjl);obtain⟨hfit,hne⟩:=moves_fold HMv.out hjl;have hie:=moves_i64 HMv.out lr[j] (List.getElem_mem hjl);have hft:=foldE_take (x:=x) hjl;obtain⟨ev,hev⟩:∃ ev,lr[j]=ev:=⟨_,rfl⟩;rw[hev] at x0 x1 x2 x3 x4 x5 x6 hfit hie hft;obtain⟨z',hz'⟩:∃ z',foldE x (lr.take (j+1))=z':=⟨_,rfl⟩;rw[hz',← HZ.out] at hne hft;rw[← HZ.out] at hfit;have HPz:Hid (StP z∧StP z'):=⟨by rw[HZ.out];exact foldE_ok _ HP.out,by rw[← hz'];exact foldE_ok _ HP.out⟩
    have KA:Hid (Calls Tryz.prog 31 #[.pointer (some ⟨g,0,none⟩),.agg #[.int .i64 ev.kind,.int .i64 ev.a,.int .i64 ev.b,.int .i64 ev.n,.string ev.s,.string ev.t,.string ev.u]] wr fun r w'=>r=.returned (.bool true)∧StAt w' g M z'∧Frm (SF g M) wr w'):=by
     have q:=Apply_any HS.out ev hie.1 hie.2;have e2:(applyS z ev).2=true:=by unfold applyS;rw[if_pos hfit]
     rw[e2,← hft] at q;exact q
    have HZ2:=h_ hz';have HNe:=h_ hne;clear hcell hev hfit hne hie hft hz'
    have KS:Hid (∀ W fo' fe' it' se' ts' G',StIn W (fun k=>w3.heap.size≤k∧¬k=gb) fo fe it se ts z→StIn W G' fo' fe' it' se' ts' z'→Calls Tryz.prog 21 #[stV fo fe it se z,.agg #[.int .i64 z'.clock,.slice fo'.1 z'.fols.length fo'.2,.slice fe'.1 z'.fees.length fe'.2,.slice it'.1 z'.itms.length it'.2,.slice se'.1 z'.seas.length se'.2,.int .i64 z'.tFol,.int .i64 z'.tFee,.int .i64 z'.tItm,.int .i64 z'.tSea]] W fun e w'=>e=.returned (.bool false)∧Frm Nix W w'):=fun W fo' fe' it' se' ts' G' h1 h2=>by
     have q:=rStSame_any h1 h2 HPz.out.1.small HPz.out.2.small;rw[decide_eq_false (fun e=>HNe.out e.symm)] at q;exact q
    go_wp2_with (first | (go_at_call 21;have _q:=H8;refine(KS.out _ _ _ _ _ _ _ (E8.out.nix ((fR _).alloc _)) (D8.out.nix ((fR _).alloc _))).mono ?_;rintro e w9 ⟨rfl,hf⟩;have hba:=(Blk.new w8 37 #[.int .i64 z'.clock,.slice fo'.1 z'.fols.length fo'.2,.slice fe'.1 z'.fees.length fe'.2,.slice it'.1 z'.itms.length it'.2,.slice se'.1 z'.seas.length se'.2,.int .i64 z'.tFol,.int .i64 z'.tFee,.int .i64 z'.tItm,.int .i64 z'.tSea]).frm hf id;obtain⟨a0,a1,a2,a3,a4,a5,a6,a7,a8⟩:=blk9 hba;have hbg:=B8.out.frm (((fR w8).alloc _).trans hf) id;obtain⟨c0,c1,c2,c3,c4,c5,c6,c7,c8⟩:=blk9 hbg;have g0:=hbg.frozen 0;have g1:=hbg.frozen 1;have g2:=hbg.frozen 2;have g3:=hbg.frozen 3;have g4:=hbg.frozen 4;have g5:=hbg.frozen 5;have g6:=hbg.frozen 6;have g7:=hbg.frozen 7;have g8:=hbg.frozen 8;have HX:=h_ (setB HBn.out ((H8.out.nix ((fR _).alloc _)).nix hf) hbg ((D8.out.nix ((fR _).alloc _)).nix hf) ((F8.out.trans (((fR _).alloc _).mono fun _ e=>e.elim)).trans (hf.mono fun _ e=>e.elim)));clear hba hbg hf) | (go_at_call 28;have _q:=H7;refine(TellA H7.out).mono ?_;rintro e w8 ⟨fo',fe',it',se',ts',rfl,hd,hf⟩;have hsz8:w3.heap.size≤w7.heap.size∧gb<w7.heap.size:=(by(have h1:=F7.out.size;have h2:=HSz.out;have h3:=HW6.out;omega));have D8:=h_ (hd.mono (G':=fun k=>w3.heap.size≤k∧¬k=gb) fun i hi=>(by(have hi2:w7.heap.size≤i:=hi;omega)));have H8:=h_ (H7.out.nix hf);have E8:=h_ (D7.out.nix hf);have B8:=h_ (B7.out.frm hf id);obtain⟨b0,b1,b2,b3,b4,b5,b6,b7,b8⟩:=blk9 B8.out;have bl:=B8.out.lt;have F8:Hid (Frm (fun k=>SF g M k∨k=gb) w6 w8):=F7.out.trans (hf.mono fun _ e=>e.elim);clear hd hf hsz8) | (go_at_call 31;refine KA.out.mono ?_;rintro r w7 ⟨rfl,hs,hf⟩;have H7:=h_ hs;have B7:=h_ (HB.out.frm hf fun e=>HBn.out gb e rfl);have D7:=h_ (HD.out.frm hf fun i hi hi2=>by(have:=HLt.out i hi2;omega));have F7:Hid (Frm (fun k=>SF g M k∨k=gb) w6 w7):=HF.out.trans (hf.mono fun _ e=>.inl e);clear hs hf) | fail);go_roundw
    case rel=>exact⟨j+1,z',fo',fe',it',se',ts',by omega,by go_num,HZ2.out.symm,HX.out⟩
    case measure=>simp[intOf];omega
   ·go_wp2
    go_ret;exact⟨rfl,(ZB.out.trans Y6.out).next HF.out fun i hi=>.inr (by have h1:=ZB.out.size;have h2:=Y3.out.size;rcases hi with hi | hi;·{have h3:=HG.out i hi;omega};·{have:=HSz.out.1;omega})⟩
 ·have hl0:=HRef.out h0
  have e0:(er !=0)=true:=bne_iff_ne.2 h0;have hm0:m=0:=by rw[← HN.out,hl0];rfl
  subst hm0;have KD2:=h_ (KD.out w6 H6.out h0);clear KD HRef h0 hl0;go_wp2_with (first | (go_at_call 29;refine KD2.out.mono ?_;rintro e w7 ⟨A7,c7,rfl,hs,hf⟩;have H7:=h_ hs;have B7:=h_ (B6.out.frm hf fun e=>HBn.out gb e rfl);have D7:=h_ (D6.out.frm hf fun i hi hi2=>by(have:=HLt.out i hi2;omega));have Z7:Hid (Frm Nix w w7):=(ZB.out.trans Y6.out).next hf (fun i hi=>.inr (by(have h1:=ZB.out.size;have h3:=HG.out i hi;omega)));clear hs hf) | fail);have HC:Hid (∀ W,Frm Nix w7 W→W.cell? ⟨gb,0,none⟩=some (.int .i64 x.clock)∧W.cell? ⟨gb,1,none⟩=some (.slice fo.1 x.fols.length fo.2)∧W.cell? ⟨gb,2,none⟩=some (.slice fe.1 x.fees.length fe.2)∧W.cell? ⟨gb,3,none⟩=some (.slice it.1 x.itms.length it.2)∧W.cell? ⟨gb,4,none⟩=some (.slice se.1 x.seas.length se.2)∧W.cell? ⟨gb,5,none⟩=some (.int .i64 x.tFol)∧W.cell? ⟨gb,6,none⟩=some (.int .i64 x.tFee)∧W.cell? ⟨gb,7,none⟩=some (.int .i64 x.tItm)∧W.cell? ⟨gb,8,none⟩=some (.int .i64 x.tSea)):=fun W hW=>blk9 (B7.out.frm hW id)
  have KT:Hid (∀ W,Frm Nix w7 W→_):=fun W hW=>TellA (H7.out.nix hW)
  have KS:Hid (∀ W fo' fe' it' se' ts' G',Frm Nix w7 W→StIn W G' fo' fe' it' se' ts' x→Calls Tryz.prog 21 #[stV fo fe it se x,.agg #[.int .i64 x.clock,.slice fo'.1 x.fols.length fo'.2,.slice fe'.1 x.fees.length fe'.2,.slice it'.1 x.itms.length it'.2,.slice se'.1 x.seas.length se'.2,.int .i64 x.tFol,.int .i64 x.tFee,.int .i64 x.tItm,.int .i64 x.tSea]] W fun e w'=>e=.returned (.bool true)∧Frm Nix W w'):=fun W fo' fe' it' se' ts' G' hW hd=>by
   have q:=rStSame_any (D7.out.nix hW) hd HP.out.small HP.out.small;rw[decide_eq_true rfl] at q;exact q
  try simp only[List.append_eq,List.cons_append,List.nil_append]
  go_region_held3 (fun W=>W.cell? ⟨gb,0,none⟩=some (.int .i64 x.clock)∧W.cell? ⟨gb,1,none⟩=some (.slice fo.1 x.fols.length fo.2)∧W.cell? ⟨gb,2,none⟩=some (.slice fe.1 x.fees.length fe.2)∧W.cell? ⟨gb,3,none⟩=some (.slice it.1 x.itms.length it.2)∧W.cell? ⟨gb,4,none⟩=some (.slice se.1 x.seas.length se.2)∧W.cell? ⟨gb,5,none⟩=some (.int .i64 x.tFol)∧W.cell? ⟨gb,6,none⟩=some (.int .i64 x.tFee)∧W.cell? ⟨gb,7,none⟩=some (.int .i64 x.tItm)∧W.cell? ⟨gb,8,none⟩=some (.int .i64 x.tSea)) ((refine HC.out _ ?_;repeat' (first | with_reducible exact Frm.refl _ _ | with_reducible exact Y9.out | with_reducible exact Y8.out | with_reducible apply Frm.drew)))
   (first
    | (go_at_call 21;have _q:=Y8;refine(KS.out _ _ _ _ _ _ _ Y8.out E8.out).mono ?_;rintro e w9 ⟨rfl,hf⟩;have Y9:Hid (Frm Nix w7 w9):=Y8.out.trans hf;clear hf)
    | (go_at_call 28;refine(KT.out _ (fR _).drew).mono ?_;rintro e w8 ⟨fo',fe',it',se',ts',rfl,hd,hf⟩;have E8:=h_ hd;have Y8:Hid (Frm Nix w7 w8):=(fR _).drew.trans hf;clear hd hf))
  all_goals
   go_wp2;go_ret;exact⟨rfl,Z7.out.trans Y9.out⟩
end Go.Proofs.YtdihmpakglakdaaGreat
