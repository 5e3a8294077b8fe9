/-
  Contracts: the document's Bare; CmdUndoes' walk.
-/
import Derived.Test.YtdihmpakglakdaaGreatGa45
import Derived.Test.YtdihmpakglakdaaGreatGa49
import Derived.Deep.RegionHeld3
set_option linter.unusedVariables false
set_option linter.unusedSimpArgs false
set_option maxRecDepth 100000
set_option maxHeartbeats 16000000
namespace Go.Proofs.YtdihmpakglakdaaGreat
open Go.RowKit Go.Lib
theorem Bare_ret{W:World}{g:Nat}{tmps:Array Value}{a0 a1 a2 a3 a4 a5 a6 a7 a8:Value}(hb:Blk W g 37 #[a0,a1,a2,a3,a4,a5,a6,a7,a8])(h2:tmps.getD 2 undef=.pointer (some ⟨g,0,none⟩)):
  (results Tryz.f33 tmps).run Tryz.prog W=.ok (.agg #[a0,a1,a2,a3,a4,a5,a6,a7,a8]) W:=by
 obtain⟨c0,c1,c2,c3,c4,c5,c6,c7,c8⟩:=blk9 hb;have h2':tmps[2]?.getD undef=.pointer (some ⟨g,0,none⟩):=by simpa using h2
 simp[results,Tryz.results33,h2',go_sem,c0,c1,c2,c3,c4,c5,c6,c7,c8]
theorem Bare_any(w:World)(fo fe it se:Sl)(x:St):Calls Tryz.prog 33 (#[.agg #[.int .i64 x.clock,.slice fo.1 x.fols.length fo.2,.slice fe.1 x.fees.length fe.2,.slice it.1 x.itms.length it.2,.slice se.1 x.seas.length se.2,.int .i64 x.tFol,.int .i64 x.tFee,.int .i64 x.tItm,.int .i64 x.tSea]]) w fun e w'=>e=.returned (.agg #[.int .i64 x.clock,.slice fo.1 x.fols.length fo.2,.slice fe.1 x.fees.length fe.2,.slice it.1 x.itms.length it.2,.slice se.1 x.seas.length se.2,.int .i64 0,.int .i64 0,.int .i64 0,.int .i64 0])∧Frm Nix w w':=by
 have hb:Blk ((w.alloc (.cells #[.int .i64 x.clock,.slice fo.1 x.fols.length fo.2,.slice fe.1 x.fees.length fe.2,.slice it.1 x.itms.length it.2,.slice se.1 x.seas.length se.2,.int .i64 0,.int .i64 0,.int .i64 0,.int .i64 0] 37)).alloc (.cells #[.int .i64 x.clock,.slice fo.1 x.fols.length fo.2,.slice fe.1 x.fees.length fe.2,.slice it.1 x.itms.length it.2,.slice se.1 x.seas.length se.2,.int .i64 0,.int .i64 0,.int .i64 0,.int .i64 0] 37)) (w.heap.size+1) 37 #[.int .i64 x.clock,.slice fo.1 x.fols.length fo.2,.slice fe.1 x.fees.length fe.2,.slice it.1 x.itms.length it.2,.slice se.1 x.seas.length se.2,.int .i64 0,.int .i64 0,.int .i64 0,.int .i64 0]:=by
  have q:=Blk.new (w.alloc (.cells #[.int .i64 x.clock,.slice fo.1 x.fols.length fo.2,.slice fe.1 x.fees.length fe.2,.slice it.1 x.itms.length it.2,.slice se.1 x.seas.length se.2,.int .i64 0,.int .i64 0,.int .i64 0,.int .i64 0] 37)) 37 #[.int .i64 x.clock,.slice fo.1 x.fols.length fo.2,.slice fe.1 x.fees.length fe.2,.slice it.1 x.itms.length it.2,.slice se.1 x.seas.length se.2,.int .i64 0,.int .i64 0,.int .i64 0,.int .i64 0];rw[show (w.alloc (.cells #[.int .i64 x.clock,.slice fo.1 x.fols.length fo.2,.slice fe.1 x.fees.length fe.2,.slice it.1 x.itms.length it.2,.slice se.1 x.seas.length se.2,.int .i64 0,.int .i64 0,.int .i64 0,.int .i64 0] 37)).heap.size=w.heap.size+1 by simp] at q;exact q
 go_enter Tryz.func33,Tryz.ntmps33;go_wp2;refine bodyPost_ret (Bare_ret hb rfl) rfl ?_;exact⟨rfl,((fR w).alloc _).alloc _⟩
theorem bare_in{w:World}{G:Nat→Prop}{fo fe it se:Sl}{ts:List (Sl×Itm)}{x:St}(h:StIn w G fo fe it se ts x):StIn w G fo fe it se ts (bareS x):=⟨h.fols,h.fees,h.itms,h.same,h.seas⟩
theorem bare_small{x:St}(h:StSmall x):StSmall (bareS x):=⟨h.1,h.2,h.3,h.4,h.5⟩
theorem leads_all:∀ {l:List Ev} {y z:St},Leads y l z→foldE y l=z∧∀ j (hj:j<l.length),fits (foldE y (l.take j)) l[j]=true
 | [],y,z,h=>⟨h,fun j hj=>absurd hj (by simp)⟩
 | e::l,y,z,h=>by
   obtain⟨h1,h2⟩:=h;obtain⟨q1,q2⟩:=leads_all h2;have e1:(applyS y e).1=doS y e:=ap_fit h1;refine⟨?_,fun j hj=>?_⟩
   ·show foldE (applyS y e).1 l=z
    rw[e1];exact q1
   ·cases j with
    | zero=>exact h1
    | succ j=>
      have hj2:j<l.length:=by simpa using hj
      show fits (foldE (applyS y e).1 (l.take j)) (l[j]'hj2)=true
      rw[e1];exact q2 j hj2
theorem undoes_walk{w:World}{G:Nat→Prop}{v:Sl}{l:List Ev}(hl:EvsIn w G v l)(k a b n:Int)(s t:ByteArray)(ha:I64 a)(hb:I64 b)(hn:I64 n):
  Calls Tryz.prog 9 #[.slice v.1 l.length v.2,.agg #[.int .i64 k,.int .i64 a,.int .i64 b,.int .i64 n,.string s,.string t]] w fun e w'=>e=.returned (.bool true)∧Frm Nix w w':=by
 obtain⟨Av,cv⟩:=v;dsimp only;obtain⟨lc,hlc⟩:∃ lc,largeC l [⟨k,a,b,n,s,t⟩]=lc:=⟨_,rfl⟩
 have KLg:Hid (Calls Tryz.prog 22 #[.slice Av l.length cv,.slice (some ⟨w.heap.size+1,0,none⟩) 1 1] ((w.alloc (.cells #[.int .i64 k,.int .i64 a,.int .i64 b,.int .i64 n,.string s,.string t] 50)).alloc (.cells #[.int .i64 k,.int .i64 a,.int .i64 b,.int .i64 n,.string s,.string t] 50)) fun e w'=>e=.returned (.bool lc)∧Frm Nix (w.alloc (.cells #[.int .i64 k,.int .i64 a,.int .i64 b,.int .i64 n,.string s,.string t] 50)) w'):=by
  have q:=large1_any (hl.nix ((fR w).alloc (.cells #[.int .i64 k,.int .i64 a,.int .i64 b,.int .i64 n,.string s,.string t] 50))) (fR _) k a b n s t;rw[hlc,show (w.alloc (.cells #[.int .i64 k,.int .i64 a,.int .i64 b,.int .i64 n,.string s,.string t] 50)).heap.size=w.heap.size+1 by simp] at q;exact q
 have KF:Hid (∀ W,Frm Nix w W→largeEvs l=false→Calls Tryz.prog 24 #[.slice Av l.length cv] W fun e w'=>∃ g M,e=.returned (.pointer (some ⟨g,0,none⟩))∧StAt w' g M (foldE st0 l)∧Frm Nix W w'∧∀ k,SF g M k→W.heap.size≤k):=fun W hW=>(hl.nix hW).fold
 have HBc:Hid (∀ W,Frm Nix (w.alloc (.cells #[.int .i64 k,.int .i64 a,.int .i64 b,.int .i64 n,.string s,.string t] 50)) W→Blk W w.heap.size 50 #[.int .i64 k,.int .i64 a,.int .i64 b,.int .i64 n,.string s,.string t]):=fun W hW=>(Blk.new w 50 #[.int .i64 k,.int .i64 a,.int .i64 b,.int .i64 n,.string s,.string t]).frm hW id
 clear hl
 cases lc with
 | true=>
   generalize l.length=n1 at *;clear hlc KF HBc;go_enter Tryz.func9,Tryz.ntmps9;go_wp2_with (first | (go_at_call 23;have _q:=Z1;refine(lives22_any _).mono ?_;rintro e w2 ⟨rfl,hf⟩;have Z2:Hid (Frm Nix w w2):=Z1.out.trans hf;clear hf) | (go_at_call 22;refine KLg.out.mono ?_;rintro e w1 ⟨rfl,hf⟩;have Y1:=h_ hf;have Z1:Hid (Frm Nix w w1):=((fR w).alloc _).trans hf;clear hf) | fail);go_ret
   exact⟨rfl,Z2.out⟩
 | false=>
 obtain⟨h1,h2,h3⟩:=largeC_no hlc;have KF2:=h_ (fun W hW=>KF.out W hW h1);have HIs:Hid (CmIs ⟨k,a,b,n,s,t⟩):=⟨ha,hb,hn,by dsimp only at h2 ⊢;omega,by dsimp only at h3 ⊢;omega⟩;obtain⟨x,hx⟩:∃ x,foldE st0 l=x:=⟨_,rfl⟩;have HP:Hid (StP x):=by rw[← hx];exact foldE_ok l st0_ok
 rw[hx] at KF2;generalize l.length=n1 at *;clear hlc h1 h2 h3 hx KF ha hb hn;go_enter Tryz.func9,Tryz.ntmps9;show Code.wp Tryz.prog (peel 0 (bodyOf Tryz.f9)) _ _ _
 refine peelK (k':=1) fun K hK=>?_
 conv in hdC _=>whnf
 go_wp2;refine peelK (k':=2) fun K hK=>?_
 conv in hdC _=>whnf
 go_wp2_with (first | (go_at_call 22;refine KLg.out.mono ?_;rintro e w1 ⟨rfl,hf⟩;have Y1:=h_ hf;have Z1:Hid (Frm Nix w w1):=((fR w).alloc _).trans hf;clear hf) | fail);refine peelK (k':=3) fun K hK=>?_
 conv in hdC _=>whnf
 go_wp2_with (first | (go_at_call 24;refine(KF2.out _ Z1.out).mono ?_;rintro e w2 ⟨g,M,rfl,hs,hf,hg⟩;have HG:Hid (∀ j,SF g M j→(w.alloc (.cells #[.int .i64 k,.int .i64 a,.int .i64 b,.int .i64 n,.string s,.string t] 50)).heap.size≤j):=(fun j hj=>Nat.le_trans Y1.out.size (hg j hj));have H2:=h_ hs;have Y2:Hid (Frm Nix (w.alloc (.cells #[.int .i64 k,.int .i64 a,.int .i64 b,.int .i64 n,.string s,.string t] 50)) w2):=Y1.out.trans hf;clear hs hf hg) | fail);refine peelK (k':=4) fun K hK=>?_
 conv in hdC _=>whnf
 go_wp2_with (first | (go_at_call 23;refine(lives22_any _).mono ?_;rintro e w3 ⟨rfl,hf⟩;have H3:=h_ (H2.out.nix hf);have Y3:Hid (Frm Nix (w.alloc (.cells #[.int .i64 k,.int .i64 a,.int .i64 b,.int .i64 n,.string s,.string t] 50)) w3):=Y2.out.trans hf;clear hf) | fail);have hbC:=HBc.out _ Y3.out;obtain⟨y0,y1,y2,y3,y4,y5⟩:=blk6 hbC;clear hbC;refine peelK (k':=5) fun K hK=>?_
 conv in hdC _=>whnf
 go_wp2_with (first | (go_at_call 28;refine(TellA H3.out).mono ?_;rintro e w4 ⟨fo,fe,it,se,ts,rfl,hd,hf⟩;have D4:=h_ hd.cOld;have Y4:=h_ hf;clear hd hf) | fail);obtain⟨w5,hw5,hf5,hb5⟩:=cBox_st w4 fo fe it se x;rw[← hw5];have B5:=h_ hb5;have D5:=h_ (D4.out.nix hf5);have H5:=h_ (H3.out.nix (Y4.out.trans hf5));have Y5:Hid (Frm Nix (w.alloc (.cells #[.int .i64 k,.int .i64 a,.int .i64 b,.int .i64 n,.string s,.string t] 50)) w5):=Y3.out.trans (Y4.out.trans hf5);have HLt:Hid (∀ j,SF g M j→j<w3.heap.size):=H3.out.lt;have HSz:Hid (w3.heap.size≤w4.heap.size∧w5.heap.size=w4.heap.size+1):=⟨Y4.out.size,by rw[hw5];simp⟩;clear hw5 hf5 hb5 D4 y0 y1 y2 y3 y4 y5;have hbC:=HBc.out _ Y5.out;obtain⟨y0,y1,y2,y3,y4,y5⟩:=blk6 hbC;clear hbC;obtain⟨y,hy⟩:∃ y,doC shortS tagS x ⟨k,a,b,n,s,t⟩=y:=⟨_,rfl⟩;obtain⟨er,her⟩:∃ er,(planP shortS tagS x ⟨k,a,b,n,s,t⟩).2=er:=⟨_,rfl⟩;obtain⟨U,hU⟩:∃ U,(undoP x ⟨k,a,b,n,s,t⟩).1=U:=⟨_,rfl⟩;obtain⟨ok,hok⟩:∃ ok,(undoP x ⟨k,a,b,n,s,t⟩).2=ok:=⟨_,rfl⟩;obtain⟨m,hm⟩:∃ m,U.length=m:=⟨_,rfl⟩
 have HOk:Hid (er=0→k≠14→ok=true∧∃ z,Leads y U z∧bareS z=bareS x):=fun h0 h14=>by
  have h0':=her.trans h0;have q:=plan_undo (tg:=tagS) short_ok HP.out ⟨k,a,b,n,s,t⟩ h14 h0';have e1:undoP x ⟨k,a,b,n,s,t⟩=((planP shortS tagS x ⟨k,a,b,n,s,t⟩).1.flatMap (backP x),true):=by unfold undoP;rw[if_pos ⟨h0',h14⟩]
  refine⟨by rw[← hok,e1],?_⟩;rw[← hU,e1,← hy];exact q
 have HNo:Hid (¬(er=0∧k≠14)→ok=false∧U=[]):=fun hn=>by
  have e1:undoP x ⟨k,a,b,n,s,t⟩=([],false):=by unfold undoP;rw[her,if_neg hn]
  exact⟨by rw[← hok,e1],by rw[← hU,e1]⟩
 have KU:Hid (Calls Tryz.prog 32 #[.pointer (some ⟨g,0,none⟩),.agg #[.int .i64 k,.int .i64 a,.int .i64 b,.int .i64 n,.string s,.string t]] w5 fun e w'=>∃ A c,e=.returned (.tuple #[.slice A m c,.bool ok])∧SlIn w' (fun k=>w5.heap.size≤k) 7 (A,c) U.length (U.flatMap Ev.cells)∧Frm Nix w5 w'):=by
  have q:=Undo_any H5.out k a b n s t HIs.out;rw[hU,hok] at q;exact q.mono fun e w' ⟨⟨A,c⟩,h1,h2,h3⟩=>⟨A,c,by rw[← hm];exact h1,h2,h3⟩
 have KD:Hid (∀ W,StAt W g M x→Calls Tryz.prog 29 #[.pointer (some ⟨g,0,none⟩),.agg #[.int .i64 k,.int .i64 a,.int .i64 b,.int .i64 n,.string s,.string t]] W fun e w'=>∃ A n c,e=.returned (.tuple #[.slice A n c,.int .i64 er])∧StAt w' g M y∧Frm (SF g M) W w'):=fun W hW=>by
  have q:=Do_any hW k a b n s t HIs.out;rw[her,hy] at q;exact q.mono fun e w' ⟨⟨A,c⟩,h1,h2,h3,h4⟩=>⟨A,_,c,h1,h3,h4⟩
 have HPy:Hid (StP y):=by rw[← hy];exact doC_ok _ _ HP.out _
 have HN:=h_ hm
 have hm64:m≤1000000000:=by
  have q:=backs_len HP.out (planP shortS tagS x ⟨k,a,b,n,s,t⟩).1;have q2:=plan_len HP.out ⟨k,a,b,n,s,t⟩;rw[← hm,← hU];unfold undoP;split
  ·simp only;omega
  ·simp
 clear hy her hU hok hm KLg KF2 HIs;refine peelK (k':=6) fun K hK=>?_
 conv in hdC _=>whnf
 go_wp2_with (first | (go_at_call 32;refine KU.out.mono ?_;rintro e w6 ⟨A6,c6,rfl,hv,hf⟩;have V6:=h_ hv;have SZ6:=h_ hf.size;have B6:=h_ (B5.out.frm hf id);have D6:=h_ (D5.out.nix hf);have H6:=h_ (H5.out.nix hf);have Y6:Hid (Frm Nix (w.alloc (.cells #[.int .i64 k,.int .i64 a,.int .i64 b,.int .i64 n,.string s,.string t] 50)) w6):=Y5.out.trans hf;clear hv hf) | fail);clear y0 y1 y2 y3 y4 y5 KU B5 D5 H5;have ZB:Hid (Frm Nix w (w.alloc (.cells #[.int .i64 k,.int .i64 a,.int .i64 b,.int .i64 n,.string s,.string t] 50))):=(fR w).alloc _;obtain⟨gb,hgb⟩:∃ gb,w4.heap.size=gb:=⟨_,rfl⟩;rw[hgb] at HSz B6 D6 ⊢;have HBn:Hid (∀ j,SF g M j→¬j=gb):=fun j hj e=>by have:=HLt.out j hj;have:=HSz.out.1;omega
 have HC:Hid (∀ W,Frm Nix w6 W→W.cell? ⟨gb,0,none⟩=some (.int .i64 x.clock)∧W.cell? ⟨gb,1,none⟩=some (.slice fo.1 x.fols.length fo.2)∧W.cell? ⟨gb,2,none⟩=some (.slice fe.1 x.fees.length fe.2)∧W.cell? ⟨gb,3,none⟩=some (.slice it.1 x.itms.length it.2)∧W.cell? ⟨gb,4,none⟩=some (.slice se.1 x.seas.length se.2)∧W.cell? ⟨gb,5,none⟩=some (.int .i64 x.tFol)∧W.cell? ⟨gb,6,none⟩=some (.int .i64 x.tFee)∧W.cell? ⟨gb,7,none⟩=some (.int .i64 x.tItm)∧W.cell? ⟨gb,8,none⟩=some (.int .i64 x.tSea)):=fun W hW=>blk9 (B6.out.frm hW id)
 have KT:Hid (∀ W,Frm Nix w6 W→Calls Tryz.prog 28 #[.pointer (some ⟨g,0,none⟩)] W fun e w'=>∃ fo fe it se:Sl,∃ ts:List (Sl×Itm),e=.returned (.agg #[.int .i64 x.clock,.slice fo.1 x.fols.length fo.2,.slice fe.1 x.fees.length fe.2,.slice it.1 x.itms.length it.2,.slice se.1 x.seas.length se.2,.int .i64 x.tFol,.int .i64 x.tFee,.int .i64 x.tItm,.int .i64 x.tSea])∧StIn w' (fun k=>W.heap.size≤k) fo fe it se ts x∧Frm Nix W w'):=fun W hW=>TellA (H6.out.nix hW)
 have KS:Hid (∀ W fo' fe' it' se' ts' G',Frm Nix w6 W→StIn W G' fo' fe' it' se' ts' x→Calls Tryz.prog 21 #[stV fo fe it se x,.agg #[.int .i64 x.clock,.slice fo'.1 x.fols.length fo'.2,.slice fe'.1 x.fees.length fe'.2,.slice it'.1 x.itms.length it'.2,.slice se'.1 x.seas.length se'.2,.int .i64 x.tFol,.int .i64 x.tFee,.int .i64 x.tItm,.int .i64 x.tSea]] W fun e w'=>e=.returned (.bool true)∧Frm Nix W w'):=fun W fo' fe' it' se' ts' G' hW hd=>by
  have q:=rStSame_any (D6.out.nix hW) hd HP.out.small HP.out.small;rw[decide_eq_true rfl] at q;exact q
 simp only[peel,bodyOf,Tryz.f9];go_wp2
 try simp only[List.append_eq,List.cons_append,List.nil_append]
 go_region_held3 (fun W=>W.cell? ⟨gb,0,none⟩=some (.int .i64 x.clock)∧W.cell? ⟨gb,1,none⟩=some (.slice fo.1 x.fols.length fo.2)∧W.cell? ⟨gb,2,none⟩=some (.slice fe.1 x.fees.length fe.2)∧W.cell? ⟨gb,3,none⟩=some (.slice it.1 x.itms.length it.2)∧W.cell? ⟨gb,4,none⟩=some (.slice se.1 x.seas.length se.2)∧W.cell? ⟨gb,5,none⟩=some (.int .i64 x.tFol)∧W.cell? ⟨gb,6,none⟩=some (.int .i64 x.tFee)∧W.cell? ⟨gb,7,none⟩=some (.int .i64 x.tItm)∧W.cell? ⟨gb,8,none⟩=some (.int .i64 x.tSea)) ((refine HC.out _ ?_;repeat' (first | with_reducible exact Frm.refl _ _ | with_reducible exact X9.out | with_reducible exact X8.out | with_reducible apply Frm.drew)))
  (first
   | (go_at_call 21;have _q:=X8;refine(KS.out _ _ _ _ _ _ _ X8.out E8.out).mono ?_;rintro e w9 ⟨rfl,hf⟩;have X9:Hid (Frm Nix w6 w9):=X8.out.trans hf;clear hf)
   | (go_at_call 28;refine(KT.out _ (fR _).drew).mono ?_;rintro e w8 ⟨fo',fe',it',se',ts',rfl,hd,hf⟩;have E8:=h_ hd;have X8:Hid (Frm Nix w6 w8):=(fR _).drew.trans hf;clear hd hf))
 all_goals
  clear KT KS HC;have hbC:=HBc.out _ (Y6.out.trans X9.out);obtain⟨y0,y1,y2,y3,y4,y5⟩:=blk6 hbC;clear hbC;have B9:=h_ (B6.out.frm X9.out id);have D9:=h_ (D6.out.nix X9.out);have V9:=h_ (V6.out.nix X9.out);have KD9:=h_ (KD.out w9 (H6.out.nix X9.out));have SZ9:Hid (w6.heap.size≤w9.heap.size):=X9.out.size;clear KD
  by_cases h0:er=0
  ·by_cases h14:k=14
   ·obtain⟨hok,hU⟩:=HNo.out (fun h=>h.2 h14)
    have hm0:m=0:=by rw[← HN.out,hU];rfl
    subst h0;subst h14;subst hok;subst hm0;clear HOk HNo hU;go_wp2_with (first | (go_at_call 29;refine KD9.out.mono ?_;rintro e wa ⟨Aa,na,ca,rfl,hs,hf⟩;have HA:=h_ hs;have ZA:Hid (Frm (SF g M) w9 wa):=hf;have BA:=h_ (B9.out.frm hf fun e=>HBn.out gb e rfl);have DA:=h_ (D9.out.frm hf fun i hi hi2=>by(have:=HLt.out i hi2;omega));have VA:=h_ (V9.out.frm hf fun i hi hi2=>by(have h1:=HLt.out i hi2;have h2:=HSz.out;omega));have hbC:=(HBc.out _ (Y6.out.trans X9.out)).frm hf (fun hj=>by(have h1:=HG.out _ hj;simp at h1;omega));obtain⟨y0,y1,y2,y3,y4,y5⟩:=blk6 hbC;clear hbC hs hf) | fail)
    go_loopw [11] (fun kv wr=>kv=.int .i64 0∧Frm (SF g M) wa wr) (fun kv _=>0)
    case atStart=>exact⟨rfl,Frm.refl _ _⟩
    case round=>
     obtain⟨rfl,hf⟩:=hrel;have HF:=h_ hf;clear hf;go_wp2;go_ret;exact⟨rfl,(ZB.out.trans (Y6.out.trans X9.out)).next (ZA.out.trans HF.out) fun i hi=>.inr (by(have h1:=HG.out i hi;have h2:=ZB.out.size;omega))⟩
   ·obtain⟨hok,zf,hlead,hbare⟩:=HOk.out h0 h14
    obtain⟨hfold,hfits⟩:=leads_all hlead;have HFo:=h_ hfold;have HFi:=h_ hfits;have HBa:=h_ hbare;have e14:(k !=14)=true:=bne_iff_ne.2 h14;subst h0;subst hok;clear HOk HNo hlead hfold hfits hbare h14;go_wp2_with (first | (go_at_call 29;refine KD9.out.mono ?_;rintro e wa ⟨Aa,na,ca,rfl,hs,hf⟩;have HA:=h_ hs;have ZA:Hid (Frm (SF g M) w9 wa):=hf;have BA:=h_ (B9.out.frm hf fun e=>HBn.out gb e rfl);have DA:=h_ (D9.out.frm hf fun i hi hi2=>by(have:=HLt.out i hi2;omega));have VA:=h_ (V9.out.frm hf fun i hi hi2=>by(have h1:=HLt.out i hi2;have h2:=HSz.out;omega));have hbC:=(HBc.out _ (Y6.out.trans X9.out)).frm hf (fun hj=>by(have h1:=HG.out _ hj;simp at h1;omega));obtain⟨y0,y1,y2,y3,y4,y5⟩:=blk6 hbC;clear hbC hs hf) | fail)
    go_loopw [11] (fun kv wr=>∃ (j:Nat) (z:St),j≤m∧kv=.int .i64 j∧z=foldE y (U.take j)∧StAt wr g M z∧Frm (SF g M) wa wr) (fun kv _=>m - (intOf kv).toNat)
    case atStart=>exact⟨0,y,by omega,rfl,rfl,HA.out,Frm.refl _ _⟩
    case round=>
     obtain⟨j,z,hj,rfl,hz,hs,hf⟩:=hrel;have HZ:=h_ hz;have HS:=h_ hs;have HF:=h_ hf;clear hz hs hf
     by_cases hlt:j<m
     ·have hjl:j<U.length:=by rw[HN.out];exact hlt
      obtain⟨be,off,hA,-,hbl,hcell⟩:=(VA.out.frm HF.out (fun i hi hi2=>by have h1:=HLt.out i hi2;have h2:=HSz.out;omega)).at_ Ev.clen (by decide) (by omega);dsimp only at hA;subst hA;obtain⟨x0,x1,x2,x3,x4,x5,x6⟩:=evc7 (w:=wr) (b:=be) (off:=off+j * 7) (e:=U[j]) (hcell j hjl);have hfit:=HFi.out j hjl;have hie:=ev_i64 (fits_ev hfit);have hft:=foldE_take (x:=y) hjl;obtain⟨ev,hev⟩:∃ ev,U[j]=ev:=⟨_,rfl⟩;rw[hev] at x0 x1 x2 x3 x4 x5 x6 hfit hie hft;obtain⟨z',hz'⟩:∃ z',foldE y (U.take (j+1))=z':=⟨_,rfl⟩;rw[hz',← HZ.out] at hft;rw[← HZ.out] at hfit
      have KA:Hid (Calls Tryz.prog 31 #[.pointer (some ⟨g,0,none⟩),.agg #[.int .i64 ev.kind,.int .i64 ev.a,.int .i64 ev.b,.int .i64 ev.n,.string ev.s,.string ev.t,.string ev.u]] wr fun r w'=>r=.returned (.bool true)∧StAt w' g M z'∧Frm (SF g M) wr w'):=by
       have q:=Apply_any HS.out ev hie.1 hie.2;have e2:(applyS z ev).2=true:=by unfold applyS;rw[if_pos hfit]
       rw[e2,← hft] at q;exact q
      have HZ2:=h_ hz';clear hcell hev hfit hie hft hz';go_wp2_with (first | (go_at_call 31;refine KA.out.mono ?_;rintro r wn ⟨rfl,hs,hf⟩;have HX:Hid (StAt wn g M z'∧Frm (SF g M) wa wn):=⟨hs,HF.out.trans hf⟩;clear hs hf) | fail);go_roundw
      case rel=>exact⟨j+1,z',by omega,by go_num,HZ2.out.symm,HX.out⟩
      case measure=>simp[intOf];omega
     ·obtain rfl:j=m:=by omega
      have hzf:z=zf:=by rw[HZ.out,List.take_of_length_le (by rw[HN.out];exact Nat.le_refl _),HFo.out]
      have HPz:Hid (StP z):=by rw[HZ.out];exact foldE_ok _ HPy.out
      have BR:=h_ (BA.out.frm HF.out fun e=>HBn.out gb e rfl);have DR:=h_ (DA.out.frm HF.out fun i hi hi2=>by have:=HLt.out i hi2;omega);obtain⟨x0,x1,x2,x3,x4,x5,x6,x7,x8⟩:=blk9 BR.out;have KB:Hid (∀ W (fo fe it se:Sl) (x:St),Calls Tryz.prog 33 (#[.agg #[.int .i64 x.clock,.slice fo.1 x.fols.length fo.2,.slice fe.1 x.fees.length fe.2,.slice it.1 x.itms.length it.2,.slice se.1 x.seas.length se.2,.int .i64 x.tFol,.int .i64 x.tFee,.int .i64 x.tItm,.int .i64 x.tSea]]) W fun e w'=>e=.returned (.agg #[.int .i64 x.clock,.slice fo.1 x.fols.length fo.2,.slice fe.1 x.fees.length fe.2,.slice it.1 x.itms.length it.2,.slice se.1 x.seas.length se.2,.int .i64 0,.int .i64 0,.int .i64 0,.int .i64 0])∧Frm Nix W w'):=fun W fo fe it se x=>Bare_any W fo fe it se x
      have KS:Hid (∀ W (fo' fe' it' se':Sl) ts' G',Frm Nix wr W→StIn W G' fo' fe' it' se' ts' z→Calls Tryz.prog 21 #[.agg #[.int .i64 x.clock,.slice fo.1 x.fols.length fo.2,.slice fe.1 x.fees.length fe.2,.slice it.1 x.itms.length it.2,.slice se.1 x.seas.length se.2,.int .i64 0,.int .i64 0,.int .i64 0,.int .i64 0],.agg #[.int .i64 z.clock,.slice fo'.1 z.fols.length fo'.2,.slice fe'.1 z.fees.length fe'.2,.slice it'.1 z.itms.length it'.2,.slice se'.1 z.seas.length se'.2,.int .i64 0,.int .i64 0,.int .i64 0,.int .i64 0]] W fun e w'=>e=.returned (.bool true)∧Frm Nix W w'):=fun W fo' fe' it' se' ts' G' hW hd=>by
       have q:=rStSame_any (bare_in (DR.out.nix hW)) (bare_in hd) (bare_small HP.out.small) (bare_small HPz.out.small);rw[decide_eq_true (by rw[hzf];exact HBa.out.symm)] at q;exact q
      clear hzf
      go_wp2_with (first
       | (go_at_call 21;have _q:=N3;refine(KS.out _ _ _ _ _ _ _ N3.out E3.out).mono ?_;rintro e q4 ⟨rfl,hf⟩;have N4:Hid (Frm Nix wr q4):=N3.out.trans hf;clear hf)
       | (go_at_call 33;have _q:=N2;refine(KB.out _ _ _ _ _ _).mono ?_;rintro e q3 ⟨rfl,hf⟩;have N3:Hid (Frm Nix wr q3):=N2.out.trans hf;have E3:=h_ (E2.out.nix hf);clear hf)
       | (go_at_call 28;have _q:=N1;refine(TellA (HS.out.nix N1.out)).mono ?_;rintro e q2 ⟨fo',fe',it',se',ts',rfl,hd,hf⟩;have E2:=h_ hd;have N2:Hid (Frm Nix wr q2):=N1.out.trans hf;clear hd hf)
       | (go_at_call 33;refine(KB.out _ _ _ _ _ _).mono ?_;rintro e q1 ⟨rfl,hf⟩;have N1:Hid (Frm Nix wr q1):=hf;clear hf)
       | fail)
      go_ret;exact⟨rfl,(ZB.out.trans (Y6.out.trans X9.out)).next ((ZA.out.trans HF.out).trans (N4.out.mono fun _ e=>e.elim)) fun i hi=>.inr (by(have h1:=HG.out i hi;have h2:=ZB.out.size;omega))⟩
  ·obtain⟨hok,hU⟩:=HNo.out (fun h=>h0 h.1)
   have hm0:m=0:=by rw[← HN.out,hU];rfl
   have e0:(er==0)=false:=beq_eq_false_iff_ne.2 h0;subst hok;subst hm0;clear HOk HNo hU h0;go_wp2_with (first | (go_at_call 29;refine KD9.out.mono ?_;rintro e wa ⟨Aa,na,ca,rfl,hs,hf⟩;have HA:=h_ hs;have ZA:Hid (Frm (SF g M) w9 wa):=hf;have BA:=h_ (B9.out.frm hf fun e=>HBn.out gb e rfl);have DA:=h_ (D9.out.frm hf fun i hi hi2=>by(have:=HLt.out i hi2;omega));have VA:=h_ (V9.out.frm hf fun i hi hi2=>by(have h1:=HLt.out i hi2;have h2:=HSz.out;omega));have hbC:=(HBc.out _ (Y6.out.trans X9.out)).frm hf (fun hj=>by(have h1:=HG.out _ hj;simp at h1;omega));obtain⟨y0,y1,y2,y3,y4,y5⟩:=blk6 hbC;clear hbC hs hf) | fail)
   go_loopw [11] (fun kv wr=>kv=.int .i64 0∧Frm (SF g M) wa wr) (fun kv _=>0)
   case atStart=>exact⟨rfl,Frm.refl _ _⟩
   case round=>
    obtain⟨rfl,hf⟩:=hrel;have HF:=h_ hf;clear hf;go_wp2;go_ret;exact⟨rfl,(ZB.out.trans (Y6.out.trans X9.out)).next (ZA.out.trans HF.out) fun i hi=>.inr (by(have h1:=HG.out i hi;have h2:=ZB.out.size;omega))⟩
end Go.Proofs.YtdihmpakglakdaaGreat
