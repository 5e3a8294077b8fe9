/- Words. -/
import Derived.Test.YtaecjmiobllhmaaGreatGq35
import Derived.Test.YtaecjmiobllhmaaGreatGq36
import Derived.Test.YtaecjmiobllhmaaGreatGq97
set_option linter.unusedVariables false
set_option linter.unusedSimpArgs false
set_option maxRecDepth 100000
set_option maxHeartbeats 16000000
namespace Go.Proofs.YtaecjmiobllhmaaGreat
open Go.Value renaming int→I,string→V,slice→U,pointer→O
open Go.IntKind renaming i64→J
open Tryz renaming prog→pQ
open Go.RowKit Go.Lib
theorem Q3{w:World}{g:Nat}{M:Ms}{x:St}(h:aw w g M x):Calls pQ 23 #[O (some ⟨g,0,none⟩)] w λe w'=>∃fo fe it se:Sl,∃ts:List (Sl×aJ),e=.returned (.agg #[I J x.clock,U fo.1 x.fols.length fo.2,U fe.1 x.fees.length fe.2,U it.1 x.itms.length it.2,U se.1 x.seas.length se.2,I J x.tFol,I J x.tFee,I J x.tItm,I J x.tSea])∧aM w' (λk=>w.heap.size≤k) fo fe it se ts x∧aa ac w w':=wD h
theorem EG{w:World}{G:Nat→Prop}{v:Sl}{l:List Ev}(hl:nd w G v l)(k a b n:Int)(s t:ByteArray)(ha:bj a)(hb:bj b)(hn:bj n):
  Calls pQ 5 #[U v.1 l.length v.2,.agg #[I J k,I J a,I J b,I J n,V s,V t]] w λe w'=>e=.returned (.bool true)∧aa ac w w':=by
 obtain⟨Av,cv⟩:=v;dsimp only;obtain⟨lc,hlc⟩:∃lc,pE l [⟨k,a,b,n,s,t⟩]=lc:=⟨_,rfl⟩
 have Q4:Hid (Calls pQ 17 #[U Av l.length cv,U (some ⟨w.heap.size+1,0,none⟩) 1 1] ((w.alloc (.cells #[I J k,I J a,I J b,I J n,V s,V t] 49)).alloc (.cells #[I J k,I J a,I J b,I J n,V s,V t] 49)) λe w'=>e=.returned (.bool lc)∧aa ac (w.alloc (.cells #[I J k,I J a,I J b,I J n,V s,V t] 49)) w'):=by
  have q:=D8 (hl.nix ((fR w).alloc (.cells #[I J k,I J a,I J b,I J n,V s,V t] 49))) (fR _) k a b n s t;rw[hlc,show (w.alloc (.cells #[I J k,I J a,I J b,I J n,V s,V t] 49)).heap.size=w.heap.size+1 by simp] at q;exact q
 have KF:Hid (∀W,aa ac w W→eP l=false→Calls pQ 19 #[U Av l.length cv] W λe w'=>∃g M,e=.returned (O (some ⟨g,0,none⟩))∧aw w' g M (cZ m9 l)∧aa ac W w'∧∀k,SF g M k→W.heap.size≤k):=λW hW=>(hl.nix hW).fold
 have KR:Hid (∀W,aa ac w W→eP l=false→Calls pQ 15 #[U Av l.length cv] W λe w'=>∃(fo fe it se:Sl) (ts:List (Sl×aJ)),e=.returned (.agg #[I J (cZ m9 l).clock,U fo.1 (cZ m9 l).fols.length fo.2,U fe.1 (cZ m9 l).fees.length fe.2,U it.1 (cZ m9 l).itms.length it.2,U se.1 (cZ m9 l).seas.length se.2,I J (cZ m9 l).tFol,I J (cZ m9 l).tFee,I J (cZ m9 l).tItm,I J (cZ m9 l).tSea])∧aM w' (λk=>W.heap.size≤k) fo fe it se ts (cZ m9 l)∧aa ac W w'):=λW hW Uz=>by
  have q:=uK (v:=(Av,cv)) l (hl.nix hW).sl (by have:=qo Uz;omega);exact q
 have dw:Hid (∀W,aa ac (w.alloc (.cells #[I J k,I J a,I J b,I J n,V s,V t] 49)) W→ai W w.heap.size 49 #[I J k,I J a,I J b,I J n,V s,V t]):=λW hW=>(ai.new w 49 #[I J k,I J a,I J b,I J n,V s,V t]).frm hW id
 clear hl
 cases lc with
 | true=>
   generalize l.length=n1 at *;clear hlc KF KR dw;go_enter Tryz.func5,Tryz.ntmps5;go_wp2_with (first|(go_at_call 18;have _q:=Z1;refine(pu _).mono ?_;rintro e w2 ⟨rfl,hf⟩;have Z2:Hid (aa ac w w2):=Z1.out.trans hf;clear hf)|(go_at_call 17;refine Q4.out.mono ?_;rintro e w1 ⟨rfl,hf⟩;have Y1:=h_ hf;have Z1:Hid (aa ac w w1):=((fR w).alloc _).trans hf;clear hf)|fail);go_ret
   exact⟨rfl,Z2.out⟩
 | false=>
 obtain⟨h1,h2,h3⟩:=GZ hlc;have ME:=h_ (λW hW=>KF.out W hW h1);have Pd:=h_ (λW hW=>KR.out W hW h1);have Me:Hid (s.size≤10000∧t.size≤10000):=⟨by dsimp only at h2;omega,by dsimp only at h3;omega⟩;have RP:Hid (mE ⟨k,a,b,n,s,t⟩):=⟨ha,hb,hn,by dsimp only at h2 ⊢;omega,by dsimp only at h3 ⊢;omega⟩;obtain⟨x,hx⟩:∃x,cZ m9 l=x:=⟨_,rfl⟩;have HP:Hid (di x):=by rw[←hx];exact qK l yS
 rw[hx] at ME Pd;generalize l.length=n1 at *;clear hlc h1 h2 h3 hx KF KR ha hb hn;go_enter Tryz.func5,Tryz.ntmps5;show Code.wp pQ (aj 0 (ae Tryz.f5)) _ _ _
 refine aG (k':=1) λK hK=>?_
 conv in bz _=>whnf
 go_wp2;refine aG (k':=2) λK hK=>?_
 conv in bz _=>whnf
 go_wp2_with (first|(go_at_call 17;refine Q4.out.mono ?_;rintro e w1 ⟨rfl,hf⟩;have Y1:=h_ hf;have Z1:Hid (aa ac w w1):=((fR w).alloc _).trans hf;clear hf)|fail);refine aG (k':=3) λK hK=>?_
 conv in bz _=>whnf
 go_wp2_with (first|(go_at_call 19;refine(ME.out _ Z1.out).mono ?_;rintro e w2 ⟨g,M,rfl,hs,hf,hg⟩;have HG:Hid (∀j,SF g M j→(w.alloc (.cells #[I J k,I J a,I J b,I J n,V s,V t] 49)).heap.size≤j):=(λj hj=>Nat.le_trans Y1.out.size (hg j hj));have H2:=h_ hs;have Y2:Hid (aa ac (w.alloc (.cells #[I J k,I J a,I J b,I J n,V s,V t] 49)) w2):=Y1.out.trans hf;clear hs hf hg)|fail);have ZB:Hid (aa ac w (w.alloc (.cells #[I J k,I J a,I J b,I J n,V s,V t] 49))):=(fR w).alloc _;refine aG (k':=4) λK hK=>?_
 conv in bz _=>whnf
 go_wp2_with (first|(go_at_call 15;refine(Pd.out _ (ZB.out.trans Y2.out)).mono ?_;rintro e w3 ⟨fo,fe,it,se,ts,rfl,hd,hf⟩;have D3:=h_ hd;have Y3:=h_ hf;clear hd hf)|fail);obtain⟨w4,hw4,pN,hb4⟩:=Ff w3 fo fe it se x;rw[←hw4];have B4:=h_ hb4;have D4:=h_ (D3.out.nix pN);have H4:=h_ (H2.out.nix (Y3.out.trans pN));have Y4:Hid (aa ac (w.alloc (.cells #[I J k,I J a,I J b,I J n,V s,V t] 49)) w4):=Y2.out.trans (Y3.out.trans pN);clear hw4 pN hb4 D3 Pd ME;obtain⟨gb,hgb⟩:∃gb,w3.heap.size=gb:=⟨_,rfl⟩;rw[hgb] at B4 ⊢;clear hgb;refine aG (k':=5) λK hK=>?_
 conv in bz _=>whnf
 go_wp2_with (first|(go_at_call 18;refine(pu _).mono ?_;rintro e w5 ⟨rfl,hf⟩;have H5:=h_ (H4.out.nix hf);have Y5:Hid (aa ac (w.alloc (.cells #[I J k,I J a,I J b,I J n,V s,V t] 49)) w5):=Y4.out.trans hf;have B5:=h_ (B4.out.frm hf id);have D5:=h_ (D4.out.nix hf);clear hf)|fail);have eA:=dw.out _ Y5.out;obtain⟨y0,y1,y2,y3,y4,y5⟩:=bn eA;clear eA;obtain⟨r,hr⟩:∃r,aB ah aC x ⟨k,a,b,n,s,t⟩=r:=⟨_,rfl⟩;obtain⟨lr,er⟩:=r;obtain⟨m,hm⟩:∃m,lr.length=m:=⟨_,rfl⟩
 have KP:Hid (Calls pQ 20 #[O (some ⟨g,0,none⟩),.agg #[I J k,I J a,I J b,I J n,V s,V t]] w5 λe w'=>∃A c,e=.returned (.tuple #[U A m c,I J er])∧aN w' (λk=>w5.heap.size≤k) 7 (A,c) lr.length (lr.flatMap Ev.cells)∧aa ac w5 w'):=by
  have q:=mQ H5.out k a b n s t RP.out;rw[hr] at q;exact q.mono λe w' ⟨⟨A,c⟩,h1,h2,h3⟩=>⟨A,c,by rw[←hm];exact h1,h2,h3⟩
 have KD:Hid (∀W,aa ac w5 W→Calls pQ 21 #[bE fo fe it se x,.agg #[I J k,I J a,I J b,I J n,V s,V t]] W λe w'=>∃A c,e=.returned (.tuple #[U A m c,I J er])∧aN w' (λk=>W.heap.size≤k) 7 (A,c) lr.length (lr.flatMap Ev.cells)∧aa ac W w'):=λW hW=>by
  have q:=yF (D5.out.nix hW) HP.out k a b n s t Me.out.1 Me.out.2;rw[hr] at q;exact q.mono λe w' ⟨⟨A,c⟩,h1,h2,h3⟩=>⟨A,c,by rw[←hm];exact h1,h2,h3⟩
 have HN:=h_ hm;clear hr hm RP D4 B4 H4;refine aG (k':=6) λK hK=>?_
 conv in bz _=>whnf
 go_wp2_with (first|(go_at_call 20;refine KP.out.mono ?_;rintro e w6 ⟨A6,c6,rfl,hv,hf⟩;have V6:=h_ hv;have X6:=h_ hf;clear hv hf)|fail);clear y0 y1 y2 y3 y4 y5;have eA:=dw.out _ (Y5.out.trans X6.out);obtain⟨y0,y1,y2,y3,y4,y5⟩:=bn eA;obtain⟨x0,x1,x2,x3,x4,x5,x6,x7,x8⟩:=ak (B5.out.frm X6.out id);clear eA;refine aG (k':=7) λK hK=>?_
 conv in bz _=>whnf
 go_wp2_with (first|(go_at_call 21;refine(KD.out _ X6.out).mono ?_;rintro e w7 ⟨A7,c7,rfl,hv,hf⟩;have V7:=h_ hv;have W6:=h_ (V6.out.nix hf);have X7:Hid (aa ac w5 w7):=X6.out.trans hf;clear hv hf)|fail);clear x0 x1 x2 x3 x4 x5 x6 x7 x8 y0 y1 y2 y3 y4 y5 KP KD;have B7:=h_ (B5.out.frm X7.out id);have HC:Hid (∀W,aa ac w7 W→W.cell? ⟨gb,0,none⟩=some (I J x.clock)∧W.cell? ⟨gb,1,none⟩=some (U fo.1 x.fols.length fo.2)∧W.cell? ⟨gb,2,none⟩=some (U fe.1 x.fees.length fe.2)∧W.cell? ⟨gb,3,none⟩=some (U it.1 x.itms.length it.2)∧W.cell? ⟨gb,4,none⟩=some (U se.1 x.seas.length se.2)∧W.cell? ⟨gb,5,none⟩=some (I J x.tFol)∧W.cell? ⟨gb,6,none⟩=some (I J x.tFee)∧W.cell? ⟨gb,7,none⟩=some (I J x.tItm)∧W.cell? ⟨gb,8,none⟩=some (I J x.tSea)):=λW hW=>ak (B7.out.frm hW id)
 have KT:Hid (∀W,aa ac w7 W→_):=λW hW=>Q3 (H5.out.nix (X7.out.trans hW))
 have UA:Hid (∀W,aa ac w7 W→Calls pQ 22 #[U A6 m c6,U A7 m c7] W λe w'=>e=.returned (.bool true)∧aa ac W w'):=λW hW=>by
  have q:=uM lr lr (W6.out.nix hW) (V7.out.nix hW);rw[decide_eq_true rfl,HN.out] at q;exact q
 have KS:Hid (∀W fo' fe' it' se' ts' G',aa ac w7 W→aM W G' fo' fe' it' se' ts' x→Calls pQ 16 #[bE fo' fe' it' se' x,.agg #[I J x.clock,U fo.1 x.fols.length fo.2,U fe.1 x.fees.length fe.2,U it.1 x.itms.length it.2,U se.1 x.seas.length se.2,I J x.tFol,I J x.tFee,I J x.tItm,I J x.tSea]] W λe w'=>e=.returned (.bool true)∧aa ac W w'):=λW fo' fe' it' se' ts' G' hW hd=>by
  have q:=qO hd (D5.out.nix (X7.out.trans hW)) HP.out.small HP.out.small;rw[decide_eq_true rfl] at q;exact q
 have Z7:Hid (aa ac w w7):=ZB.out.trans (Y5.out.trans X7.out);simp only[aj,ae,Tryz.f5];go_wp2
 try simp only[List.append_eq,List.cons_append,List.nil_append]
 go_region_held3 (λW=>W.cell? ⟨gb,0,none⟩=some (I J x.clock)∧W.cell? ⟨gb,1,none⟩=some (U fo.1 x.fols.length fo.2)∧W.cell? ⟨gb,2,none⟩=some (U fe.1 x.fees.length fe.2)∧W.cell? ⟨gb,3,none⟩=some (U it.1 x.itms.length it.2)∧W.cell? ⟨gb,4,none⟩=some (U se.1 x.seas.length se.2)∧W.cell? ⟨gb,5,none⟩=some (I J x.tFol)∧W.cell? ⟨gb,6,none⟩=some (I J x.tFee)∧W.cell? ⟨gb,7,none⟩=some (I J x.tItm)∧W.cell? ⟨gb,8,none⟩=some (I J x.tSea)) ((refine HC.out _ ?_;repeat' (first|with_reducible exact aa.refl _ _|with_reducible exact VO.out|with_reducible exact Y9.out|with_reducible exact Y8.out|with_reducible apply aa.drew)))
  (first
   | (go_at_call 16;have _q:=E9;refine(KS.out _ _ _ _ _ _ _ Y9.out E9.out).mono ?_;rintro e TP ⟨rfl,hf⟩;have VO:Hid (aa ac w7 TP):=Y9.out.trans hf;clear hf)
   | (go_at_call 23;have _q:=Y8;refine(KT.out _ Y8.out).mono ?_;rintro e w9 ⟨fo',fe',it',se',ts',rfl,hd,hf⟩;have E9:=h_ hd;have Y9:Hid (aa ac w7 w9):=Y8.out.trans hf;clear hd hf)
   | (go_at_call 22;refine(UA.out _ (fR _).drew).mono ?_;rintro e w8 ⟨rfl,hf⟩;have Y8:Hid (aa ac w7 w8):=(fR _).drew.trans hf;clear hf))
 all_goals
  go_wp2;go_ret;exact⟨rfl,Z7.out.trans VO.out⟩
end Go.Proofs.YtaecjmiobllhmaaGreat
