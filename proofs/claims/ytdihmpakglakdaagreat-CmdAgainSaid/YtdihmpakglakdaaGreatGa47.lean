/-
  CmdAgain's walk.
-/
import Derived.Test.YtdihmpakglakdaaGreatGa45
import Derived.Test.YtdihmpakglakdaaGreatGa46
import Derived.Deep.RegionHeld3
set_option linter.unusedVariables false
set_option linter.unusedSimpArgs false
set_option maxRecDepth 100000
set_option maxHeartbeats 16000000
namespace Go.Proofs.YtdihmpakglakdaaGreat
open Go.RowKit Go.Lib
theorem again_walk{w:World}{G:Nat→Prop}{v:Sl}{l:List Ev}(hl:EvsIn w G v l)(k a b n:Int)(s t:ByteArray)(ha:I64 a)(hb:I64 b)(hn:I64 n):
  Calls Tryz.prog 10 #[.slice v.1 l.length v.2,.agg #[.int .i64 k,.int .i64 a,.int .i64 b,.int .i64 n,.string s,.string t]] w fun e w'=>e=.returned (.bool true)∧Frm Nix w w':=by
 obtain⟨Av,cv⟩:=v;dsimp only;obtain⟨lc,hlc⟩:∃ lc,largeC l [⟨k,a,b,n,s,t⟩]=lc:=⟨_,rfl⟩
 have KLg:Hid (Calls Tryz.prog 22 #[.slice Av l.length cv,.slice (some ⟨w.heap.size+1,0,none⟩) 1 1] ((w.alloc (.cells #[.int .i64 k,.int .i64 a,.int .i64 b,.int .i64 n,.string s,.string t] 50)).alloc (.cells #[.int .i64 k,.int .i64 a,.int .i64 b,.int .i64 n,.string s,.string t] 50)) fun e w'=>e=.returned (.bool lc)∧Frm Nix (w.alloc (.cells #[.int .i64 k,.int .i64 a,.int .i64 b,.int .i64 n,.string s,.string t] 50)) w'):=by
  have q:=large1_any (hl.nix ((fR w).alloc (.cells #[.int .i64 k,.int .i64 a,.int .i64 b,.int .i64 n,.string s,.string t] 50))) (fR _) k a b n s t;rw[hlc,show (w.alloc (.cells #[.int .i64 k,.int .i64 a,.int .i64 b,.int .i64 n,.string s,.string t] 50)).heap.size=w.heap.size+1 by simp] at q;exact q
 have KF:Hid (∀ W,Frm Nix w W→largeEvs l=false→Calls Tryz.prog 24 #[.slice Av l.length cv] W fun e w'=>∃ g M,e=.returned (.pointer (some ⟨g,0,none⟩))∧StAt w' g M (foldE st0 l)∧Frm Nix W w'∧∀ k,SF g M k→W.heap.size≤k):=fun W hW=>(hl.nix hW).fold
 have HBc:Hid (∀ W,Frm Nix (w.alloc (.cells #[.int .i64 k,.int .i64 a,.int .i64 b,.int .i64 n,.string s,.string t] 50)) W→Blk W w.heap.size 50 #[.int .i64 k,.int .i64 a,.int .i64 b,.int .i64 n,.string s,.string t]):=fun W hW=>(Blk.new w 50 #[.int .i64 k,.int .i64 a,.int .i64 b,.int .i64 n,.string s,.string t]).frm hW id
 clear hl
 cases lc with
 | true=>
   generalize l.length=n1 at *;clear hlc KF HBc;go_enter Tryz.func10,Tryz.ntmps10;go_wp2_with (first | (go_at_call 23;have _q:=Z1;refine(lives22_any _).mono ?_;rintro e w2 ⟨rfl,hf⟩;have Z2:Hid (Frm Nix w w2):=Z1.out.trans hf;clear hf) | (go_at_call 22;refine KLg.out.mono ?_;rintro e w1 ⟨rfl,hf⟩;have Y1:=h_ hf;have Z1:Hid (Frm Nix w w1):=((fR w).alloc _).trans hf;clear hf) | fail);go_ret
   exact⟨rfl,Z2.out⟩
 | false=>
 obtain⟨h1,h2,h3⟩:=largeC_no hlc;have KF2:=h_ (fun W hW=>KF.out W hW h1);have HIs:Hid (CmIs ⟨k,a,b,n,s,t⟩):=⟨ha,hb,hn,by dsimp only at h2 ⊢;omega,by dsimp only at h3 ⊢;omega⟩;obtain⟨x,hx⟩:∃ x,foldE st0 l=x:=⟨_,rfl⟩;have HP:Hid (StP x):=by rw[← hx];exact foldE_ok l st0_ok
 rw[hx] at KF2;generalize l.length=n1 at *;clear hlc h1 h2 h3 hx KF ha hb hn;go_enter Tryz.func10,Tryz.ntmps10;show Code.wp Tryz.prog (peel 0 (bodyOf Tryz.f10)) _ _ _
 refine peelK (k':=1) fun K hK=>?_
 conv in hdC _=>whnf
 go_wp2;refine peelK (k':=2) fun K hK=>?_
 conv in hdC _=>whnf
 go_wp2_with (first | (go_at_call 22;refine KLg.out.mono ?_;rintro e w1 ⟨rfl,hf⟩;have Y1:=h_ hf;have Z1:Hid (Frm Nix w w1):=((fR w).alloc _).trans hf;clear hf) | fail);refine peelK (k':=3) fun K hK=>?_
 conv in hdC _=>whnf
 go_wp2_with (first | (go_at_call 24;refine(KF2.out _ Z1.out).mono ?_;rintro e w2 ⟨g,M,rfl,hs,hf,hg⟩;have HG:Hid (∀ j,SF g M j→(w.alloc (.cells #[.int .i64 k,.int .i64 a,.int .i64 b,.int .i64 n,.string s,.string t] 50)).heap.size≤j):=(fun j hj=>Nat.le_trans Y1.out.size (hg j hj));have H2:=h_ hs;have Y2:Hid (Frm Nix (w.alloc (.cells #[.int .i64 k,.int .i64 a,.int .i64 b,.int .i64 n,.string s,.string t] 50)) w2):=Y1.out.trans hf;clear hs hf hg) | fail);refine peelK (k':=4) fun K hK=>?_
 conv in hdC _=>whnf
 go_wp2_with (first | (go_at_call 23;refine(lives22_any _).mono ?_;rintro e w3 ⟨rfl,hf⟩;have H3:=h_ (H2.out.nix hf);have Y3:Hid (Frm Nix (w.alloc (.cells #[.int .i64 k,.int .i64 a,.int .i64 b,.int .i64 n,.string s,.string t] 50)) w3):=Y2.out.trans hf;clear hf) | fail);have hbC:=HBc.out _ Y3.out;obtain⟨y0,y1,y2,y3,y4,y5⟩:=blk6 hbC;clear hbC;obtain⟨r,hr⟩:∃ r,planP shortS tagS x ⟨k,a,b,n,s,t⟩=r:=⟨_,rfl⟩;obtain⟨lr,er⟩:=r;obtain⟨m,hm⟩:∃ m,lr.length=m:=⟨_,rfl⟩;obtain⟨y,hy⟩:∃ y,doC shortS tagS x ⟨k,a,b,n,s,t⟩=y:=⟨_,rfl⟩
 have KD:Hid (Calls Tryz.prog 29 #[.pointer (some ⟨g,0,none⟩),.agg #[.int .i64 k,.int .i64 a,.int .i64 b,.int .i64 n,.string s,.string t]] w3 fun e w'=>∃ A c,e=.returned (.tuple #[.slice A m c,.int .i64 er])∧StAt w' g M y∧Frm (SF g M) w3 w'):=by
  have q:=Do_any H3.out k a b n s t HIs.out;rw[hr,hy] at q;dsimp only at q;rw[hm] at q;exact q.mono fun e w' ⟨⟨A,c⟩,h1,h2,h3,h4⟩=>⟨A,c,h1,h3,h4⟩
 have HY:Hid (StP y):=by rw[← hy];exact doC_ok _ _ HP.out _
 have HAg:Hid (er=0→(k=5∨k=6∨k=7∨k=8∨k=9∨k=10∨k=11∨k=14)→planP shortS tagS y ⟨k,a,b,n,s,t⟩=([],0)):=fun h0 hk=>by
  have q:=plan_again (tg:=tagS) short_ok HP.out ⟨k,a,b,n,s,t⟩ hk (by rw[hr];exact h0);rw[← hy];exact q
 clear hr hm hy KF2;refine peelK (k':=5) fun K hK=>?_
 conv in hdC _=>whnf
 go_wp2_with (first | (go_at_call 29;refine KD.out.mono ?_;rintro e w4 ⟨A4,c4,rfl,hs,hf⟩;have H4:=h_ hs;have Y4:Hid (Frm Nix (w.alloc (.cells #[.int .i64 k,.int .i64 a,.int .i64 b,.int .i64 n,.string s,.string t] 50)) w4):=frm_own Y3.out hf HG.out;clear hs hf) | fail);clear y0 y1 y2 y3 y4 y5;have hbC:=HBc.out _ Y4.out;obtain⟨y0,y1,y2,y3,y4,y5⟩:=blk6 hbC;clear hbC;have ZB:Hid (Frm Nix w (w.alloc (.cells #[.int .i64 k,.int .i64 a,.int .i64 b,.int .i64 n,.string s,.string t] 50))):=(fR w).alloc _
 by_cases h0:er=0
 ·have e0:(er !=0)=false:=by rw[h0];rfl
  have HAg2:=h_ (HAg.out h0)
  have KP:Hid ((k=5∨k=6∨k=7∨k=8∨k=9∨k=10∨k=11∨k=14)→Calls Tryz.prog 25 #[.pointer (some ⟨g,0,none⟩),.agg #[.int .i64 k,.int .i64 a,.int .i64 b,.int .i64 n,.string s,.string t]] w4 fun e w'=>∃ A c,e=.returned (.tuple #[.slice A 0 c,.int .i64 0])∧Frm Nix w4 w'):=fun hk=>by
   have q:=Plan_any H4.out k a b n s t HIs.out;rw[HAg2.out hk] at q;exact q.mono fun e w' ⟨⟨A,c⟩,h1,h2,h3⟩=>⟨A,c,h1,h3⟩
  clear h0 HAg KD;simp only[peel,bodyOf,Tryz.f10]
  by_cases hk:k=5∨k=6∨k=7∨k=8∨k=9∨k=10∨k=11∨k=14
  ·have KP2:=h_ (KP.out hk)
   clear KP HAg2;rcases hk with rfl | rfl | rfl | rfl | rfl | rfl | rfl | rfl
   all_goals
    go_wp2_with (first | (go_at_call 25;refine KP2.out.mono ?_;rintro e w5 ⟨A5,c5,rfl,hf⟩;have Z5:Hid (Frm Nix w w5):=(ZB.out.trans Y4.out).trans hf;clear hf) | fail);go_ret;exact⟨rfl,Z5.out⟩
  ·have n5:(k==5)=false:=beq_eq_false_iff_ne.2 (by omega)
   have n6:(k==6)=false:=beq_eq_false_iff_ne.2 (by omega);have n7:(k==7)=false:=beq_eq_false_iff_ne.2 (by omega);have n8:(k==8)=false:=beq_eq_false_iff_ne.2 (by omega);have n9:(k==9)=false:=beq_eq_false_iff_ne.2 (by omega);have n10:(k==10)=false:=beq_eq_false_iff_ne.2 (by omega);have n11:(k==11)=false:=beq_eq_false_iff_ne.2 (by omega);have n14:(k==14)=false:=beq_eq_false_iff_ne.2 (by omega);clear hk;go_wp2;go_ret;exact⟨rfl,ZB.out.trans Y4.out⟩
 ·have e0:(er !=0)=true:=bne_iff_ne.2 h0
  clear h0 HAg KD;simp only[peel,bodyOf,Tryz.f10];go_wp2;go_ret;exact⟨rfl,ZB.out.trans Y4.out⟩
end Go.Proofs.YtdihmpakglakdaaGreat
