/-
  Contracts: cmd: ofFeed, ofSearch.
-/
import Derived.Test.YtdihmpakglakdaaGreatGa40
import Derived.Deep.RegionHeld3
set_option linter.unusedVariables false
set_option linter.unusedSimpArgs false
set_option maxRecDepth 100000
set_option maxHeartbeats 16000000
namespace Go.Proofs.YtdihmpakglakdaaGreat
open Go.RowKit Go.Lib
theorem plan456(x:St)(k a b n:Int)(s t:ByteArray)(hk:k=4∨k=5∨k=6):planP shortS tagS x ⟨k,a,b,n,s,t⟩=if isI Fee.id a x.fees=false then ([],4) else if k=6∧inS x b=false then ([],4) else if k=4 then ([⟨4,a,0,0,eS,eS,eS⟩],0) else if k=5 then one1 ⟨5,a,0,0,eS,shortS t 256,eS⟩ (!decide (shortS t 256=(feeAt x a).title)) else one1 ⟨6,a,b,0,eS,eS,eS⟩ (!decide (b=(feeAt x a).inn)):=by
 cases hq:atI Fee.id a x.fees with
 | none=>
   have hi:=isI_no hq
   rcases hk with rfl | rfl | rfl<;>simp[planP,hq,hi]
 | some q=>
   have hi:=isI_at hq;have hf:feeAt x a=q:=by unfold feeAt;rw[hq];rfl
   rcases hk with rfl | rfl | rfl<;>simp[planP,hq,hi,hf]
theorem shortS_size(s:ByteArray){m:Int}(hm:0≤m)(h2:m≤1000):(shortS s m).size≤1000:=by
 have:=short_ok s m hm;unfold textOk at this;simp only[Bool.and_eq_true,decide_eq_true_eq] at this;omega
theorem ofFeed3_any{w:World}{g:Nat}{M:Ms}{x:St}(h:StAt w g M x)(a b n:Int)(s t:ByteArray)(hc:CmIs ⟨3,a,b,n,s,t⟩):
  Calls Tryz.prog 53 #[.pointer (some ⟨g,0,none⟩),.agg #[.int .i64 3,.int .i64 a,.int .i64 b,.int .i64 n,.string s,.string t]] w (PlOut w (planP shortS tagS x ⟨3,a,b,n,s,t⟩)):=by
 obtain⟨r,hr⟩:∃ r,planP shortS tagS x ⟨3,a,b,n,s,t⟩=r:=⟨_,rfl⟩;have KS1:Hid (∀ W,Calls Tryz.prog 34 #[.string t,.int .i64 256] W fun e w'=>e=.returned (.string (shortS t 256))∧Frm Nix W w'):=fun W=>Short_any t hc.t 256 W
 have KS2:Hid (∀ W,Calls Tryz.prog 34 #[.string s,.int .i64 512] W fun e w'=>e=.returned (.string (shortS s 512))∧Frm Nix W w'):=fun W=>Short_any s hc.s 512 W
 have hsz:=shortS_size s (m:=512) (by decide) (by decide);have KP:Hid (∀ W,Frm Nix w W→Calls Tryz.prog 106 #[.pointer (some ⟨g,0,none⟩),.string (shortS s 512)] W fun e w'=>e=.returned (.tuple #[.int .i64 (placeS x (shortS s 512)),.bool (!(placeS x (shortS s 512)==0))])∧W=w'):=fun W hW=>Place_any (h.nix hW) _ (by unfold maxLen;omega)
 have KM:Hid (∀ W,Frm Nix w W→Calls Tryz.prog 103 #[.pointer (some ⟨g,0,none⟩),.agg #[.int .i64 3,.int .i64 0,.int .i64 b,.int .i64 0,.string (shortS s 512),.string (shortS t 256),.string ⟨#[]⟩],.bool (!(placeS x (shortS s 512)==0))] W (PlOut W r)):=fun W hW=>by
  have q:=makes_any (h.nix hW) 3 0 b 0 (shortS s 512) (shortS t 256) ⟨#[]⟩ (!(placeS x (shortS s 512)==0)) hc.b (.inr (.inl rfl));rw[← hr];exact q
 have HBc:Hid (∀ W,Frm Nix (w.alloc (.cells #[.int .i64 3,.int .i64 a,.int .i64 b,.int .i64 n,.string s,.string t] 50)) W→Blk W w.heap.size 50 #[.int .i64 3,.int .i64 a,.int .i64 b,.int .i64 n,.string s,.string t]):=fun W hW=>(Blk.new w 50 #[.int .i64 3,.int .i64 a,.int .i64 b,.int .i64 n,.string s,.string t]).frm hW id
 have HFb:Hid (Frm Nix w (w.alloc (.cells #[.int .i64 3,.int .i64 a,.int .i64 b,.int .i64 n,.string s,.string t] 50))):=(fR w).alloc _;rw[hr];clear h hc hr hsz;generalize placeS x (shortS s 512)=pl at *;generalize shortS s 512=s1 at *;generalize shortS t 256=t1 at *;generalize (!(pl==0))=has at *;go_enter Tryz.func53,Tryz.ntmps53
 go_wp2_with (first
  | (go_at_call 103;have _q:=Z3;refine(KM.out _ Z3.out).mono ?_;rintro e w4 ⟨v,rfl,hsl,hf⟩;have Z4:Hid (Frm Nix w w4):=Z3.out.trans hf;have HSL:=h_ (hsl.mono (G':=fun k=>w.heap.size≤k) fun k hk=>by(have h2:=Z3.out.size;have hk2:=hk;omega));clear hsl hf)
  | (go_at_call 106;have _q:=Y2;refine(KP.out _ (HFb.out.trans Y2.out)).mono ?_;rintro e w3 ⟨rfl,rfl⟩;have Z3:Hid (Frm Nix w w2):=HFb.out.trans Y2.out)
  | (go_at_call 34;have _q:=Y1;refine(KS2.out _).mono ?_;rintro e w2 ⟨rfl,hf⟩;have Y2:Hid (Frm Nix (w.alloc (.cells #[.int .i64 3,.int .i64 a,.int .i64 b,.int .i64 n,.string s,.string t] 50)) w2):=Y1.out.trans hf;have hbC:=HBc.out _ Y2.out;obtain⟨y0,y1,y2,y3,y4,y5⟩:=blk6 hbC;have yl:=hbC.lt;clear hbC;clear hf)
  | (go_at_call 34;refine(KS1.out _).mono ?_;rintro e w1 ⟨rfl,hf⟩;have Y1:Hid (Frm Nix (w.alloc (.cells #[.int .i64 3,.int .i64 a,.int .i64 b,.int .i64 n,.string s,.string t] 50)) w1):=hf;have hbC:=HBc.out _ Y1.out;obtain⟨y0,y1,y2,y3,y4,y5⟩:=blk6 hbC;have yl:=hbC.lt;clear hbC;clear hf)
  | fail)
 go_ret2
 exact⟨v,rfl,HSL.out,Z4.out⟩
theorem ofFeed456_any{w:World}{g:Nat}{M:Ms}{x:St}(h:StAt w g M x)(k a b n:Int)(s t:ByteArray)(hc:CmIs ⟨k,a,b,n,s,t⟩)(hk:k=4∨k=5∨k=6):
  Calls Tryz.prog 53 #[.pointer (some ⟨g,0,none⟩),.agg #[.int .i64 k,.int .i64 a,.int .i64 b,.int .i64 n,.string s,.string t]] w (PlOut w (planP shortS tagS x ⟨k,a,b,n,s,t⟩)):=by
 rw[plan456 x k a b n s t hk];have KS:Hid (∀ W,Calls Tryz.prog 34 #[.string t,.int .i64 256] W fun e w'=>e=.returned (.string (shortS t 256))∧Frm Nix W w'):=fun W=>Short_any t hc.t 256 W
 have KF:Hid (∀ W,Frm Nix w W→Calls Tryz.prog 56 #[.pointer (some ⟨g,0,none⟩),.int .i64 a] W fun e w'=>e=.returned (.tuple #[.agg #[.int .i64 (feeAt x a).id,.int .i64 (feeAt x a).inn,.string (feeAt x a).url,.string (feeAt x a).title],.bool (isI Fee.id a x.fees)])∧Frm Nix W w'):=fun W hW=>FeedS_any (h.nix hW) hc.a
 have KO:Hid (∀ W,Frm Nix w W→Calls Tryz.prog 58 #[.pointer (some ⟨g,0,none⟩),.int .i64 b] W fun e w'=>e=.returned (.bool (inS x b))∧Frm Nix W w'):=fun W hW=>cFolder_any (h.nix hW) hc.b
 have HBc:Hid (∀ W,Frm Nix (w.alloc (.cells #[.int .i64 k,.int .i64 a,.int .i64 b,.int .i64 n,.string s,.string t] 50)) W→Blk W w.heap.size 50 #[.int .i64 k,.int .i64 a,.int .i64 b,.int .i64 n,.string s,.string t]):=fun W hW=>(Blk.new w 50 #[.int .i64 k,.int .i64 a,.int .i64 b,.int .i64 n,.string s,.string t]).frm hW id
 have HFb:Hid (Frm Nix w (w.alloc (.cells #[.int .i64 k,.int .i64 a,.int .i64 b,.int .i64 n,.string s,.string t] 50))):=(fR w).alloc _;clear h hc;generalize feeAt x a=q at *;generalize inS x b=i2 at *;generalize shortS t 256=t1 at *;generalize isI Fee.id a x.fees=i1 at *
 cases i1 with
 | false=>
   have k3:(k==3)=false:=beq_eq_false_iff_ne.2 (by omega);rw[if_pos rfl];clear hk;go_enter Tryz.func53,Tryz.ntmps53;go_wp2_with (first | (go_at_call 51;refine(refused_any _ _).mono ?_;rintro e w9 ⟨rfl,rfl⟩) | (go_at_call 56;have _q:=Y1;refine(KF.out _ (HFb.out.trans Y1.out)).mono ?_;rintro e w2 ⟨rfl,hf⟩;have Y2:Hid (Frm Nix _ w2):=Y1.out.trans hf;have Z2:Hid (Frm Nix w w2):=HFb.out.trans Y2.out;have hbC:=HBc.out _ Y2.out;obtain⟨y0,y1,y2,y3,y4,y5⟩:=blk6 hbC;have yl:=hbC.lt;clear hbC;clear hf) | (go_at_call 34;refine(KS.out _).mono ?_;rintro e w1 ⟨rfl,hf⟩;have Y1:Hid (Frm Nix _ w1):=hf;have hbC:=HBc.out _ Y1.out;obtain⟨y0,y1,y2,y3,y4,y5⟩:=blk6 hbC;have yl:=hbC.lt;clear hbC;clear hf) | fail)
   go_ret2
   exact PlOut.none_ (Z2.out.alloc (.cells #[.int .i64 q.id,.int .i64 q.inn,.string q.url,.string q.title] 73))
 | true=>
   rw[if_neg (by decide)];rcases hk with rfl | rfl | rfl
   ·rw[if_neg (fun h=>absurd h.1 (by decide)),if_pos rfl]
    go_enter Tryz.func53,Tryz.ntmps53;go_wp2_with (first | (go_at_call 60;refine(oneV _ _ _ _ _ _ _ _ _).mono ?_;rintro e w5 ⟨v,rfl,hsl,hf⟩;have Z5:Hid (Frm Nix w w5):=(Z2.out.alloc (.cells #[.int .i64 q.id,.int .i64 q.inn,.string q.url,.string q.title] 73)).trans hf;have HSL:=h_ (hsl.mono (G':=fun k=>w.heap.size≤k) fun k hk=>by(have h2:=(Z2.out.alloc (.cells #[.int .i64 q.id,.int .i64 q.inn,.string q.url,.string q.title] 73)).size;have hk2:=hk;(try simp at hk2 h2);omega));clear hsl hf) | (go_at_call 56;have _q:=Y1;refine(KF.out _ (HFb.out.trans Y1.out)).mono ?_;rintro e w2 ⟨rfl,hf⟩;have Y2:Hid (Frm Nix _ w2):=Y1.out.trans hf;have Z2:Hid (Frm Nix w w2):=HFb.out.trans Y2.out;have hbC:=HBc.out _ Y2.out;obtain⟨y0,y1,y2,y3,y4,y5⟩:=blk6 hbC;have yl:=hbC.lt;clear hbC;clear hf) | (go_at_call 34;refine(KS.out _).mono ?_;rintro e w1 ⟨rfl,hf⟩;have Y1:Hid (Frm Nix _ w1):=hf;have hbC:=HBc.out _ Y1.out;obtain⟨y0,y1,y2,y3,y4,y5⟩:=blk6 hbC;have yl:=hbC.lt;clear hbC;clear hf) | fail)
    go_ret2
    exact⟨v,rfl,HSL.out,Z5.out⟩
   ·rw[if_neg (fun h=>absurd h.1 (by decide)),if_neg (by decide),if_pos rfl]
    by_cases ht:t1=q.title
    ·have hb2:(t1.toList==q.title.toList)=true:=by rw[ht];simp
     rw[decide_eq_true ht];clear ht;go_enter Tryz.func53,Tryz.ntmps53;go_wp2_with (first | (go_at_call 60;refine(oneV _ _ _ _ _ _ _ _ _).mono ?_;rintro e w5 ⟨v,rfl,hsl,hf⟩;have Z5:Hid (Frm Nix w w5):=(Z2.out.alloc (.cells #[.int .i64 q.id,.int .i64 q.inn,.string q.url,.string q.title] 73)).trans hf;have HSL:=h_ (hsl.mono (G':=fun k=>w.heap.size≤k) fun k hk=>by(have h2:=(Z2.out.alloc (.cells #[.int .i64 q.id,.int .i64 q.inn,.string q.url,.string q.title] 73)).size;have hk2:=hk;(try simp at hk2 h2);omega));clear hsl hf) | (go_at_call 56;have _q:=Y1;refine(KF.out _ (HFb.out.trans Y1.out)).mono ?_;rintro e w2 ⟨rfl,hf⟩;have Y2:Hid (Frm Nix _ w2):=Y1.out.trans hf;have Z2:Hid (Frm Nix w w2):=HFb.out.trans Y2.out;have hbC:=HBc.out _ Y2.out;obtain⟨y0,y1,y2,y3,y4,y5⟩:=blk6 hbC;have yl:=hbC.lt;clear hbC;clear hf) | (go_at_call 34;refine(KS.out _).mono ?_;rintro e w1 ⟨rfl,hf⟩;have Y1:Hid (Frm Nix _ w1):=hf;have hbC:=HBc.out _ Y1.out;obtain⟨y0,y1,y2,y3,y4,y5⟩:=blk6 hbC;have yl:=hbC.lt;clear hbC;clear hf) | fail)
     go_ret2
     exact⟨v,rfl,HSL.out,Z5.out⟩
    ·have hb2:=beq_of ht
     rw[decide_eq_false ht];clear ht;go_enter Tryz.func53,Tryz.ntmps53;go_wp2_with (first | (go_at_call 60;refine(oneV _ _ _ _ _ _ _ _ _).mono ?_;rintro e w5 ⟨v,rfl,hsl,hf⟩;have Z5:Hid (Frm Nix w w5):=(Z2.out.alloc (.cells #[.int .i64 q.id,.int .i64 q.inn,.string q.url,.string q.title] 73)).trans hf;have HSL:=h_ (hsl.mono (G':=fun k=>w.heap.size≤k) fun k hk=>by(have h2:=(Z2.out.alloc (.cells #[.int .i64 q.id,.int .i64 q.inn,.string q.url,.string q.title] 73)).size;have hk2:=hk;(try simp at hk2 h2);omega));clear hsl hf) | (go_at_call 56;have _q:=Y1;refine(KF.out _ (HFb.out.trans Y1.out)).mono ?_;rintro e w2 ⟨rfl,hf⟩;have Y2:Hid (Frm Nix _ w2):=Y1.out.trans hf;have Z2:Hid (Frm Nix w w2):=HFb.out.trans Y2.out;have hbC:=HBc.out _ Y2.out;obtain⟨y0,y1,y2,y3,y4,y5⟩:=blk6 hbC;have yl:=hbC.lt;clear hbC;clear hf) | (go_at_call 34;refine(KS.out _).mono ?_;rintro e w1 ⟨rfl,hf⟩;have Y1:Hid (Frm Nix _ w1):=hf;have hbC:=HBc.out _ Y1.out;obtain⟨y0,y1,y2,y3,y4,y5⟩:=blk6 hbC;have yl:=hbC.lt;clear hbC;clear hf) | fail)
     go_ret2
     exact⟨v,rfl,HSL.out,Z5.out⟩
   ·cases i2 with
    | false=>
      rw[if_pos ⟨rfl,rfl⟩];go_enter Tryz.func53,Tryz.ntmps53;go_wp2_with (first | (go_at_call 51;refine(refused_any _ _).mono ?_;rintro e w9 ⟨rfl,rfl⟩) | (go_at_call 58;have _q:=Z2;refine(KO.out _ (Z2.out.alloc (.cells #[.int .i64 q.id,.int .i64 q.inn,.string q.url,.string q.title] 73))).mono ?_;rintro e w4 ⟨rfl,hf⟩;have Y4:Hid (Frm Nix _ w4):=(Y2.out.alloc _).trans hf;have hbC:=HBc.out _ Y4.out;obtain⟨y0,y1,y2,y3,y4,y5⟩:=blk6 hbC;have yl:=hbC.lt;clear hbC;have hbF:=(Blk.new w2 73 #[.int .i64 q.id,.int .i64 q.inn,.string q.url,.string q.title]).frm hf id;obtain⟨z0,z1,z2,z3⟩:=blk4 hbF;have Z4:Hid (Frm Nix w w4):=HFb.out.trans Y4.out;clear hf hbF) | (go_at_call 56;have _q:=Y1;refine(KF.out _ (HFb.out.trans Y1.out)).mono ?_;rintro e w2 ⟨rfl,hf⟩;have Y2:Hid (Frm Nix _ w2):=Y1.out.trans hf;have Z2:Hid (Frm Nix w w2):=HFb.out.trans Y2.out;have hbC:=HBc.out _ Y2.out;obtain⟨y0,y1,y2,y3,y4,y5⟩:=blk6 hbC;have yl:=hbC.lt;clear hbC;clear hf) | (go_at_call 34;refine(KS.out _).mono ?_;rintro e w1 ⟨rfl,hf⟩;have Y1:Hid (Frm Nix _ w1):=hf;have hbC:=HBc.out _ Y1.out;obtain⟨y0,y1,y2,y3,y4,y5⟩:=blk6 hbC;have yl:=hbC.lt;clear hbC;clear hf) | fail)
      go_ret2
      exact PlOut.none_ Z4.out
    | true=>
      rw[if_neg (fun h=>absurd h.2 (by decide)),if_neg (by decide),if_neg (by decide)]
      by_cases hb:b=q.inn
      ·have hb2:(b !=q.inn)=false:=by rw[hb];simp
       rw[decide_eq_true hb];clear hb;go_enter Tryz.func53,Tryz.ntmps53;go_wp2_with (first | (go_at_call 60;refine(oneV _ _ _ _ _ _ _ _ _).mono ?_;rintro e w5 ⟨v,rfl,hsl,hf⟩;have Z5:Hid (Frm Nix w w5):=Z4.out.trans hf;have HSL:=h_ (hsl.mono (G':=fun k=>w.heap.size≤k) fun k hk=>by(have h2:=Z4.out.size;have hk2:=hk;(try simp at hk2 h2);omega));clear hsl hf) | (go_at_call 58;have _q:=Z2;refine(KO.out _ (Z2.out.alloc (.cells #[.int .i64 q.id,.int .i64 q.inn,.string q.url,.string q.title] 73))).mono ?_;rintro e w4 ⟨rfl,hf⟩;have Y4:Hid (Frm Nix _ w4):=(Y2.out.alloc _).trans hf;have hbC:=HBc.out _ Y4.out;obtain⟨y0,y1,y2,y3,y4,y5⟩:=blk6 hbC;have yl:=hbC.lt;clear hbC;have hbF:=(Blk.new w2 73 #[.int .i64 q.id,.int .i64 q.inn,.string q.url,.string q.title]).frm hf id;obtain⟨z0,z1,z2,z3⟩:=blk4 hbF;have Z4:Hid (Frm Nix w w4):=HFb.out.trans Y4.out;clear hf hbF) | (go_at_call 56;have _q:=Y1;refine(KF.out _ (HFb.out.trans Y1.out)).mono ?_;rintro e w2 ⟨rfl,hf⟩;have Y2:Hid (Frm Nix _ w2):=Y1.out.trans hf;have Z2:Hid (Frm Nix w w2):=HFb.out.trans Y2.out;have hbC:=HBc.out _ Y2.out;obtain⟨y0,y1,y2,y3,y4,y5⟩:=blk6 hbC;have yl:=hbC.lt;clear hbC;clear hf) | (go_at_call 34;refine(KS.out _).mono ?_;rintro e w1 ⟨rfl,hf⟩;have Y1:Hid (Frm Nix _ w1):=hf;have hbC:=HBc.out _ Y1.out;obtain⟨y0,y1,y2,y3,y4,y5⟩:=blk6 hbC;have yl:=hbC.lt;clear hbC;clear hf) | fail)
       go_ret2
       exact⟨v,rfl,HSL.out,Z5.out⟩
      ·have hb2:(b !=q.inn)=true:=bne_iff_ne.2 hb
       rw[decide_eq_false hb];clear hb;go_enter Tryz.func53,Tryz.ntmps53;go_wp2_with (first | (go_at_call 60;refine(oneV _ _ _ _ _ _ _ _ _).mono ?_;rintro e w5 ⟨v,rfl,hsl,hf⟩;have Z5:Hid (Frm Nix w w5):=Z4.out.trans hf;have HSL:=h_ (hsl.mono (G':=fun k=>w.heap.size≤k) fun k hk=>by(have h2:=Z4.out.size;have hk2:=hk;(try simp at hk2 h2);omega));clear hsl hf) | (go_at_call 58;have _q:=Z2;refine(KO.out _ (Z2.out.alloc (.cells #[.int .i64 q.id,.int .i64 q.inn,.string q.url,.string q.title] 73))).mono ?_;rintro e w4 ⟨rfl,hf⟩;have Y4:Hid (Frm Nix _ w4):=(Y2.out.alloc _).trans hf;have hbC:=HBc.out _ Y4.out;obtain⟨y0,y1,y2,y3,y4,y5⟩:=blk6 hbC;have yl:=hbC.lt;clear hbC;have hbF:=(Blk.new w2 73 #[.int .i64 q.id,.int .i64 q.inn,.string q.url,.string q.title]).frm hf id;obtain⟨z0,z1,z2,z3⟩:=blk4 hbF;have Z4:Hid (Frm Nix w w4):=HFb.out.trans Y4.out;clear hf hbF) | (go_at_call 56;have _q:=Y1;refine(KF.out _ (HFb.out.trans Y1.out)).mono ?_;rintro e w2 ⟨rfl,hf⟩;have Y2:Hid (Frm Nix _ w2):=Y1.out.trans hf;have Z2:Hid (Frm Nix w w2):=HFb.out.trans Y2.out;have hbC:=HBc.out _ Y2.out;obtain⟨y0,y1,y2,y3,y4,y5⟩:=blk6 hbC;have yl:=hbC.lt;clear hbC;clear hf) | (go_at_call 34;refine(KS.out _).mono ?_;rintro e w1 ⟨rfl,hf⟩;have Y1:Hid (Frm Nix _ w1):=hf;have hbC:=HBc.out _ Y1.out;obtain⟨y0,y1,y2,y3,y4,y5⟩:=blk6 hbC;have yl:=hbC.lt;clear hbC;clear hf) | fail)
       go_ret2
       exact⟨v,rfl,HSL.out,Z5.out⟩
theorem ofSearch12_any{w:World}{g:Nat}{M:Ms}{x:St}(h:StAt w g M x)(a b n:Int)(s t:ByteArray)(hc:CmIs ⟨12,a,b,n,s,t⟩):
  Calls Tryz.prog 55 #[.pointer (some ⟨g,0,none⟩),.agg #[.int .i64 12,.int .i64 a,.int .i64 b,.int .i64 n,.string s,.string t]] w (PlOut w (planP shortS tagS x ⟨12,a,b,n,s,t⟩)):=by
 obtain⟨r,hr⟩:∃ r,planP shortS tagS x ⟨12,a,b,n,s,t⟩=r:=⟨_,rfl⟩;have KS1:Hid (∀ W,Calls Tryz.prog 34 #[.string s,.int .i64 64] W fun e w'=>e=.returned (.string (shortS s 64))∧Frm Nix W w'):=fun W=>Short_any s hc.s 64 W
 have KS2:Hid (∀ W,Calls Tryz.prog 34 #[.string t,.int .i64 512] W fun e w'=>e=.returned (.string (shortS t 512))∧Frm Nix W w'):=fun W=>Short_any t hc.t 512 W
 have KM:Hid (∀ W,Frm Nix w W→Calls Tryz.prog 103 #[.pointer (some ⟨g,0,none⟩),.agg #[.int .i64 11,.int .i64 0,.int .i64 0,.int .i64 0,.string (shortS s 64),.string (shortS t 512),.string ⟨#[]⟩],.bool false] W (PlOut W r)):=fun W hW=>by
  have q:=makes_any (h.nix hW) 11 0 0 0 (shortS s 64) (shortS t 512) ⟨#[]⟩ false i64_0 (.inr (.inr rfl));rw[← hr];exact q
 have HBc:Hid (∀ W,Frm Nix (w.alloc (.cells #[.int .i64 12,.int .i64 a,.int .i64 b,.int .i64 n,.string s,.string t] 50)) W→Blk W w.heap.size 50 #[.int .i64 12,.int .i64 a,.int .i64 b,.int .i64 n,.string s,.string t]):=fun W hW=>(Blk.new w 50 #[.int .i64 12,.int .i64 a,.int .i64 b,.int .i64 n,.string s,.string t]).frm hW id
 have HFb:Hid (Frm Nix w (w.alloc (.cells #[.int .i64 12,.int .i64 a,.int .i64 b,.int .i64 n,.string s,.string t] 50))):=(fR w).alloc _;rw[hr];clear h hc hr;generalize shortS s 64=s1 at *;generalize shortS t 512=t1 at *;go_enter Tryz.func55,Tryz.ntmps55;go_wp2;have HC:Hid (∀ W,Frm Nix (w.alloc (.cells #[.int .i64 12,.int .i64 a,.int .i64 b,.int .i64 n,.string s,.string t] 50)) W→W.cell? ⟨w.heap.size,4,none⟩=some (.string s)∧W.cell? ⟨w.heap.size,5,none⟩=some (.string t)):=fun W hW=>⟨(HBc.out _ hW).cell 4,(HBc.out _ hW).cell 5⟩
 go_region_held3 (fun W=>W.cell? ⟨w.heap.size,4,none⟩=some (.string s)∧W.cell? ⟨w.heap.size,5,none⟩=some (.string t)) ((refine HC.out _ ?_;repeat' (first | with_reducible exact Frm.refl _ _ | with_reducible exact Y4.out | with_reducible exact Y3.out | with_reducible exact Y2.out | with_reducible apply Frm.drew)))
  (first
   | (go_at_call 103;have _q:=Y3;refine(KM.out _ (HFb.out.trans Y3.out)).mono ?_;rintro e w4 ⟨v,rfl,hsl,hf⟩;have Y4:Hid (Frm Nix _ w4):=Y3.out.trans hf;have HSL:=h_ (hsl.mono (G':=fun k=>w.heap.size≤k) fun k hk=>by(have h1:=(HFb.out.trans Y3.out).size;omega));clear hsl hf)
   | (go_at_call 34;have _q:=Y2;refine(KS2.out _).mono ?_;rintro e w3 ⟨rfl,hf⟩;have Y3:Hid (Frm Nix _ w3):=Y2.out.trans hf;clear hf)
   | (go_at_call 34;refine(KS1.out _).mono ?_;rintro e w2 ⟨rfl,hf⟩;have Y2:Hid (Frm Nix (w.alloc (.cells #[.int .i64 12,.int .i64 a,.int .i64 b,.int .i64 n,.string s,.string t] 50)) w2):=(fR _).drew.trans hf;clear hf))
 all_goals
  go_wp2
  go_ret2
  exact⟨v,rfl,HSL.out,HFb.out.trans Y4.out⟩
theorem ofSearch13_any{w:World}{g:Nat}{M:Ms}{x:St}(h:StAt w g M x)(a b n:Int)(s t:ByteArray)(hc:CmIs ⟨13,a,b,n,s,t⟩):
  Calls Tryz.prog 55 #[.pointer (some ⟨g,0,none⟩),.agg #[.int .i64 13,.int .i64 a,.int .i64 b,.int .i64 n,.string s,.string t]] w (PlOut w (planP shortS tagS x ⟨13,a,b,n,s,t⟩)):=by
 have HR:Hid (planP shortS tagS x ⟨13,a,b,n,s,t⟩=if isI Sea.id a x.seas=false then ([],4) else ([⟨12,a,0,0,⟨#[]⟩,⟨#[]⟩,⟨#[]⟩⟩],0)):=rfl;rw[HR.out];have KF:Hid (∀ W,Frm Nix w W→Calls Tryz.prog 109 #[.pointer (some ⟨g,0,none⟩),.int .i64 a] W fun e w'=>e=.returned (.tuple #[.agg #[.int .i64 (seaAt x a).id,.string (seaAt x a).name,.string (seaAt x a).query],.bool (isI Sea.id a x.seas)])∧Frm Nix W w'):=fun W hW=>SearchS_any (h.nix hW) hc.a
 have HBc:Hid (∀ W,Frm Nix (w.alloc (.cells #[.int .i64 13,.int .i64 a,.int .i64 b,.int .i64 n,.string s,.string t] 50)) W→Blk W w.heap.size 50 #[.int .i64 13,.int .i64 a,.int .i64 b,.int .i64 n,.string s,.string t]):=fun W hW=>(Blk.new w 50 #[.int .i64 13,.int .i64 a,.int .i64 b,.int .i64 n,.string s,.string t]).frm hW id
 have HFb:Hid (Frm Nix w (w.alloc (.cells #[.int .i64 13,.int .i64 a,.int .i64 b,.int .i64 n,.string s,.string t] 50))):=(fR w).alloc _;clear h hc HR;generalize seaAt x a=q at *;generalize isI Sea.id a x.seas=i1 at *
 cases i1 with
 | false=>
   rw[if_pos rfl];go_enter Tryz.func55,Tryz.ntmps55;go_wp2_with (first | (go_at_call 51;refine(refused_any _ _).mono ?_;rintro e w9 ⟨rfl,rfl⟩) | (go_at_call 109;refine(KF.out _ HFb.out).mono ?_;rintro e w2 ⟨rfl,hf⟩;have Y2:Hid (Frm Nix _ w2):=hf;have Z2:Hid (Frm Nix w w2):=HFb.out.trans Y2.out;have hbC:=HBc.out _ Y2.out;obtain⟨y0,y1,y2,y3,y4,y5⟩:=blk6 hbC;have yl:=hbC.lt;clear hbC;clear hf) | fail)
   go_ret2
   exact PlOut.none_ (Z2.out.alloc (.cells #[.int .i64 q.id,.string q.name,.string q.query] 93))
 | true=>
   rw[if_neg (by decide)];go_enter Tryz.func55,Tryz.ntmps55;go_wp2_with (first | (go_at_call 60;refine(oneV _ _ _ _ _ _ _ _ _).mono ?_;rintro e w5 ⟨v,rfl,hsl,hf⟩;have Z5:Hid (Frm Nix w w5):=(Z2.out.alloc (.cells #[.int .i64 q.id,.string q.name,.string q.query] 93)).trans hf;have HSL:=h_ (hsl.mono (G':=fun k=>w.heap.size≤k) fun k hk=>by(have h2:=(Z2.out.alloc (.cells #[.int .i64 q.id,.string q.name,.string q.query] 93)).size;have hk2:=hk;(try simp at hk2 h2);omega));clear hsl hf) | (go_at_call 109;refine(KF.out _ HFb.out).mono ?_;rintro e w2 ⟨rfl,hf⟩;have Y2:Hid (Frm Nix _ w2):=hf;have Z2:Hid (Frm Nix w w2):=HFb.out.trans Y2.out;have hbC:=HBc.out _ Y2.out;obtain⟨y0,y1,y2,y3,y4,y5⟩:=blk6 hbC;have yl:=hbC.lt;clear hbC;clear hf) | fail)
   go_ret2
   exact⟨v,rfl,HSL.out,Z5.out⟩
def evR8(q:Itm):Ev:=⟨8,q.id,0,1,eS,eS,eS⟩
theorem read_eq8(x:St)(l:List Int):readP x l=(x.itms.filter fun q=>!q.read&&l.contains q.feed).map evR8:=by
 unfold readP evR8
 congr 1
 refine List.filter_congr fun q _=>?_
 congr 1
 have hc:l.contains q.feed=true↔q.feed ∈ l:=by simp
 rw[Bool.eq_iff_iff,hc,List.any_eq_true];exact⟨fun ⟨i,hi,e⟩=>of_decide_eq_true e ▸ hi,fun h=>⟨_,h,decide_eq_true rfl⟩⟩
theorem itm_cells{w:World}{b off:Nat}{pt:Sl×Itm}(h:∀ (j:Nat) (u:Value),(itmC pt)[j]? =some u→w.cell? ⟨b,off+j,none⟩=some u):
  w.cell? ⟨b,off,none⟩=some (.int .i64 pt.2.id)∧w.cell? ⟨b,off+1,none⟩=some (.int .i64 pt.2.feed)∧w.cell? ⟨b,off+2,none⟩=some (.int .i64 pt.2.date)∧w.cell? ⟨b,off+3,none⟩=some (.string pt.2.guid)∧w.cell? ⟨b,off+4,none⟩=some (.string pt.2.title)∧w.cell? ⟨b,off+5,none⟩=some (.string pt.2.link)∧w.cell? ⟨b,off+6,none⟩=some (.bool pt.2.read)∧w.cell? ⟨b,off+7,none⟩=some (.bool pt.2.star)∧w.cell? ⟨b,off+8,none⟩=some (.slice pt.1.1 pt.2.tags.length pt.1.2):=
 ⟨h 0 _ rfl,h 1 _ rfl,h 2 _ rfl,h 3 _ rfl,h 4 _ rfl,h 5 _ rfl,h 6 _ rfl,h 7 _ rfl,h 8 _ rfl⟩
theorem read_any{w:World}{g:Nat}{M:Ms}{x:St}(h:StAt w g M x){A:Option Addr}{c:Nat}{l:List Int}{G:Nat→Prop}(hv:SlIn w G 1 (A,c) l.length (l.map kI))(hn:l.length≤100000):
  Calls Tryz.prog 57 #[.pointer (some ⟨g,0,none⟩),.slice A l.length c] w fun e w'=>∃ v:Sl,e=.returned (.slice v.1 (readP x l).length v.2)∧SlIn w' (fun k=>w.heap.size≤k) 7 v (readP x l).length ((readP x l).flatMap Ev.cells)∧Frm Nix w w':=by
 rw[read_eq8];obtain⟨p,hp⟩:∃ p:Itm→Bool,(fun q:Itm=>!q.read&&l.contains q.feed)=p:=⟨_,rfl⟩;have HPq:Hid (∀ q:Itm,p q=(!q.read&&l.contains q.feed)):=fun q=>by rw[← hp]
 rw[hp];have hi:=h.ok.iL;have KT:=h_ (TellV h);have KC:Hid (∀ W z,Frm Nix w W→Calls Tryz.prog 110 #[.slice A l.length c,.int .i64 z] W fun e w'=>e=.returned (.bool (l.contains z))∧w'=W):=fun W z hW=>Contains_any (v:=(A,c)) (hv.nix hW) hn z
 have hfd:=fieldS3;clear h hp hv;generalize l.length=nl at *;obtain⟨n,hxn⟩:∃ n,x.itms.length=n:=⟨_,rfl⟩;rw[hxn] at KT hi;have HN:=h_ hxn;clear hxn;go_enter Tryz.func57,Tryz.ntmps57;go_wp2_with (first | (go_at_call 28;refine KT.out.mono ?_;rintro e w2 ⟨Ao,co,Ae,ce,Ai,ci,As,cs,ts,rfl,hd,hf⟩;have HD:=h_ hd.itms;have HSame:=h_ hd.same;have Z2:=h_ hf;clear hd hf) | fail);have HTL:Hid (ts.length=n):=by unfold Hid;rw[← HN.out,← HSame.out,List.length_map]
 go_loopw [5,12] (fun ov kv wr=>∃ (k:Nat),k≤n∧kv=.int .i64 k∧RowK 43 7 w2 wr ov (((((ts.map (·.2)).take k).filter p).map evR8).length) (((((ts.map (·.2)).take k).filter p).map evR8).flatMap Ev.cells)) (fun _ kv _=>n - (intOf kv).toNat)
 case atStart=>exact⟨0,by omega,rfl,RowK.nil_ _ _ (Frm.refl _ _)⟩
 case round=>
  obtain⟨k,hk,rfl,hrow⟩:=hrel;obtain⟨Ar,cr,rfl,-,-,-,-⟩:=hrow.shape;have HRw:=h_ hrow;have HF:=h_ hrow.frm;clear hrow
  by_cases hlt:k<n
  ·have hkl:k<ts.length:=by rw[HTL.out];exact hlt
   obtain⟨b,off,hA,-,hbl,hcell⟩:=(HD.out.row.nix HF.out).at_ itmC_len (by decide) (by omega);dsimp only at hA;subst hA;obtain⟨x0,x1,x2,x3,x4,x5,x6,x7,x8⟩:=itm_cells (w:=wr) (b:=b) (off:=off+k * 9) (pt:=ts[k]) (hcell k hkl);have hkm:k<(ts.map (·.2)).length:=by rw[List.length_map];exact hkl
   have HST:=h_ (filt_step (ts.map (·.2)) k hkm p);have hgm:(ts.map (·.2))[k]=ts[k].2:=by rw[List.getElem_map]
   rw[hgm] at HST;obtain⟨pt,hpt⟩:∃ pt,ts[k]=pt:=⟨_,rfl⟩;rw[hpt] at x0 x1 x2 x3 x4 x5 x6 x7 x8 HST;obtain⟨tv,q⟩:=pt;dsimp only at x0 x1 x2 x3 x4 x5 x6 x7 x8 HST
   have hml:((((ts.map (·.2)).take k).filter p).map evR8).length≤k:=by
    rw[List.length_map];have:=List.length_filter_le p ((ts.map (·.2)).take k);rw[List.length_take] at this;omega
   have HPQ:=HPq.out q;clear hcell hkm hgm hpt
   cases hrd:q.read with
   | true=>
     rw[hrd] at x6 HPQ;have HX:Hid (((((ts.map (·.2)).take k).filter p).map evR8)=((((ts.map (·.2)).take (k+1)).filter p).map evR8)):=by unfold Hid;rw[HST.out,HPQ];simp
     have HX2:Hid (RowK 43 7 w2 (wr.alloc (.cells #[.int .i64 q.id,.int .i64 q.feed,.int .i64 q.date,.string q.guid,.string q.title,.string q.link,.bool true,.bool q.star,.slice tv.1 q.tags.length tv.2] 91)) (.slice Ar ((((ts.map (·.2)).take k).filter p).map evR8).length cr) ((((ts.map (·.2)).take (k+1)).filter p).map evR8).length (((((ts.map (·.2)).take (k+1)).filter p).map evR8).flatMap Ev.cells)):=by
      unfold Hid;rw[← HX.out];exact HRw.out.more ((fR wr).alloc _)
     clear HPQ;generalize ((((ts.map (·.2)).take k).filter p).map evR8).length=m at *;go_wp2;go_roundw
     case rel=>exact⟨k+1,by omega,by go_num,HX2.out⟩
     case measure=>simp[intOf];omega
   | false=>
     have K:=KC.out (wr.alloc (.cells #[.int .i64 q.id,.int .i64 q.feed,.int .i64 q.date,.string q.guid,.string q.title,.string q.link,.bool false,.bool q.star,.slice tv.1 q.tags.length tv.2] 91)) q.feed (Z2.out.trans (HF.out.alloc _));rw[hrd] at x6 HPQ
     cases hcc:l.contains q.feed with
     | false=>
       rw[hcc] at K HPQ;have HX:Hid (((((ts.map (·.2)).take k).filter p).map evR8)=((((ts.map (·.2)).take (k+1)).filter p).map evR8)):=by unfold Hid;rw[HST.out,HPQ];simp
       have HX2:Hid (RowK 43 7 w2 (wr.alloc (.cells #[.int .i64 q.id,.int .i64 q.feed,.int .i64 q.date,.string q.guid,.string q.title,.string q.link,.bool false,.bool q.star,.slice tv.1 q.tags.length tv.2] 91)) (.slice Ar ((((ts.map (·.2)).take k).filter p).map evR8).length cr) ((((ts.map (·.2)).take (k+1)).filter p).map evR8).length (((((ts.map (·.2)).take (k+1)).filter p).map evR8).flatMap Ev.cells)):=by
        unfold Hid;rw[← HX.out];exact HRw.out.more ((fR wr).alloc _)
       clear HPQ hcc;generalize ((((ts.map (·.2)).take k).filter p).map evR8).length=m at *;go_wp2_with (first | (go_at_call 110;refine K.mono ?_;rintro e w' ⟨rfl,rfl⟩) | fail);go_roundw
       case rel=>exact⟨k+1,by omega,by go_num,HX2.out⟩
       case measure=>simp[intOf];omega
     | true=>
       rw[hcc] at K HPQ;have HX:Hid (((((ts.map (·.2)).take k).filter p).map evR8)++[evR8 q]=((((ts.map (·.2)).take (k+1)).filter p).map evR8)):=by unfold Hid;rw[HST.out,HPQ,List.map_append];simp
       obtain⟨v4,w4,hrun4,hr4,hf4,-⟩:=(HRw.out.more ((fR wr).alloc (.cells #[.int .i64 q.id,.int .i64 q.feed,.int .i64 q.date,.string q.guid,.string q.title,.string q.link,.bool false,.bool q.star,.slice tv.1 q.tags.length tv.2] 91))).push elemEv (evR8 q).cells rfl (by intro u hu;simp[evR8,Ev.cells] at hu;rcases hu with rfl | rfl | rfl | rfl | rfl | rfl | rfl<;>rfl) (by unfold maxLen;omega) (by omega);rw[show (wr.alloc (.cells #[.int .i64 q.id,.int .i64 q.feed,.int .i64 q.date,.string q.guid,.string q.title,.string q.link,.bool false,.bool q.star,.slice tv.1 q.tags.length tv.2] 91)).heap.size=wr.heap.size+1 by simp] at hrun4;have hrun5:∀ ty,(Builtin.append_ #[31,31] ty #[.slice Ar ((((ts.map (·.2)).take k).filter p).map evR8).length cr,.slice (some ⟨wr.heap.size+1,0,none⟩) 1 1]).run Tryz.prog ((wr.alloc (.cells #[.int .i64 q.id,.int .i64 q.feed,.int .i64 q.date,.string q.guid,.string q.title,.string q.link,.bool false,.bool q.star,.slice tv.1 q.tags.length tv.2] 91)).alloc (.cells #[.int .i64 8,.int .i64 q.id,.int .i64 0,.int .i64 1,.string ⟨#[]⟩,.string ⟨#[]⟩,.string ⟨#[]⟩] 43))=.ok v4 w4:=hrun4
       have HX2:Hid (RowK 43 7 w2 w4 v4 ((((ts.map (·.2)).take (k+1)).filter p).map evR8).length (((((ts.map (·.2)).take (k+1)).filter p).map evR8).flatMap Ev.cells)):=by
        unfold Hid;rw[← HX.out,List.length_append,List.flatMap_append]
        simpa using hr4
       clear HPQ hcc hrun4 hr4 hf4;generalize ((((ts.map (·.2)).take k).filter p).map evR8).length=m at *;go_wp2_with (first | (go_at_call 110;refine K.mono ?_;rintro e w' ⟨rfl,rfl⟩) | (at_builtin;refine wpList_append_run hrun5 rfl _ _ rfl rfl rfl ?_) | fail);go_roundw
       case rel=>exact⟨k+1,by omega,by go_num,HX2.out⟩
       case measure=>simp[intOf];omega
  ·obtain rfl:k=n:=by omega
   have HE:Hid (((((ts.map (·.2)).take k).filter p).map evR8)=(x.itms.filter p).map evR8):=by
    unfold Hid;rw[List.take_of_length_le (by rw[List.length_map,HTL.out];exact Nat.le_refl _),HSame.out]
   rw[HE.out] at HRw;go_wp2;go_ret;rw[HE.out];exact⟨(Ar,cr),rfl,HRw.out.sl.mono fun j hj=>Nat.le_trans Z2.out.size hj,Z2.out.trans HRw.out.frm⟩
end Go.Proofs.YtdihmpakglakdaaGreat
