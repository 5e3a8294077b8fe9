/-
  Contracts: cmd: makes, ofFolder, ofTag, ofItem.
-/
import Derived.Test.YtdihmpakglakdaaGreatGa38
import Derived.Deep.RegionHeld3
set_option linter.unusedVariables false
set_option linter.unusedSimpArgs false
set_option maxRecDepth 100000
set_option maxHeartbeats 16000000
namespace Go.Proofs.YtdihmpakglakdaaGreat
open Go.RowKit Go.Lib
theorem blk6{W:World}{g:Nat}{t:TypeId}{a0 a1 a2 a3 a4 a5:Value}(h:Blk W g t #[a0,a1,a2,a3,a4,a5]):
  W.cell? ⟨g,0,none⟩=some a0∧W.cell? ⟨g,1,none⟩=some a1∧W.cell? ⟨g,2,none⟩=some a2∧W.cell? ⟨g,3,none⟩=some a3∧W.cell? ⟨g,4,none⟩=some a4∧W.cell? ⟨g,5,none⟩=some a5:=
 ⟨h.cell 0,h.cell 1,h.cell 2,h.cell 3,h.cell 4,h.cell 5⟩
structure CmIs(c:Cm):Prop where
 a:I64 c.a
 b:I64 c.b
 n:I64 c.n
 s:c.s.size≤100000
 t:c.t.size≤100000
theorem top_range{x:St}(h:StP x)(k:Int):0≤topK x k∧topK x k≤1048576:=by
 have h1:=h.fT;have h2:=h.eT;have h3:=h.iT;have h4:=h.sT;unfold topK
 repeat' split
 all_goals omega
theorem i64_of{n:Int}(h1:0≤n)(h2:n≤1048577):I64 n:=by unfold I64;omega
theorem FitsV{w:World}{g:Nat}{M:Ms}{x:St}(h:StAt w g M x)(k a b n:Int)(s t u:ByteArray)(ha:I64 a)(hb:I64 b):Calls Tryz.prog 59 #[.pointer (some ⟨g,0,none⟩),.agg #[.int .i64 k,.int .i64 a,.int .i64 b,.int .i64 n,.string s,.string t,.string u]] w fun r w'=>r=.returned (.bool (fits x ⟨k,a,b,n,s,t,u⟩))∧Frm Nix w w':=by
 have q:=Fits_any h ⟨k,a,b,n,s,t,u⟩ ha hb;exact q
theorem oneV(k a b n:Int)(s t u:ByteArray)(c:Bool)(w:World):Calls Tryz.prog 60 #[.agg #[.int .i64 k,.int .i64 a,.int .i64 b,.int .i64 n,.string s,.string t,.string u],.bool c] w (PlOut w (one1 ⟨k,a,b,n,s,t,u⟩ c)):=by
 have q:=cOne_any ⟨k,a,b,n,s,t,u⟩ c w;exact q
theorem makes_any{w:World}{g:Nat}{M:Ms}{x:St}(h:StAt w g M x)(kd a b n:Int)(s t u:ByteArray)(has:Bool)(hb:I64 b)(hk:kd=1∨kd=3∨kd=11):
  Calls Tryz.prog 103 #[.pointer (some ⟨g,0,none⟩),.agg #[.int .i64 kd,.int .i64 a,.int .i64 b,.int .i64 n,.string s,.string t,.string u],.bool has] w (PlOut w (makesP x ⟨kd,a,b,n,s,t,u⟩ has)):=by
 obtain⟨T,hT⟩:∃ T,topK x kd=T:=⟨_,rfl⟩;have hr:=top_range h.ok kd;rw[hT] at hr;obtain⟨w1,hw1⟩:∃ w1,w1=w.alloc (.cells #[.int .i64 kd,.int .i64 (T+1),.int .i64 b,.int .i64 n,.string s,.string t,.string u] 43):=⟨_,rfl⟩;have hf:Frm Nix w w1:=by rw[hw1];exact(fR w).alloc _
 have hbk:Blk w1 w.heap.size 43 #[.int .i64 kd,.int .i64 (T+1),.int .i64 b,.int .i64 n,.string s,.string t,.string u]:=by
  rw[hw1];exact Blk.new w _ _
 have KT:Hid (∀ W,Frm Nix w W→Calls Tryz.prog 157 #[.pointer (some ⟨g,0,none⟩),.int .i64 kd] W fun e w'=>e=.returned (.int .i64 T)∧W=w'):=fun W hW=>by
  have q:=Top_any (h.nix hW) kd;rw[show topS x kd=T from hT] at q;exact q
 have KFo:=h_ (cFolder_any (h.nix hf) hb);have KFi:Hid (∀ W,Frm Nix w1 W→Calls Tryz.prog 59 #[.pointer (some ⟨g,0,none⟩),.agg #[.int .i64 kd,.int .i64 (T+1),.int .i64 b,.int .i64 n,.string s,.string t,.string u]] W fun r w'=>r=.returned (.bool (fits x ⟨kd,T+1,b,n,s,t,u⟩))∧Frm Nix W w'):=fun W hW=>FitsV ((h.nix hf).nix hW) _ _ _ _ _ _ _ (i64_of (by omega) (by omega)) hb
 have HM:Hid (makesP x ⟨kd,a,b,n,s,t,u⟩ has=if s=eS∨(kd=11∧t=eS) then ([],1) else if inS x b=false then ([],4) else if has=true then ([],5) else if T≥1048576∨fits x ⟨kd,T+1,b,n,s,t,u⟩=false then ([],2) else ([⟨kd,T+1,b,n,s,t,u⟩],0)):=by
  unfold Hid makesP;simp only[hT]
 have HF:=h_ hf;have HB:=h_ hbk;have HW:=h_ hw1;obtain⟨y0,y1,y2,y3,y4,y5,y6⟩:=blk7 hbk;clear h hb hT hf hbk hw1;generalize makesP x ⟨kd,a,b,n,s,t,u⟩ has=r at *;generalize inS x b=i1 at *;generalize fits x ⟨kd,T+1,b,n,s,t,u⟩=i2 at *;go_enter Tryz.func103,Tryz.ntmps103;show Code.wp Tryz.prog (peel 0 (bodyOf Tryz.f103)) _ _ _
 refine peelK (k':=1) fun K hK=>?_
 conv in hdC _=>whnf
 go_wp2;refine peelK (k':=2) fun K hK=>?_
 conv in hdC _=>whnf
 go_wp2_with (go_at_call 157;refine(KT.out _ ((fR w).alloc _)).mono ?_;rintro e w8 ⟨rfl,rfl⟩);refine peelK (k':=3) fun K hK=>?_
 conv in hdC _=>whnf
 go_wp2;rw[← HW.out];simp only[peel,bodyOf,Tryz.f103];have hT1:¬(T:Int)=T+1:=by omega
 by_cases hs:s=eS
 ·have HR:Hid (r=([],1)):=by unfold Hid;rw[HM.out,if_pos (.inl hs)]
  have hs2:s=⟨#[]⟩:=hs;clear hs HM;subst hs2;go_wp2_with (go_at_call 51;refine(refused_any _ _).mono ?_;rintro e w9 ⟨rfl,rfl⟩)
  go_ret2
  rw[HR.out];exact PlOut.none_ HF.out
 have hs':¬s=⟨#[]⟩:=hs;have hsq:¬s.toList=[]:=fun e=>hs (toList_nil.1 e)
 have hsq2:s.toList.isEmpty=false:=List.isEmpty_eq_false_iff.2 hsq
 by_cases h11:kd=11∧t=eS
 ·have HR:Hid (r=([],1)):=by unfold Hid;rw[HM.out,if_pos (.inr h11)]
  obtain⟨hk2,ht2⟩:=h11;have ht3:t=⟨#[]⟩:=ht2;clear ht2 HM hs;subst hk2;subst ht3;go_wp2_with (go_at_call 51;refine(refused_any _ _).mono ?_;rintro e w9 ⟨rfl,rfl⟩)
  go_ret2
  rw[HR.out];exact PlOut.none_ HF.out
 have HM2:Hid (r=if i1=false then ([],4) else if has=true then ([],5) else if T≥1048576∨i2=false then ([],2) else ([⟨kd,T+1,b,n,s,t,u⟩],0)):=by unfold Hid;rw[HM.out,if_neg (fun h=>h.elim hs h11)]
 clear HM
 by_cases hk11:kd=11
 ·have ht':¬t=⟨#[]⟩:=fun e=>h11 ⟨hk11,e⟩
  have htq:¬t.toList=[]:=fun e=>ht' (toList_nil.1 e)
  have htq2:t.toList.isEmpty=false:=List.isEmpty_eq_false_iff.2 htq;subst hk11;clear hs h11 hk
  cases i1 with
  | false=>
    have HR:Hid (r=([],4)):=by unfold Hid;rw[HM2.out,if_pos rfl]
    go_wp2_with (first | (go_at_call 51;refine(refused_any _ _).mono ?_;rintro e w9 ⟨rfl,rfl⟩) | (go_at_call 58;refine KFo.out.mono ?_;rintro e w2 ⟨rfl,hf⟩;obtain⟨y0,y1,y2,y3,y4,y5,y6⟩:=blk7 (HB.out.frm hf id);have Z2:=h_ hf;clear hf) | fail)
    go_ret2
    rw[HR.out]
    exact PlOut.none_ (HF.out.trans Z2.out)
  | true=>
    cases has with
    | true=>
      have HR:Hid (r=([],5)):=by unfold Hid;rw[HM2.out,if_neg (by decide),if_pos rfl]
      go_wp2_with (first | (go_at_call 51;refine(refused_any _ _).mono ?_;rintro e w9 ⟨rfl,rfl⟩) | (go_at_call 58;refine KFo.out.mono ?_;rintro e w2 ⟨rfl,hf⟩;obtain⟨y0,y1,y2,y3,y4,y5,y6⟩:=blk7 (HB.out.frm hf id);have Z2:=h_ hf;clear hf) | fail)
      go_ret2
      rw[HR.out]
      exact PlOut.none_ (HF.out.trans Z2.out)
    | false=>
      by_cases hq:T≥1048576
      ·have HR:Hid (r=([],2)):=by unfold Hid;rw[HM2.out,if_neg (by decide),if_neg (by decide),if_pos (.inl hq)]
       have hq2:(1048576:Int)≤T:=hq;go_wp2_with (first | (go_at_call 51;refine(refused_any _ _).mono ?_;rintro e w9 ⟨rfl,rfl⟩) | (go_at_call 58;refine KFo.out.mono ?_;rintro e w2 ⟨rfl,hf⟩;obtain⟨y0,y1,y2,y3,y4,y5,y6⟩:=blk7 (HB.out.frm hf id);have Z2:=h_ hf;clear hf) | fail)
       go_ret2
       rw[HR.out];exact PlOut.none_ (HF.out.trans Z2.out)
      ·have hq2:¬(1048576:Int)≤T:=hq
       cases i2 with
       | false=>
         have HR:Hid (r=([],2)):=by unfold Hid;rw[HM2.out,if_neg (by decide),if_neg (by decide),if_pos (.inr rfl)]
         go_wp2_with (first | (go_at_call 59;have _q:=Z2;refine(KFi.out _ Z2.out).mono ?_;rintro e w3 ⟨rfl,hf⟩;obtain⟨y0,y1,y2,y3,y4,y5,y6⟩:=blk7 (HB.out.frm (Z2.out.trans hf) id);have Z3:Hid (Frm Nix w1 w3):=Z2.out.trans hf;clear hf) | (go_at_call 51;refine(refused_any _ _).mono ?_;rintro e w9 ⟨rfl,rfl⟩) | (go_at_call 58;refine KFo.out.mono ?_;rintro e w2 ⟨rfl,hf⟩;obtain⟨y0,y1,y2,y3,y4,y5,y6⟩:=blk7 (HB.out.frm hf id);have Z2:=h_ hf;clear hf) | fail)
         go_ret2
         rw[HR.out]
         exact PlOut.none_ (HF.out.trans Z3.out)
       | true=>
         have HR:Hid (r=([⟨11,T+1,b,n,s,t,u⟩],0)):=by unfold Hid;rw[HM2.out,if_neg (by decide),if_neg (by decide),if_neg (fun h=>h.elim hq (by decide))]
         go_wp2_with (first | (go_at_call 60;refine(oneV _ _ _ _ _ _ _ _ _).mono ?_;rintro e w4 ⟨v,rfl,hsl,hf⟩;have Z4:Hid (Frm Nix w1 w4):=Z3.out.trans hf;have HSL:=h_ (hsl.mono (G':=fun k=>w.heap.size≤k) fun k hk=>by(have h1:=HF.out.size;have h2:=Z3.out.size;omega));clear hsl hf) | (go_at_call 59;have _q:=Z2;refine(KFi.out _ Z2.out).mono ?_;rintro e w3 ⟨rfl,hf⟩;obtain⟨y0,y1,y2,y3,y4,y5,y6⟩:=blk7 (HB.out.frm (Z2.out.trans hf) id);have Z3:Hid (Frm Nix w1 w3):=Z2.out.trans hf;clear hf) | (go_at_call 58;refine KFo.out.mono ?_;rintro e w2 ⟨rfl,hf⟩;obtain⟨y0,y1,y2,y3,y4,y5,y6⟩:=blk7 (HB.out.frm hf id);have Z2:=h_ hf;clear hf) | fail)
         go_ret2
         rw[HR.out];exact⟨v,rfl,HSL.out,HF.out.trans Z4.out⟩
 ·clear hs h11
  cases i1 with
  | false=>
    have HR:Hid (r=([],4)):=by unfold Hid;rw[HM2.out,if_pos rfl]
    go_wp2_with (first | (go_at_call 51;refine(refused_any _ _).mono ?_;rintro e w9 ⟨rfl,rfl⟩) | (go_at_call 58;refine KFo.out.mono ?_;rintro e w2 ⟨rfl,hf⟩;obtain⟨y0,y1,y2,y3,y4,y5,y6⟩:=blk7 (HB.out.frm hf id);have Z2:=h_ hf;clear hf) | fail)
    go_ret2
    rw[HR.out]
    exact PlOut.none_ (HF.out.trans Z2.out)
  | true=>
    cases has with
    | true=>
      have HR:Hid (r=([],5)):=by unfold Hid;rw[HM2.out,if_neg (by decide),if_pos rfl]
      go_wp2_with (first | (go_at_call 51;refine(refused_any _ _).mono ?_;rintro e w9 ⟨rfl,rfl⟩) | (go_at_call 58;refine KFo.out.mono ?_;rintro e w2 ⟨rfl,hf⟩;obtain⟨y0,y1,y2,y3,y4,y5,y6⟩:=blk7 (HB.out.frm hf id);have Z2:=h_ hf;clear hf) | fail)
      go_ret2
      rw[HR.out]
      exact PlOut.none_ (HF.out.trans Z2.out)
    | false=>
      by_cases hq:T≥1048576
      ·have HR:Hid (r=([],2)):=by unfold Hid;rw[HM2.out,if_neg (by decide),if_neg (by decide),if_pos (.inl hq)]
       have hq2:(1048576:Int)≤T:=hq;go_wp2_with (first | (go_at_call 51;refine(refused_any _ _).mono ?_;rintro e w9 ⟨rfl,rfl⟩) | (go_at_call 58;refine KFo.out.mono ?_;rintro e w2 ⟨rfl,hf⟩;obtain⟨y0,y1,y2,y3,y4,y5,y6⟩:=blk7 (HB.out.frm hf id);have Z2:=h_ hf;clear hf) | fail)
       go_ret2
       rw[HR.out];exact PlOut.none_ (HF.out.trans Z2.out)
      ·have hq2:¬(1048576:Int)≤T:=hq
       cases i2 with
       | false=>
         have HR:Hid (r=([],2)):=by unfold Hid;rw[HM2.out,if_neg (by decide),if_neg (by decide),if_pos (.inr rfl)]
         go_wp2_with (first | (go_at_call 59;have _q:=Z2;refine(KFi.out _ Z2.out).mono ?_;rintro e w3 ⟨rfl,hf⟩;obtain⟨y0,y1,y2,y3,y4,y5,y6⟩:=blk7 (HB.out.frm (Z2.out.trans hf) id);have Z3:Hid (Frm Nix w1 w3):=Z2.out.trans hf;clear hf) | (go_at_call 51;refine(refused_any _ _).mono ?_;rintro e w9 ⟨rfl,rfl⟩) | (go_at_call 58;refine KFo.out.mono ?_;rintro e w2 ⟨rfl,hf⟩;obtain⟨y0,y1,y2,y3,y4,y5,y6⟩:=blk7 (HB.out.frm hf id);have Z2:=h_ hf;clear hf) | fail)
         go_ret2
         rw[HR.out]
         exact PlOut.none_ (HF.out.trans Z3.out)
       | true=>
         have HR:Hid (r=([⟨kd,T+1,b,n,s,t,u⟩],0)):=by unfold Hid;rw[HM2.out,if_neg (by decide),if_neg (by decide),if_neg (fun h=>h.elim hq (by decide))]
         go_wp2_with (first | (go_at_call 60;refine(oneV _ _ _ _ _ _ _ _ _).mono ?_;rintro e w4 ⟨v,rfl,hsl,hf⟩;have Z4:Hid (Frm Nix w1 w4):=Z3.out.trans hf;have HSL:=h_ (hsl.mono (G':=fun k=>w.heap.size≤k) fun k hk=>by(have h1:=HF.out.size;have h2:=Z3.out.size;omega));clear hsl hf) | (go_at_call 59;have _q:=Z2;refine(KFi.out _ Z2.out).mono ?_;rintro e w3 ⟨rfl,hf⟩;obtain⟨y0,y1,y2,y3,y4,y5,y6⟩:=blk7 (HB.out.frm (Z2.out.trans hf) id);have Z3:Hid (Frm Nix w1 w3):=Z2.out.trans hf;clear hf) | (go_at_call 58;refine KFo.out.mono ?_;rintro e w2 ⟨rfl,hf⟩;obtain⟨y0,y1,y2,y3,y4,y5,y6⟩:=blk7 (HB.out.frm hf id);have Z2:=h_ hf;clear hf) | fail)
         go_ret2
         rw[HR.out];exact⟨v,rfl,HSL.out,HF.out.trans Z4.out⟩
theorem ofFolder1_any{w:World}{g:Nat}{M:Ms}{x:St}(h:StAt w g M x)(a b n:Int)(s t:ByteArray)(hc:CmIs ⟨1,a,b,n,s,t⟩):
  Calls Tryz.prog 52 #[.pointer (some ⟨g,0,none⟩),.agg #[.int .i64 1,.int .i64 a,.int .i64 b,.int .i64 n,.string s,.string t]] w (PlOut w (planP shortS tagS x ⟨1,a,b,n,s,t⟩)):=by
 obtain⟨r,hr⟩:∃ r,planP shortS tagS x ⟨1,a,b,n,s,t⟩=r:=⟨_,rfl⟩;have KS:Hid (∀ W,Calls Tryz.prog 34 #[.string s,.int .i64 64] W fun e w'=>e=.returned (.string (shortS s 64))∧Frm Nix W w'):=fun W=>Short_any s hc.s 64 W
 have KN:Hid (∀ W,Frm Nix w W→Calls Tryz.prog 104 #[.pointer (some ⟨g,0,none⟩),.int .i64 b,.string (shortS s 64)] W fun e w'=>e=.returned (.bool (namedS x b (shortS s 64)))∧Frm Nix W w'):=fun W hW=>named_any (h.nix hW) _ _
 have KM:Hid (∀ W,Frm Nix w W→Calls Tryz.prog 103 #[.pointer (some ⟨g,0,none⟩),.agg #[.int .i64 1,.int .i64 0,.int .i64 b,.int .i64 0,.string (shortS s 64),.string ⟨#[]⟩,.string ⟨#[]⟩],.bool (namedS x b (shortS s 64))] W (PlOut W r)):=fun W hW=>by
  have q:=makes_any (h.nix hW) 1 0 b 0 (shortS s 64) ⟨#[]⟩ ⟨#[]⟩ (namedS x b (shortS s 64)) hc.b (.inl rfl);rw[← hr];exact q
 have hfb:Frm Nix w (w.alloc (.cells #[.int .i64 1,.int .i64 a,.int .i64 b,.int .i64 n,.string s,.string t] 50)):=(fR w).alloc _;have HBc:Hid (∀ W,Frm Nix (w.alloc (.cells #[.int .i64 1,.int .i64 a,.int .i64 b,.int .i64 n,.string s,.string t] 50)) W→Blk W w.heap.size 50 #[.int .i64 1,.int .i64 a,.int .i64 b,.int .i64 n,.string s,.string t]):=fun W hW=>(Blk.new w 50 #[.int .i64 1,.int .i64 a,.int .i64 b,.int .i64 n,.string s,.string t]).frm hW id
 have HFb:=h_ hfb;rw[hr];clear h hc hr hfb;generalize namedS x b (shortS s 64)=q at *;generalize shortS s 64=s1 at *;go_enter Tryz.func52,Tryz.ntmps52;go_wp2_with (go_at_call 34;refine(KS.out _).mono ?_;rintro e w1 ⟨rfl,hf⟩;obtain⟨y0,y1,y2,y3,y4,y5⟩:=blk6 (HBc.out _ hf);have Z1:Hid (Frm Nix w w1):=HFb.out.trans hf;have HC:Hid (∀ W,Frm Nix w1 W→W.cell? ⟨w.heap.size,2,none⟩=some (.int .i64 b)):=(fun W hW=>(HBc.out _ (hf.trans hW)).cell 2);clear hf)
 go_region_held3 (fun W=>W.cell? ⟨w.heap.size,2,none⟩=some (.int .i64 b)) ((refine HC.out _ ?_;repeat' (first | with_reducible exact Frm.refl _ _ | with_reducible exact Y3.out | with_reducible exact Y2.out | with_reducible apply Frm.drew)))
  (first
   | (go_at_call 103;have _q:=Y2;refine(KM.out _ (Z1.out.trans Y2.out)).mono ?_;rintro e w3 ⟨v,rfl,hsl,hf⟩;have Y3:Hid (Frm Nix w1 w3):=Y2.out.trans hf;have HSL:=h_ (hsl.mono (G':=fun k=>w.heap.size≤k) fun k hk=>by(have h1:=(Z1.out.trans Y2.out).size;omega));clear hsl hf)
   | (go_at_call 104;refine(KN.out _ (Z1.out.trans (fR _).drew)).mono ?_;rintro e w2 ⟨rfl,hf⟩;have Y2:Hid (Frm Nix w1 w2):=(fR _).drew.trans hf;clear hf))
 all_goals
  go_wp2
  go_ret2
  exact⟨v,rfl,HSL.out,Z1.out.trans Y3.out⟩
theorem ofFolder2_any{w:World}{g:Nat}{M:Ms}{x:St}(h:StAt w g M x)(a b n:Int)(s t:ByteArray)(hc:CmIs ⟨2,a,b,n,s,t⟩):
  Calls Tryz.prog 52 #[.pointer (some ⟨g,0,none⟩),.agg #[.int .i64 2,.int .i64 a,.int .i64 b,.int .i64 n,.string s,.string t]] w (PlOut w (planP shortS tagS x ⟨2,a,b,n,s,t⟩)):=by
 obtain⟨r,hr⟩:∃ r,planP shortS tagS x ⟨2,a,b,n,s,t⟩=r:=⟨_,rfl⟩
 have HM:Hid ((if isI Fol.id a x.fols=false then (([],4):List Ev×Int) else if fits x ⟨2,a,0,0,⟨#[]⟩,⟨#[]⟩,⟨#[]⟩⟩=false then ([],220) else ([⟨2,a,0,0,⟨#[]⟩,⟨#[]⟩,⟨#[]⟩⟩],0))=r):=by
  unfold Hid;rw[← hr];rfl
 have KFo:Hid (∀ W,Frm Nix w W→Calls Tryz.prog 105 #[.pointer (some ⟨g,0,none⟩),.int .i64 a] W fun e w'=>e=.returned (.tuple #[.agg #[.int .i64 (folAt x a).id,.int .i64 (folAt x a).inn,.string (folAt x a).name],.bool (isI Fol.id a x.fols)])∧Frm Nix W w'):=fun W hW=>FolderS_any (h.nix hW) hc.a
 have KFi:Hid (∀ W,Frm Nix w W→Calls Tryz.prog 59 #[.pointer (some ⟨g,0,none⟩),.agg #[.int .i64 2,.int .i64 a,.int .i64 0,.int .i64 0,.string ⟨#[]⟩,.string ⟨#[]⟩,.string ⟨#[]⟩]] W fun r w'=>r=.returned (.bool (fits x ⟨2,a,0,0,⟨#[]⟩,⟨#[]⟩,⟨#[]⟩⟩))∧Frm Nix W w'):=fun W hW=>FitsV (h.nix hW) _ _ _ _ _ _ _ hc.a i64_0
 have HBe:Hid (Blk ((w.alloc (.cells #[.int .i64 2,.int .i64 a,.int .i64 b,.int .i64 n,.string s,.string t] 50)).alloc (.cells #[.int .i64 2,.int .i64 a,.int .i64 0,.int .i64 0,.string ⟨#[]⟩,.string ⟨#[]⟩,.string ⟨#[]⟩] 43)) (w.heap.size+1) 43 #[.int .i64 2,.int .i64 a,.int .i64 0,.int .i64 0,.string ⟨#[]⟩,.string ⟨#[]⟩,.string ⟨#[]⟩]):=by
  have q:=Blk.new (w.alloc (.cells #[.int .i64 2,.int .i64 a,.int .i64 b,.int .i64 n,.string s,.string t] 50)) 43 #[.int .i64 2,.int .i64 a,.int .i64 0,.int .i64 0,.string ⟨#[]⟩,.string ⟨#[]⟩,.string ⟨#[]⟩];rw[show (w.alloc (.cells #[.int .i64 2,.int .i64 a,.int .i64 b,.int .i64 n,.string s,.string t] 50)).heap.size=w.heap.size+1 by simp] at q;exact q
 have HFb:Hid (Frm Nix w ((w.alloc (.cells #[.int .i64 2,.int .i64 a,.int .i64 b,.int .i64 n,.string s,.string t] 50)).alloc (.cells #[.int .i64 2,.int .i64 a,.int .i64 0,.int .i64 0,.string ⟨#[]⟩,.string ⟨#[]⟩,.string ⟨#[]⟩] 43))):=((fR w).alloc _).alloc _;rw[hr];clear h hc hr;generalize isI Fol.id a x.fols=i1 at *;generalize fits x ⟨2,a,0,0,⟨#[]⟩,⟨#[]⟩,⟨#[]⟩⟩=i2 at *;generalize folAt x a=fo at *
 cases i1 with
 | false=>
   have HR:Hid (r=([],4)):=by unfold Hid;rw[← HM.out,if_pos rfl]
   go_enter Tryz.func52,Tryz.ntmps52;go_wp2_with (first | (go_at_call 51;have _q:=Z2;refine(refused_any _ _).mono ?_;rintro e w9 ⟨rfl,rfl⟩) | (go_at_call 105;refine(KFo.out _ HFb.out).mono ?_;rintro e w2 ⟨rfl,hf⟩;have hbE:=HBe.out.frm hf id;obtain⟨y0,y1,y2,y3,y4,y5,y6⟩:=blk7 hbE;have yl:=hbE.lt;clear hbE;have Y2:=h_ hf;have Z2:Hid (Frm Nix w w2):=HFb.out.trans hf;clear hf))
   go_ret2
   rw[HR.out]
   exact PlOut.none_ (Z2.out.alloc _)
 | true=>
   cases i2 with
   | false=>
     have HR:Hid (r=([],220)):=by unfold Hid;rw[← HM.out,if_neg (by decide),if_pos rfl]
     go_enter Tryz.func52,Tryz.ntmps52;go_wp2_with (first | (go_at_call 51;have _q:=Z3;refine(refused_any _ _).mono ?_;rintro e w9 ⟨rfl,rfl⟩) | (go_at_call 59;have _q:=Z2;refine(KFi.out _ (Z2.out.alloc _)).mono ?_;rintro e w3 ⟨rfl,hf⟩;have hbE:=HBe.out.frm ((Y2.out.alloc _).trans hf) id;obtain⟨y0,y1,y2,y3,y4,y5,y6⟩:=blk7 hbE;have yl:=hbE.lt;clear hbE;have Z3:Hid (Frm Nix w w3):=(Z2.out.alloc _).trans hf;clear hf) | (go_at_call 105;refine(KFo.out _ HFb.out).mono ?_;rintro e w2 ⟨rfl,hf⟩;have hbE:=HBe.out.frm hf id;obtain⟨y0,y1,y2,y3,y4,y5,y6⟩:=blk7 hbE;have yl:=hbE.lt;clear hbE;have Y2:=h_ hf;have Z2:Hid (Frm Nix w w2):=HFb.out.trans hf;clear hf))
     go_ret2
     rw[HR.out]
     exact PlOut.none_ Z3.out
   | true=>
     have HR:Hid (r=([⟨2,a,0,0,⟨#[]⟩,⟨#[]⟩,⟨#[]⟩⟩],0)):=by unfold Hid;rw[← HM.out,if_neg (by decide),if_neg (by decide)]
     go_enter Tryz.func52,Tryz.ntmps52;go_wp2_with (first | (go_at_call 60;have _q:=Z3;refine(oneV _ _ _ _ _ _ _ _ _).mono ?_;rintro e w4 ⟨v,rfl,hsl,hf⟩;have Z4:Hid (Frm Nix w w4):=Z3.out.trans hf;have HSL:=h_ (hsl.mono (G':=fun k=>w.heap.size≤k) fun k hk=>by(have h2:=Z3.out.size;omega));clear hsl hf) | (go_at_call 59;have _q:=Z2;refine(KFi.out _ (Z2.out.alloc _)).mono ?_;rintro e w3 ⟨rfl,hf⟩;have hbE:=HBe.out.frm ((Y2.out.alloc _).trans hf) id;obtain⟨y0,y1,y2,y3,y4,y5,y6⟩:=blk7 hbE;have yl:=hbE.lt;clear hbE;have Z3:Hid (Frm Nix w w3):=(Z2.out.alloc _).trans hf;clear hf) | (go_at_call 105;refine(KFo.out _ HFb.out).mono ?_;rintro e w2 ⟨rfl,hf⟩;have hbE:=HBe.out.frm hf id;obtain⟨y0,y1,y2,y3,y4,y5,y6⟩:=blk7 hbE;have yl:=hbE.lt;clear hbE;have Y2:=h_ hf;have Z2:Hid (Frm Nix w w2):=HFb.out.trans hf;clear hf))
     go_ret2
     rw[HR.out];exact⟨v,rfl,HSL.out,Z4.out⟩
end Go.Proofs.YtdihmpakglakdaaGreat
