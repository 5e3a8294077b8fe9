/-
  Contracts: cmd: makes, ofFolder, ofTag, ofItem.
-/
import Derived.Test.YtdihmpakglakdaaGreatGp34
import Derived.Deep.RegionHeld3
set_option linter.unusedVariables false
set_option linter.unusedSimpArgs false
set_option maxRecDepth 100000
set_option maxHeartbeats 16000000
namespace Go.Proofs.YtdihmpakglakdaaGreat
open Go.RowKit Go.Lib
theorem blk6{W:World}{g:Nat}{t:TypeId}{a0 a1 a2 a3 a4 a5:Value}(h:Blk W g t #[a0,a1,a2,a3,a4,a5]):
  W.cell? ⟨g,0,none⟩=some a0∧W.cell? ⟨g,1,none⟩=some a1∧W.cell? ⟨g,2,none⟩=some a2∧W.cell? ⟨g,3,none⟩=some a3∧W.cell? ⟨g,4,none⟩=some a4∧W.cell? ⟨g,5,none⟩=some a5:=
 ⟨h.cell 0,h.cell 1,h.cell 2,h.cell 3,h.cell 4,h.cell 5⟩
structure CmIs(c:Cm):Prop where
 a:I64 c.a
 b:I64 c.b
 n:I64 c.n
 s:c.s.size≤100000
 t:c.t.size≤100000
theorem top_range{x:St}(h:StP x)(k:Int):0≤topK x k∧topK x k≤1048576:=by
 have h1:=h.fT;have h2:=h.eT;have h3:=h.iT;have h4:=h.sT;unfold topK
 repeat' split
 all_goals omega
theorem i64_of{n:Int}(h1:0≤n)(h2:n≤1048577):I64 n:=by unfold I64;omega
theorem FitsV{w:World}{g:Nat}{M:Ms}{x:St}(h:StAt w g M x)(k a b n:Int)(s t u:ByteArray)(ha:I64 a)(hb:I64 b):Calls Tryz.prog 59 #[.pointer (some ⟨g,0,none⟩),.agg #[.int .i64 k,.int .i64 a,.int .i64 b,.int .i64 n,.string s,.string t,.string u]] w fun r w'=>r=.returned (.bool (fits x ⟨k,a,b,n,s,t,u⟩))∧Frm Nix w w':=by
 have q:=Fits_any h ⟨k,a,b,n,s,t,u⟩ ha hb;exact q
theorem oneV(k a b n:Int)(s t u:ByteArray)(c:Bool)(w:World):Calls Tryz.prog 60 #[.agg #[.int .i64 k,.int .i64 a,.int .i64 b,.int .i64 n,.string s,.string t,.string u],.bool c] w (PlOut w (one1 ⟨k,a,b,n,s,t,u⟩ c)):=by
 have q:=cOne_any ⟨k,a,b,n,s,t,u⟩ c w;exact q
theorem makes_any{w:World}{g:Nat}{M:Ms}{x:St}(h:StAt w g M x)(kd a b n:Int)(s t u:ByteArray)(has:Bool)(hb:I64 b)(hk:kd=1∨kd=3∨kd=11):
  Calls Tryz.prog 103 #[.pointer (some ⟨g,0,none⟩),.agg #[.int .i64 kd,.int .i64 a,.int .i64 b,.int .i64 n,.string s,.string t,.string u],.bool has] w (PlOut w (makesP x ⟨kd,a,b,n,s,t,u⟩ has)):=by
 obtain⟨T,hT⟩:∃ T,topK x kd=T:=⟨_,rfl⟩;have hr:=top_range h.ok kd;rw[hT] at hr;obtain⟨w1,hw1⟩:∃ w1,w1=w.alloc (.cells #[.int .i64 kd,.int .i64 (T+1),.int .i64 b,.int .i64 n,.string s,.string t,.string u] 43):=⟨_,rfl⟩;have hf:Frm Nix w w1:=by rw[hw1];exact(fR w).alloc _
 have hbk:Blk w1 w.heap.size 43 #[.int .i64 kd,.int .i64 (T+1),.int .i64 b,.int .i64 n,.string s,.string t,.string u]:=by
  rw[hw1];exact Blk.new w _ _
 have KT:Hid (∀ W,Frm Nix w W→Calls Tryz.prog 157 #[.pointer (some ⟨g,0,none⟩),.int .i64 kd] W fun e w'=>e=.returned (.int .i64 T)∧W=w'):=fun W hW=>by
  have q:=Top_any (h.nix hW) kd;rw[show topS x kd=T from hT] at q;exact q
 have KFo:=h_ (cFolder_any (h.nix hf) hb);have KFi:Hid (∀ W,Frm Nix w1 W→Calls Tryz.prog 59 #[.pointer (some ⟨g,0,none⟩),.agg #[.int .i64 kd,.int .i64 (T+1),.int .i64 b,.int .i64 n,.string s,.string t,.string u]] W fun r w'=>r=.returned (.bool (fits x ⟨kd,T+1,b,n,s,t,u⟩))∧Frm Nix W w'):=fun W hW=>FitsV ((h.nix hf).nix hW) _ _ _ _ _ _ _ (i64_of (by omega) (by omega)) hb
 have HM:Hid (makesP x ⟨kd,a,b,n,s,t,u⟩ has=if s=eS∨(kd=11∧t=eS) then ([],1) else if inS x b=false then ([],4) else if has=true then ([],5) else if T≥1048576∨fits x ⟨kd,T+1,b,n,s,t,u⟩=false then ([],2) else ([⟨kd,T+1,b,n,s,t,u⟩],0)):=by
  unfold Hid makesP;simp only[hT]
 have HF:=h_ hf;have HB:=h_ hbk;have HW:=h_ hw1;obtain⟨y0,y1,y2,y3,y4,y5,y6⟩:=blk7 hbk;clear h hb hT hf hbk hw1;generalize makesP x ⟨kd,a,b,n,s,t,u⟩ has=r at *;generalize inS x b=i1 at *;generalize fits x ⟨kd,T+1,b,n,s,t,u⟩=i2 at *;go_enter Tryz.func103,Tryz.ntmps103;show Code.wp Tryz.prog (peel 0 (bodyOf Tryz.f103)) _ _ _
 refine peelK (k':=1) fun K hK=>?_
 conv in hdC _=>whnf
 go_wp2;refine peelK (k':=2) fun K hK=>?_
 conv in hdC _=>whnf
 go_wp2_with (go_at_call 157;refine(KT.out _ ((fR w).alloc _)).mono ?_;rintro e w8 ⟨rfl,rfl⟩);refine peelK (k':=3) fun K hK=>?_
 conv in hdC _=>whnf
 go_wp2;rw[← HW.out];simp only[peel,bodyOf,Tryz.f103];have hT1:¬(T:Int)=T+1:=by omega
 by_cases hs:s=eS
 ·have HR:Hid (r=([],1)):=by unfold Hid;rw[HM.out,if_pos (.inl hs)]
  have hs2:s=⟨#[]⟩:=hs;clear hs HM;subst hs2;go_wp2_with (go_at_call 51;refine(refused_any _ _).mono ?_;rintro e w9 ⟨rfl,rfl⟩)
  go_ret2
  rw[HR.out];exact PlOut.none_ HF.out
 have hs':¬s=⟨#[]⟩:=hs;have hsq:¬s.toList=[]:=fun e=>hs (toList_nil.1 e)
 have hsq2:s.toList.isEmpty=false:=List.isEmpty_eq_false_iff.2 hsq
 by_cases h11:kd=11∧t=eS
 ·have HR:Hid (r=([],1)):=by unfold Hid;rw[HM.out,if_pos (.inr h11)]
  obtain⟨hk2,ht2⟩:=h11;have ht3:t=⟨#[]⟩:=ht2;clear ht2 HM hs;subst hk2;subst ht3;go_wp2_with (go_at_call 51;refine(refused_any _ _).mono ?_;rintro e w9 ⟨rfl,rfl⟩)
  go_ret2
  rw[HR.out];exact PlOut.none_ HF.out
 have HM2:Hid (r=if i1=false then ([],4) else if has=true then ([],5) else if T≥1048576∨i2=false then ([],2) else ([⟨kd,T+1,b,n,s,t,u⟩],0)):=by unfold Hid;rw[HM.out,if_neg (fun h=>h.elim hs h11)]
 clear HM
 by_cases hk11:kd=11
 ·have ht':¬t=⟨#[]⟩:=fun e=>h11 ⟨hk11,e⟩
  have htq:¬t.toList=[]:=fun e=>ht' (toList_nil.1 e)
  have htq2:t.toList.isEmpty=false:=List.isEmpty_eq_false_iff.2 htq;subst hk11;clear hs h11 hk
  cases i1 with
  | false=>
    have HR:Hid (r=([],4)):=by unfold Hid;rw[HM2.out,if_pos rfl]
    go_wp2_with (first | (go_at_call 51;refine(refused_any _ _).mono ?_;rintro e w9 ⟨rfl,rfl⟩) | (go_at_call 58;refine KFo.out.mono ?_;rintro e w2 ⟨rfl,hf⟩;obtain⟨y0,y1,y2,y3,y4,y5,y6⟩:=blk7 (HB.out.frm hf id);have Z2:=h_ hf;clear hf) | fail)
    go_ret2
    rw[HR.out]
    exact PlOut.none_ (HF.out.trans Z2.out)
  | true=>
    cases has with
    | true=>
      have HR:Hid (r=([],5)):=by unfold Hid;rw[HM2.out,if_neg (by decide),if_pos rfl]
      go_wp2_with (first | (go_at_call 51;refine(refused_any _ _).mono ?_;rintro e w9 ⟨rfl,rfl⟩) | (go_at_call 58;refine KFo.out.mono ?_;rintro e w2 ⟨rfl,hf⟩;obtain⟨y0,y1,y2,y3,y4,y5,y6⟩:=blk7 (HB.out.frm hf id);have Z2:=h_ hf;clear hf) | fail)
      go_ret2
      rw[HR.out]
      exact PlOut.none_ (HF.out.trans Z2.out)
    | false=>
      by_cases hq:T≥1048576
      ·have HR:Hid (r=([],2)):=by unfold Hid;rw[HM2.out,if_neg (by decide),if_neg (by decide),if_pos (.inl hq)]
       have hq2:(1048576:Int)≤T:=hq;go_wp2_with (first | (go_at_call 51;refine(refused_any _ _).mono ?_;rintro e w9 ⟨rfl,rfl⟩) | (go_at_call 58;refine KFo.out.mono ?_;rintro e w2 ⟨rfl,hf⟩;obtain⟨y0,y1,y2,y3,y4,y5,y6⟩:=blk7 (HB.out.frm hf id);have Z2:=h_ hf;clear hf) | fail)
       go_ret2
       rw[HR.out];exact PlOut.none_ (HF.out.trans Z2.out)
      ·have hq2:¬(1048576:Int)≤T:=hq
       cases i2 with
       | false=>
         have HR:Hid (r=([],2)):=by unfold Hid;rw[HM2.out,if_neg (by decide),if_neg (by decide),if_pos (.inr rfl)]
         go_wp2_with (first | (go_at_call 59;have _q:=Z2;refine(KFi.out _ Z2.out).mono ?_;rintro e w3 ⟨rfl,hf⟩;obtain⟨y0,y1,y2,y3,y4,y5,y6⟩:=blk7 (HB.out.frm (Z2.out.trans hf) id);have Z3:Hid (Frm Nix w1 w3):=Z2.out.trans hf;clear hf) | (go_at_call 51;refine(refused_any _ _).mono ?_;rintro e w9 ⟨rfl,rfl⟩) | (go_at_call 58;refine KFo.out.mono ?_;rintro e w2 ⟨rfl,hf⟩;obtain⟨y0,y1,y2,y3,y4,y5,y6⟩:=blk7 (HB.out.frm hf id);have Z2:=h_ hf;clear hf) | fail)
         go_ret2
         rw[HR.out]
         exact PlOut.none_ (HF.out.trans Z3.out)
       | true=>
         have HR:Hid (r=([⟨11,T+1,b,n,s,t,u⟩],0)):=by unfold Hid;rw[HM2.out,if_neg (by decide),if_neg (by decide),if_neg (fun h=>h.elim hq (by decide))]
         go_wp2_with (first | (go_at_call 60;refine(oneV _ _ _ _ _ _ _ _ _).mono ?_;rintro e w4 ⟨v,rfl,hsl,hf⟩;have Z4:Hid (Frm Nix w1 w4):=Z3.out.trans hf;have HSL:=h_ (hsl.mono (G':=fun k=>w.heap.size≤k) fun k hk=>by(have h1:=HF.out.size;have h2:=Z3.out.size;omega));clear hsl hf) | (go_at_call 59;have _q:=Z2;refine(KFi.out _ Z2.out).mono ?_;rintro e w3 ⟨rfl,hf⟩;obtain⟨y0,y1,y2,y3,y4,y5,y6⟩:=blk7 (HB.out.frm (Z2.out.trans hf) id);have Z3:Hid (Frm Nix w1 w3):=Z2.out.trans hf;clear hf) | (go_at_call 58;refine KFo.out.mono ?_;rintro e w2 ⟨rfl,hf⟩;obtain⟨y0,y1,y2,y3,y4,y5,y6⟩:=blk7 (HB.out.frm hf id);have Z2:=h_ hf;clear hf) | fail)
         go_ret2
         rw[HR.out];exact⟨v,rfl,HSL.out,HF.out.trans Z4.out⟩
 ·clear hs h11
  cases i1 with
  | false=>
    have HR:Hid (r=([],4)):=by unfold Hid;rw[HM2.out,if_pos rfl]
    go_wp2_with (first | (go_at_call 51;refine(refused_any _ _).mono ?_;rintro e w9 ⟨rfl,rfl⟩) | (go_at_call 58;refine KFo.out.mono ?_;rintro e w2 ⟨rfl,hf⟩;obtain⟨y0,y1,y2,y3,y4,y5,y6⟩:=blk7 (HB.out.frm hf id);have Z2:=h_ hf;clear hf) | fail)
    go_ret2
    rw[HR.out]
    exact PlOut.none_ (HF.out.trans Z2.out)
  | true=>
    cases has with
    | true=>
      have HR:Hid (r=([],5)):=by unfold Hid;rw[HM2.out,if_neg (by decide),if_pos rfl]
      go_wp2_with (first | (go_at_call 51;refine(refused_any _ _).mono ?_;rintro e w9 ⟨rfl,rfl⟩) | (go_at_call 58;refine KFo.out.mono ?_;rintro e w2 ⟨rfl,hf⟩;obtain⟨y0,y1,y2,y3,y4,y5,y6⟩:=blk7 (HB.out.frm hf id);have Z2:=h_ hf;clear hf) | fail)
      go_ret2
      rw[HR.out]
      exact PlOut.none_ (HF.out.trans Z2.out)
    | false=>
      by_cases hq:T≥1048576
      ·have HR:Hid (r=([],2)):=by unfold Hid;rw[HM2.out,if_neg (by decide),if_neg (by decide),if_pos (.inl hq)]
       have hq2:(1048576:Int)≤T:=hq;go_wp2_with (first | (go_at_call 51;refine(refused_any _ _).mono ?_;rintro e w9 ⟨rfl,rfl⟩) | (go_at_call 58;refine KFo.out.mono ?_;rintro e w2 ⟨rfl,hf⟩;obtain⟨y0,y1,y2,y3,y4,y5,y6⟩:=blk7 (HB.out.frm hf id);have Z2:=h_ hf;clear hf) | fail)
       go_ret2
       rw[HR.out];exact PlOut.none_ (HF.out.trans Z2.out)
      ·have hq2:¬(1048576:Int)≤T:=hq
       cases i2 with
       | false=>
         have HR:Hid (r=([],2)):=by unfold Hid;rw[HM2.out,if_neg (by decide),if_neg (by decide),if_pos (.inr rfl)]
         go_wp2_with (first | (go_at_call 59;have _q:=Z2;refine(KFi.out _ Z2.out).mono ?_;rintro e w3 ⟨rfl,hf⟩;obtain⟨y0,y1,y2,y3,y4,y5,y6⟩:=blk7 (HB.out.frm (Z2.out.trans hf) id);have Z3:Hid (Frm Nix w1 w3):=Z2.out.trans hf;clear hf) | (go_at_call 51;refine(refused_any _ _).mono ?_;rintro e w9 ⟨rfl,rfl⟩) | (go_at_call 58;refine KFo.out.mono ?_;rintro e w2 ⟨rfl,hf⟩;obtain⟨y0,y1,y2,y3,y4,y5,y6⟩:=blk7 (HB.out.frm hf id);have Z2:=h_ hf;clear hf) | fail)
         go_ret2
         rw[HR.out]
         exact PlOut.none_ (HF.out.trans Z3.out)
       | true=>
         have HR:Hid (r=([⟨kd,T+1,b,n,s,t,u⟩],0)):=by unfold Hid;rw[HM2.out,if_neg (by decide),if_neg (by decide),if_neg (fun h=>h.elim hq (by decide))]
         go_wp2_with (first | (go_at_call 60;refine(oneV _ _ _ _ _ _ _ _ _).mono ?_;rintro e w4 ⟨v,rfl,hsl,hf⟩;have Z4:Hid (Frm Nix w1 w4):=Z3.out.trans hf;have HSL:=h_ (hsl.mono (G':=fun k=>w.heap.size≤k) fun k hk=>by(have h1:=HF.out.size;have h2:=Z3.out.size;omega));clear hsl hf) | (go_at_call 59;have _q:=Z2;refine(KFi.out _ Z2.out).mono ?_;rintro e w3 ⟨rfl,hf⟩;obtain⟨y0,y1,y2,y3,y4,y5,y6⟩:=blk7 (HB.out.frm (Z2.out.trans hf) id);have Z3:Hid (Frm Nix w1 w3):=Z2.out.trans hf;clear hf) | (go_at_call 58;refine KFo.out.mono ?_;rintro e w2 ⟨rfl,hf⟩;obtain⟨y0,y1,y2,y3,y4,y5,y6⟩:=blk7 (HB.out.frm hf id);have Z2:=h_ hf;clear hf) | fail)
         go_ret2
         rw[HR.out];exact⟨v,rfl,HSL.out,HF.out.trans Z4.out⟩
theorem ofFolder1_any{w:World}{g:Nat}{M:Ms}{x:St}(h:StAt w g M x)(a b n:Int)(s t:ByteArray)(hc:CmIs ⟨1,a,b,n,s,t⟩):
  Calls Tryz.prog 52 #[.pointer (some ⟨g,0,none⟩),.agg #[.int .i64 1,.int .i64 a,.int .i64 b,.int .i64 n,.string s,.string t]] w (PlOut w (planP shortS tagS x ⟨1,a,b,n,s,t⟩)):=by
 obtain⟨r,hr⟩:∃ r,planP shortS tagS x ⟨1,a,b,n,s,t⟩=r:=⟨_,rfl⟩;have KS:Hid (∀ W,Calls Tryz.prog 34 #[.string s,.int .i64 64] W fun e w'=>e=.returned (.string (shortS s 64))∧Frm Nix W w'):=fun W=>Short_any s hc.s 64 W
 have KN:Hid (∀ W,Frm Nix w W→Calls Tryz.prog 104 #[.pointer (some ⟨g,0,none⟩),.int .i64 b,.string (shortS s 64)] W fun e w'=>e=.returned (.bool (namedS x b (shortS s 64)))∧Frm Nix W w'):=fun W hW=>named_any (h.nix hW) _ _
 have KM:Hid (∀ W,Frm Nix w W→Calls Tryz.prog 103 #[.pointer (some ⟨g,0,none⟩),.agg #[.int .i64 1,.int .i64 0,.int .i64 b,.int .i64 0,.string (shortS s 64),.string ⟨#[]⟩,.string ⟨#[]⟩],.bool (namedS x b (shortS s 64))] W (PlOut W r)):=fun W hW=>by
  have q:=makes_any (h.nix hW) 1 0 b 0 (shortS s 64) ⟨#[]⟩ ⟨#[]⟩ (namedS x b (shortS s 64)) hc.b (.inl rfl);rw[← hr];exact q
 have hfb:Frm Nix w (w.alloc (.cells #[.int .i64 1,.int .i64 a,.int .i64 b,.int .i64 n,.string s,.string t] 50)):=(fR w).alloc _;have HBc:Hid (∀ W,Frm Nix (w.alloc (.cells #[.int .i64 1,.int .i64 a,.int .i64 b,.int .i64 n,.string s,.string t] 50)) W→Blk W w.heap.size 50 #[.int .i64 1,.int .i64 a,.int .i64 b,.int .i64 n,.string s,.string t]):=fun W hW=>(Blk.new w 50 #[.int .i64 1,.int .i64 a,.int .i64 b,.int .i64 n,.string s,.string t]).frm hW id
 have HFb:=h_ hfb;rw[hr];clear h hc hr hfb;generalize namedS x b (shortS s 64)=q at *;generalize shortS s 64=s1 at *;go_enter Tryz.func52,Tryz.ntmps52;go_wp2_with (go_at_call 34;refine(KS.out _).mono ?_;rintro e w1 ⟨rfl,hf⟩;obtain⟨y0,y1,y2,y3,y4,y5⟩:=blk6 (HBc.out _ hf);have Z1:Hid (Frm Nix w w1):=HFb.out.trans hf;have HC:Hid (∀ W,Frm Nix w1 W→W.cell? ⟨w.heap.size,2,none⟩=some (.int .i64 b)):=(fun W hW=>(HBc.out _ (hf.trans hW)).cell 2);clear hf)
 go_region_held3 (fun W=>W.cell? ⟨w.heap.size,2,none⟩=some (.int .i64 b)) ((refine HC.out _ ?_;repeat' (first | with_reducible exact Frm.refl _ _ | with_reducible exact Y3.out | with_reducible exact Y2.out | with_reducible apply Frm.drew)))
  (first
   | (go_at_call 103;have _q:=Y2;refine(KM.out _ (Z1.out.trans Y2.out)).mono ?_;rintro e w3 ⟨v,rfl,hsl,hf⟩;have Y3:Hid (Frm Nix w1 w3):=Y2.out.trans hf;have HSL:=h_ (hsl.mono (G':=fun k=>w.heap.size≤k) fun k hk=>by(have h1:=(Z1.out.trans Y2.out).size;omega));clear hsl hf)
   | (go_at_call 104;refine(KN.out _ (Z1.out.trans (fR _).drew)).mono ?_;rintro e w2 ⟨rfl,hf⟩;have Y2:Hid (Frm Nix w1 w2):=(fR _).drew.trans hf;clear hf))
 all_goals
  go_wp2
  go_ret2
  exact⟨v,rfl,HSL.out,Z1.out.trans Y3.out⟩
theorem ofFolder2_any{w:World}{g:Nat}{M:Ms}{x:St}(h:StAt w g M x)(a b n:Int)(s t:ByteArray)(hc:CmIs ⟨2,a,b,n,s,t⟩):
  Calls Tryz.prog 52 #[.pointer (some ⟨g,0,none⟩),.agg #[.int .i64 2,.int .i64 a,.int .i64 b,.int .i64 n,.string s,.string t]] w (PlOut w (planP shortS tagS x ⟨2,a,b,n,s,t⟩)):=by
 obtain⟨r,hr⟩:∃ r,planP shortS tagS x ⟨2,a,b,n,s,t⟩=r:=⟨_,rfl⟩
 have HM:Hid ((if isI Fol.id a x.fols=false then (([],4):List Ev×Int) else if fits x ⟨2,a,0,0,⟨#[]⟩,⟨#[]⟩,⟨#[]⟩⟩=false then ([],220) else ([⟨2,a,0,0,⟨#[]⟩,⟨#[]⟩,⟨#[]⟩⟩],0))=r):=by
  unfold Hid;rw[← hr];rfl
 have KFo:Hid (∀ W,Frm Nix w W→Calls Tryz.prog 105 #[.pointer (some ⟨g,0,none⟩),.int .i64 a] W fun e w'=>e=.returned (.tuple #[.agg #[.int .i64 (folAt x a).id,.int .i64 (folAt x a).inn,.string (folAt x a).name],.bool (isI Fol.id a x.fols)])∧Frm Nix W w'):=fun W hW=>FolderS_any (h.nix hW) hc.a
 have KFi:Hid (∀ W,Frm Nix w W→Calls Tryz.prog 59 #[.pointer (some ⟨g,0,none⟩),.agg #[.int .i64 2,.int .i64 a,.int .i64 0,.int .i64 0,.string ⟨#[]⟩,.string ⟨#[]⟩,.string ⟨#[]⟩]] W fun r w'=>r=.returned (.bool (fits x ⟨2,a,0,0,⟨#[]⟩,⟨#[]⟩,⟨#[]⟩⟩))∧Frm Nix W w'):=fun W hW=>FitsV (h.nix hW) _ _ _ _ _ _ _ hc.a i64_0
 have HBe:Hid (Blk ((w.alloc (.cells #[.int .i64 2,.int .i64 a,.int .i64 b,.int .i64 n,.string s,.string t] 50)).alloc (.cells #[.int .i64 2,.int .i64 a,.int .i64 0,.int .i64 0,.string ⟨#[]⟩,.string ⟨#[]⟩,.string ⟨#[]⟩] 43)) (w.heap.size+1) 43 #[.int .i64 2,.int .i64 a,.int .i64 0,.int .i64 0,.string ⟨#[]⟩,.string ⟨#[]⟩,.string ⟨#[]⟩]):=by
  have q:=Blk.new (w.alloc (.cells #[.int .i64 2,.int .i64 a,.int .i64 b,.int .i64 n,.string s,.string t] 50)) 43 #[.int .i64 2,.int .i64 a,.int .i64 0,.int .i64 0,.string ⟨#[]⟩,.string ⟨#[]⟩,.string ⟨#[]⟩];rw[show (w.alloc (.cells #[.int .i64 2,.int .i64 a,.int .i64 b,.int .i64 n,.string s,.string t] 50)).heap.size=w.heap.size+1 by simp] at q;exact q
 have HFb:Hid (Frm Nix w ((w.alloc (.cells #[.int .i64 2,.int .i64 a,.int .i64 b,.int .i64 n,.string s,.string t] 50)).alloc (.cells #[.int .i64 2,.int .i64 a,.int .i64 0,.int .i64 0,.string ⟨#[]⟩,.string ⟨#[]⟩,.string ⟨#[]⟩] 43))):=((fR w).alloc _).alloc _;rw[hr];clear h hc hr;generalize isI Fol.id a x.fols=i1 at *;generalize fits x ⟨2,a,0,0,⟨#[]⟩,⟨#[]⟩,⟨#[]⟩⟩=i2 at *;generalize folAt x a=fo at *
 cases i1 with
 | false=>
   have HR:Hid (r=([],4)):=by unfold Hid;rw[← HM.out,if_pos rfl]
   go_enter Tryz.func52,Tryz.ntmps52;go_wp2_with (first | (go_at_call 51;have _q:=Z2;refine(refused_any _ _).mono ?_;rintro e w9 ⟨rfl,rfl⟩) | (go_at_call 105;refine(KFo.out _ HFb.out).mono ?_;rintro e w2 ⟨rfl,hf⟩;have hbE:=HBe.out.frm hf id;obtain⟨y0,y1,y2,y3,y4,y5,y6⟩:=blk7 hbE;have yl:=hbE.lt;clear hbE;have Y2:=h_ hf;have Z2:Hid (Frm Nix w w2):=HFb.out.trans hf;clear hf))
   go_ret2
   rw[HR.out]
   exact PlOut.none_ (Z2.out.alloc _)
 | true=>
   cases i2 with
   | false=>
     have HR:Hid (r=([],220)):=by unfold Hid;rw[← HM.out,if_neg (by decide),if_pos rfl]
     go_enter Tryz.func52,Tryz.ntmps52;go_wp2_with (first | (go_at_call 51;have _q:=Z3;refine(refused_any _ _).mono ?_;rintro e w9 ⟨rfl,rfl⟩) | (go_at_call 59;have _q:=Z2;refine(KFi.out _ (Z2.out.alloc _)).mono ?_;rintro e w3 ⟨rfl,hf⟩;have hbE:=HBe.out.frm ((Y2.out.alloc _).trans hf) id;obtain⟨y0,y1,y2,y3,y4,y5,y6⟩:=blk7 hbE;have yl:=hbE.lt;clear hbE;have Z3:Hid (Frm Nix w w3):=(Z2.out.alloc _).trans hf;clear hf) | (go_at_call 105;refine(KFo.out _ HFb.out).mono ?_;rintro e w2 ⟨rfl,hf⟩;have hbE:=HBe.out.frm hf id;obtain⟨y0,y1,y2,y3,y4,y5,y6⟩:=blk7 hbE;have yl:=hbE.lt;clear hbE;have Y2:=h_ hf;have Z2:Hid (Frm Nix w w2):=HFb.out.trans hf;clear hf))
     go_ret2
     rw[HR.out]
     exact PlOut.none_ Z3.out
   | true=>
     have HR:Hid (r=([⟨2,a,0,0,⟨#[]⟩,⟨#[]⟩,⟨#[]⟩⟩],0)):=by unfold Hid;rw[← HM.out,if_neg (by decide),if_neg (by decide)]
     go_enter Tryz.func52,Tryz.ntmps52;go_wp2_with (first | (go_at_call 60;have _q:=Z3;refine(oneV _ _ _ _ _ _ _ _ _).mono ?_;rintro e w4 ⟨v,rfl,hsl,hf⟩;have Z4:Hid (Frm Nix w w4):=Z3.out.trans hf;have HSL:=h_ (hsl.mono (G':=fun k=>w.heap.size≤k) fun k hk=>by(have h2:=Z3.out.size;omega));clear hsl hf) | (go_at_call 59;have _q:=Z2;refine(KFi.out _ (Z2.out.alloc _)).mono ?_;rintro e w3 ⟨rfl,hf⟩;have hbE:=HBe.out.frm ((Y2.out.alloc _).trans hf) id;obtain⟨y0,y1,y2,y3,y4,y5,y6⟩:=blk7 hbE;have yl:=hbE.lt;clear hbE;have Z3:Hid (Frm Nix w w3):=(Z2.out.alloc _).trans hf;clear hf) | (go_at_call 105;refine(KFo.out _ HFb.out).mono ?_;rintro e w2 ⟨rfl,hf⟩;have hbE:=HBe.out.frm hf id;obtain⟨y0,y1,y2,y3,y4,y5,y6⟩:=blk7 hbE;have yl:=hbE.lt;clear hbE;have Y2:=h_ hf;have Z2:Hid (Frm Nix w w2):=HFb.out.trans hf;clear hf))
     go_ret2
     rw[HR.out];exact⟨v,rfl,HSL.out,Z4.out⟩
def tagP(x:St)(a n:Int)(s:ByteArray):List Ev×Int:=
 if tagS s=eS then ([],1) else if isI Itm.id a x.itms=false then ([],4) else if fits x ⟨10,a,0,n,tagS s,eS,eS⟩=false then ([],2) else one1 ⟨10,a,0,n,tagS s,eS,eS⟩ (!decide (((itmAt x a).tags.any fun y=>decide (y=tagS s))=decide (n=1)))
theorem itmAt_id{x:St}(h:StP x)(a:Int):(itmAt x a).id=if isI Itm.id a x.itms=true then a else 0:=by
 unfold itmAt;rw[← atI_isI]
 cases hq:atI Itm.id a x.itms with
 | none=>rfl
 | some t=>exact(atI_mem hq).2
theorem itm_pos{x:St}(h:StP x){a:Int}(hi:isI Itm.id a x.itms=true):¬a=0:=by
 obtain⟨t,ht,rfl⟩:=isI_iff.1 hi;have:=(h.iId ht).1;omega
theorem itmAt_at{x:St}{a:Int}{q:Itm}(h:atI Itm.id a x.itms=some q):itmAt x a=q:=by unfold itmAt;rw[h];rfl
theorem plan9(x:St)(a b n:Int)(s t:ByteArray)(hn:n=0∨n=1):planP shortS tagS x ⟨9,a,b,n,s,t⟩=tagP x a n s:=by
 unfold tagP;have h1:¬¬(n=0∨n=1):=fun h=>h hn
 cases hq:atI Itm.id a x.itms with
 | none=>
   have hi:=isI_no hq
   simp[planP,hn,hq,hi]
 | some q=>
   have hi:=isI_at hq;have:=itmAt_at hq;simp[planP,hn,hq,hi,this]
theorem plan78(x:St)(k a b n:Int)(s t:ByteArray)(hk:k=7∨k=8)(hn:n=0∨n=1):planP shortS tagS x ⟨k,a,b,n,s,t⟩=if isI Itm.id a x.itms=false then ([],4) else if k=7 then one1 ⟨8,a,0,n,eS,eS,eS⟩ (!decide ((itmAt x a).read=decide (n=1))) else one1 ⟨9,a,0,n,eS,eS,eS⟩ (!decide ((itmAt x a).star=decide (n=1))):=by
 cases hq:atI Itm.id a x.itms with
 | none=>
   have hi:=isI_no hq
   rcases hk with rfl | rfl<;>simp[planP,hn,hq,hi]
 | some q=>
   have hi:=isI_at hq;have:=itmAt_at hq;rcases hk with rfl | rfl<;>simp[planP,hn,hq,hi,this]
theorem planN(x:St)(k a b n:Int)(s t:ByteArray)(hk:k=7∨k=8∨k=9)(hn:¬(n=0∨n=1)):planP shortS tagS x ⟨k,a,b,n,s,t⟩=([],1):=by
 rcases hk with rfl | rfl | rfl<;>simp[planP,hn]
theorem str_single(l:List ByteArray):l.map Value.string=l.flatMap fun i=>[Value.string i]:=by
 induction l with
 | nil=>rfl
 | cons a l ih=>rw[List.map_cons,ih,List.flatMap_cons];rfl
theorem ContainsS_any{W:World}{G:Nat→Prop}{v:Sl}{l:List ByteArray}(h:SlIn W G 1 v l.length (l.map Value.string))(hn:l.length≤100000)(x:ByteArray):
  Calls Tryz.prog 162 #[.slice v.1 l.length v.2,.string x] W fun e w'=>e=.returned (.bool (l.any fun y=>decide (y=x)))∧w'=W:=by
 have hc:Lib.containsS l x=l.any fun y=>decide (y=x):=by
  rw[Bool.eq_iff_iff,Lib.containsS_iff];simp
 rcases Nat.eq_zero_or_pos l.length with h0 | h0
 ·have:l=[]:=List.eq_nil_of_length_eq_zero h0
  subst this;exact Tryz.slices_Contains_string_empty v.1 v.2 x W
 ·rw[str_single] at h
  obtain⟨b,off,e,-,-,hq⟩:=h.at_ (f:=fun i=>[Value.string i]) (fun _=>rfl) (by decide) h0;rw[e]
  have:=Tryz.slices_Contains_string b off l.length v.2 l x W (Nat.le_refl _) (by omega) (fun j hj=>by
   have:=hq j hj 0 _ rfl;rw[Nat.mul_one,Nat.add_zero] at this;rw[this,List.getD_eq_getElem?_getD,List.getElem?_eq_getElem hj];rfl)
  rw[List.take_length,hc] at this;exact this
theorem ofTag_any{w:World}{g:Nat}{M:Ms}{x:St}(h:StAt w g M x)(k a b n:Int)(s t:ByteArray)(hc:CmIs ⟨k,a,b,n,s,t⟩)(hn:n=0∨n=1){v:Sl}{G:Nat→Prop}(hv:SlIn w G 1 v (itmAt x a).tags.length ((itmAt x a).tags.map Value.string)):
  Calls Tryz.prog 108 #[.pointer (some ⟨g,0,none⟩),.agg #[.int .i64 k,.int .i64 a,.int .i64 b,.int .i64 n,.string s,.string t],.agg #[.int .i64 (itmAt x a).id,.int .i64 (itmAt x a).feed,.int .i64 (itmAt x a).date,.string (itmAt x a).guid,.string (itmAt x a).title,.string (itmAt x a).link,.bool (itmAt x a).read,.bool (itmAt x a).star,.slice v.1 (itmAt x a).tags.length v.2]] w (PlOut w (tagP x a n s)):=by
 obtain⟨r,hr⟩:∃ r,tagP x a n s=r:=⟨_,rfl⟩;have HM:Hid ((if tagS s=eS then (([],1):List Ev×Int) else if isI Itm.id a x.itms=false then ([],4) else if fits x ⟨10,a,0,n,tagS s,eS,eS⟩=false then ([],2) else one1 ⟨10,a,0,n,tagS s,eS,eS⟩ (!decide (((itmAt x a).tags.any fun y=>decide (y=tagS s))=decide (n=1))))=r):=hr;have hid:=itmAt_id h.ok a;have hpos:=fun hi:isI Itm.id a x.itms=true=>itm_pos h.ok hi
 have htl:(itmAt x a).tags.length≤100000:=by have:=(itmAt_ok h.ok a).2;omega
 have KW:Hid (∀ W,Calls Tryz.prog 160 #[.string s] W (StrsOut W (wordsB s))):=fun W=>Words_any s W (by have:=hc.s;dsimp only at this;omega)
 have hts:tagS s=match wordsB s with | []=>eS | w::_=>if tagOk w=true then w else eS:=rfl
 generalize hq:itmAt x a=q at *;have HBc:Hid (∀ W,Frm Nix ((w.alloc (.cells #[.int .i64 k,.int .i64 a,.int .i64 b,.int .i64 n,.string s,.string t] 50)).alloc (.cells #[.int .i64 q.id,.int .i64 q.feed,.int .i64 q.date,.string q.guid,.string q.title,.string q.link,.bool q.read,.bool q.star,.slice v.1 q.tags.length v.2] 91)) W→Blk W w.heap.size 50 #[.int .i64 k,.int .i64 a,.int .i64 b,.int .i64 n,.string s,.string t]):=fun W hW=>((Blk.new w 50 #[.int .i64 k,.int .i64 a,.int .i64 b,.int .i64 n,.string s,.string t]).alloc _).frm hW id
 have HBt:Hid (∀ W,Frm Nix ((w.alloc (.cells #[.int .i64 k,.int .i64 a,.int .i64 b,.int .i64 n,.string s,.string t] 50)).alloc (.cells #[.int .i64 q.id,.int .i64 q.feed,.int .i64 q.date,.string q.guid,.string q.title,.string q.link,.bool q.read,.bool q.star,.slice v.1 q.tags.length v.2] 91)) W→Blk W (w.heap.size+1) 91 #[.int .i64 q.id,.int .i64 q.feed,.int .i64 q.date,.string q.guid,.string q.title,.string q.link,.bool q.read,.bool q.star,.slice v.1 q.tags.length v.2]):=fun W hW=>by
  have:=(Blk.new (w.alloc (.cells #[.int .i64 k,.int .i64 a,.int .i64 b,.int .i64 n,.string s,.string t] 50)) 91 #[.int .i64 q.id,.int .i64 q.feed,.int .i64 q.date,.string q.guid,.string q.title,.string q.link,.bool q.read,.bool q.star,.slice v.1 q.tags.length v.2]).frm hW id
  simpa using this
 have HFb:Hid (Frm Nix w ((w.alloc (.cells #[.int .i64 k,.int .i64 a,.int .i64 b,.int .i64 n,.string s,.string t] 50)).alloc (.cells #[.int .i64 q.id,.int .i64 q.feed,.int .i64 q.date,.string q.guid,.string q.title,.string q.link,.bool q.read,.bool q.star,.slice v.1 q.tags.length v.2] 91))):=((fR w).alloc _).alloc _;have HV:=h_ hv;have HS:=h_ h;have HTL:=h_ htl;have hca:I64 a:=hc.a;rw[hr];clear h hc hr hv htl
 cases hwb:wordsB s with
 | nil=>
   have HR:Hid (r=([],1)):=by unfold Hid;rw[← HM.out,if_pos (by rw[hts,hwb])]
   rw[hwb] at KW;clear hts hwb HM hid hpos hq;go_enter Tryz.func108,Tryz.ntmps108;go_wp2_with (first | (go_at_call 51;refine(refused_any _ _).mono ?_;rintro e w9 ⟨rfl,rfl⟩) | (go_at_call 160;refine(KW.out _).mono ?_;rintro e w2 ⟨A,c,rfl,hrow⟩;have Y2:Hid (Frm Nix ((w.alloc (.cells #[.int .i64 k,.int .i64 a,.int .i64 b,.int .i64 n,.string s,.string t] 50)).alloc (.cells #[.int .i64 q.id,.int .i64 q.feed,.int .i64 q.date,.string q.guid,.string q.title,.string q.link,.bool q.read,.bool q.star,.slice v.1 q.tags.length v.2] 91)) w2):=hrow.frm;obtain⟨y0,y1,y2,y3,y4,y5⟩:=blk6 (HBc.out _ Y2.out);clear hrow))
   go_ret2
   rw[HR.out]
   exact PlOut.none_ (HFb.out.trans Y2.out)
 | cons x0 ws=>
   rw[hwb] at KW hts;have hl:(0:Int)<((ws.length:Int)+1):=by omega
   have hl2:¬((ws.length:Int)+1=0):=by omega
   have KG:Hid (∀ W,Calls Tryz.prog 161 #[.string x0] W fun e w'=>e=.returned (.bool (tagOk x0))∧Frm Nix W w'):=fun W=>eTag_any x0 W
   cases hto:tagOk x0 with
   | false=>
     have HR:Hid (r=([],1)):=by unfold Hid;rw[← HM.out,if_pos (by rw[hts];show (if tagOk x0=true then x0 else eS)=eS;rw[hto];rfl)]
     rw[hto] at KG;clear hts hwb HM hid hpos hq hto;go_enter Tryz.func108,Tryz.ntmps108;go_wp2_with (first | (go_at_call 51;refine(refused_any _ _).mono ?_;rintro e w9 ⟨rfl,rfl⟩) | (go_at_call 161;have _q:=Y2;refine(KG.out _).mono ?_;rintro e w3 ⟨rfl,hf⟩;have Y3:Hid (Frm Nix ((w.alloc (.cells #[.int .i64 k,.int .i64 a,.int .i64 b,.int .i64 n,.string s,.string t] 50)).alloc (.cells #[.int .i64 q.id,.int .i64 q.feed,.int .i64 q.date,.string q.guid,.string q.title,.string q.link,.bool q.read,.bool q.star,.slice v.1 q.tags.length v.2] 91)) w3):=Y2.out.trans hf;have cb:=(hf.cell HLa.out id).trans HA.out;obtain⟨y0,y1,y2,y3,y4,y5⟩:=blk6 (HBc.out _ Y3.out);obtain⟨z0,z1,z2,z3,z4,z5,z6,z7,z8⟩:=blk9 (HBt.out _ Y3.out);have HCb:=h_ cb;clear hf) | (go_at_call 160;refine(KW.out _).mono ?_;rintro e w2 ⟨A,c,rfl,hrow⟩;obtain⟨ad,u,rfl,-,had,hu,cx⟩:=hrow.rd.at_ (k:=0) (by simp);simp at hu;subst hu;have ca:w2.cell? ad=some (.string x0):=cx;have HA:=h_ ca;have HLa:=h_ had;clear cx;have Y2:Hid (Frm Nix ((w.alloc (.cells #[.int .i64 k,.int .i64 a,.int .i64 b,.int .i64 n,.string s,.string t] 50)).alloc (.cells #[.int .i64 q.id,.int .i64 q.feed,.int .i64 q.date,.string q.guid,.string q.title,.string q.link,.bool q.read,.bool q.star,.slice v.1 q.tags.length v.2] 91)) w2):=hrow.frm;obtain⟨y0,y1,y2,y3,y4,y5⟩:=blk6 (HBc.out _ Y2.out);clear hrow))
     go_ret2
     rw[HR.out]
     exact PlOut.none_ (HFb.out.trans Y3.out)
   | true=>
     rw[hto] at KG;have hts2:tagS s=x0:=by rw[hts];show (if tagOk x0=true then x0 else eS)=x0;rw[hto,if_pos rfl]
     have hne:=tagOk_ne hto;rw[hts2,if_neg hne] at HM;clear hts hts2 hwb hne hto
     cases hi:isI Itm.id a x.itms with
     | false=>
       have HR:Hid (r=([],4)):=by unfold Hid;rw[← HM.out,if_pos hi]
       rw[hi] at hid;have hid0:(q.id==0)=true:=beq_iff_eq.2 hid;clear HM hid hpos hq hi;go_enter Tryz.func108,Tryz.ntmps108;go_wp2_with (first | (go_at_call 51;refine(refused_any _ _).mono ?_;rintro e w9 ⟨rfl,rfl⟩) | (go_at_call 161;have _q:=Y2;refine(KG.out _).mono ?_;rintro e w3 ⟨rfl,hf⟩;have Y3:Hid (Frm Nix ((w.alloc (.cells #[.int .i64 k,.int .i64 a,.int .i64 b,.int .i64 n,.string s,.string t] 50)).alloc (.cells #[.int .i64 q.id,.int .i64 q.feed,.int .i64 q.date,.string q.guid,.string q.title,.string q.link,.bool q.read,.bool q.star,.slice v.1 q.tags.length v.2] 91)) w3):=Y2.out.trans hf;have cb:=(hf.cell HLa.out id).trans HA.out;obtain⟨y0,y1,y2,y3,y4,y5⟩:=blk6 (HBc.out _ Y3.out);obtain⟨z0,z1,z2,z3,z4,z5,z6,z7,z8⟩:=blk9 (HBt.out _ Y3.out);have HCb:=h_ cb;clear hf) | (go_at_call 160;refine(KW.out _).mono ?_;rintro e w2 ⟨A,c,rfl,hrow⟩;obtain⟨ad,u,rfl,-,had,hu,cx⟩:=hrow.rd.at_ (k:=0) (by simp);simp at hu;subst hu;have ca:w2.cell? ad=some (.string x0):=cx;have HA:=h_ ca;have HLa:=h_ had;clear cx;have Y2:Hid (Frm Nix ((w.alloc (.cells #[.int .i64 k,.int .i64 a,.int .i64 b,.int .i64 n,.string s,.string t] 50)).alloc (.cells #[.int .i64 q.id,.int .i64 q.feed,.int .i64 q.date,.string q.guid,.string q.title,.string q.link,.bool q.read,.bool q.star,.slice v.1 q.tags.length v.2] 91)) w2):=hrow.frm;obtain⟨y0,y1,y2,y3,y4,y5⟩:=blk6 (HBc.out _ Y2.out);clear hrow) | fail);have HC:Hid (∀ W,Frm Nix w3 W→W.cell? ⟨w.heap.size,1,none⟩=some (.int .i64 a)∧W.cell? ⟨w.heap.size,3,none⟩=some (.int .i64 n)∧W.cell? ad=some (.string x0)):=fun W hW=>⟨(HBc.out _ (Y3.out.trans hW)).cell 1,(HBc.out _ (Y3.out.trans hW)).cell 3,(hW.cell (World.block_lt_of_cell? w3 _ HCb.out) id).trans HCb.out⟩
       go_region_held3 (fun W=>W.cell? ⟨w.heap.size,1,none⟩=some (.int .i64 a)∧W.cell? ⟨w.heap.size,3,none⟩=some (.int .i64 n)∧W.cell? ad=some (.string x0)) ((refine HC.out _ ?_;repeat' (first | with_reducible exact Frm.refl _ _ | with_reducible apply Frm.drew | with_reducible apply Frm.alloc))) (fail)
       obtain⟨w4,hw4⟩:∃ w4,w4=(w3.alloc (.cells #[.int .i64 10,.int .i64 a,.int .i64 0,.int .i64 n,.string x0,.string ⟨#[]⟩,.string ⟨#[]⟩] 43)).drew:=⟨_,rfl⟩;rw[← hw4];have hf4:Frm Nix w3 w4:=by rw[hw4];exact((fR w3).alloc _).drew
       have HB4:Hid (∀ W,Frm Nix w4 W→Blk W w.heap.size 50 #[.int .i64 k,.int .i64 a,.int .i64 b,.int .i64 n,.string s,.string t]∧Blk W (w.heap.size+1) 91 #[.int .i64 q.id,.int .i64 q.feed,.int .i64 q.date,.string q.guid,.string q.title,.string q.link,.bool q.read,.bool q.star,.slice v.1 q.tags.length v.2]∧Blk W w3.heap.size 43 #[.int .i64 10,.int .i64 a,.int .i64 0,.int .i64 n,.string x0,.string ⟨#[]⟩,.string ⟨#[]⟩]):=fun W hW=>⟨HBc.out _ ((Y3.out.trans hf4).trans hW),HBt.out _ ((Y3.out.trans hf4).trans hW),by(have q:=Blk.new w3 43 #[.int .i64 10,.int .i64 a,.int .i64 0,.int .i64 n,.string x0,.string ⟨#[]⟩,.string ⟨#[]⟩];have q2:=q.drew;rw[← hw4] at q2;exact q2.frm hW id)⟩
       have Z4:Hid (Frm Nix w w4):=HFb.out.trans (Y3.out.trans hf4);obtain⟨b1,b2,b3⟩:=HB4.out w4 (fR w4);obtain⟨y0,y1,y2,y3,y4,y5⟩:=blk6 b1;obtain⟨z0,z1,z2,z3,z4,z5,z6,z7,z8⟩:=blk9 b2;obtain⟨e0,e1,e2,e3,e4,e5,e6⟩:=blk7 b3;clear hw4 hf4 b1 b2 b3 HC;go_wp2_with (first | (go_at_call 51;refine(refused_any _ _).mono ?_;rintro e w9 ⟨rfl,rfl⟩) | fail)
       go_ret2
       rw[HR.out]
       exact PlOut.none_ Z4.out
     | true=>
       have hne0:=hpos hi;rw[hi,if_pos rfl] at hid;have hid0:(q.id==0)=false:=beq_eq_false_iff_ne.2 (by rw[hid];exact hne0);rw[hi,if_neg (by decide)] at HM;have KFi:Hid (∀ W,Frm Nix w W→Calls Tryz.prog 59 #[.pointer (some ⟨g,0,none⟩),.agg #[.int .i64 10,.int .i64 a,.int .i64 0,.int .i64 n,.string x0,.string ⟨#[]⟩,.string ⟨#[]⟩]] W fun r w'=>r=.returned (.bool (fits x ⟨10,a,0,n,x0,⟨#[]⟩,⟨#[]⟩⟩))∧Frm Nix W w'):=fun W hW=>FitsV (HS.out.nix hW) _ _ _ _ _ _ _ hca i64_0
       cases hft:fits x ⟨10,a,0,n,x0,⟨#[]⟩,⟨#[]⟩⟩ with
       | false=>
         have HR:Hid (r=([],2)):=HM.out.symm.trans (if_pos hft);rw[hft] at KFi;clear HM hid hpos hq hi hft hne0;go_enter Tryz.func108,Tryz.ntmps108;go_wp2_with (first | (go_at_call 51;refine(refused_any _ _).mono ?_;rintro e w9 ⟨rfl,rfl⟩) | (go_at_call 161;have _q:=Y2;refine(KG.out _).mono ?_;rintro e w3 ⟨rfl,hf⟩;have Y3:Hid (Frm Nix ((w.alloc (.cells #[.int .i64 k,.int .i64 a,.int .i64 b,.int .i64 n,.string s,.string t] 50)).alloc (.cells #[.int .i64 q.id,.int .i64 q.feed,.int .i64 q.date,.string q.guid,.string q.title,.string q.link,.bool q.read,.bool q.star,.slice v.1 q.tags.length v.2] 91)) w3):=Y2.out.trans hf;have cb:=(hf.cell HLa.out id).trans HA.out;obtain⟨y0,y1,y2,y3,y4,y5⟩:=blk6 (HBc.out _ Y3.out);obtain⟨z0,z1,z2,z3,z4,z5,z6,z7,z8⟩:=blk9 (HBt.out _ Y3.out);have HCb:=h_ cb;clear hf) | (go_at_call 160;refine(KW.out _).mono ?_;rintro e w2 ⟨A,c,rfl,hrow⟩;obtain⟨ad,u,rfl,-,had,hu,cx⟩:=hrow.rd.at_ (k:=0) (by simp);simp at hu;subst hu;have ca:w2.cell? ad=some (.string x0):=cx;have HA:=h_ ca;have HLa:=h_ had;clear cx;have Y2:Hid (Frm Nix ((w.alloc (.cells #[.int .i64 k,.int .i64 a,.int .i64 b,.int .i64 n,.string s,.string t] 50)).alloc (.cells #[.int .i64 q.id,.int .i64 q.feed,.int .i64 q.date,.string q.guid,.string q.title,.string q.link,.bool q.read,.bool q.star,.slice v.1 q.tags.length v.2] 91)) w2):=hrow.frm;obtain⟨y0,y1,y2,y3,y4,y5⟩:=blk6 (HBc.out _ Y2.out);clear hrow) | fail);have HC:Hid (∀ W,Frm Nix w3 W→W.cell? ⟨w.heap.size,1,none⟩=some (.int .i64 a)∧W.cell? ⟨w.heap.size,3,none⟩=some (.int .i64 n)∧W.cell? ad=some (.string x0)):=fun W hW=>⟨(HBc.out _ (Y3.out.trans hW)).cell 1,(HBc.out _ (Y3.out.trans hW)).cell 3,(hW.cell (World.block_lt_of_cell? w3 _ HCb.out) id).trans HCb.out⟩
         go_region_held3 (fun W=>W.cell? ⟨w.heap.size,1,none⟩=some (.int .i64 a)∧W.cell? ⟨w.heap.size,3,none⟩=some (.int .i64 n)∧W.cell? ad=some (.string x0)) ((refine HC.out _ ?_;repeat' (first | with_reducible exact Frm.refl _ _ | with_reducible apply Frm.drew | with_reducible apply Frm.alloc))) (fail)
         obtain⟨w4,hw4⟩:∃ w4,w4=(w3.alloc (.cells #[.int .i64 10,.int .i64 a,.int .i64 0,.int .i64 n,.string x0,.string ⟨#[]⟩,.string ⟨#[]⟩] 43)).drew:=⟨_,rfl⟩;rw[← hw4];have hf4:Frm Nix w3 w4:=by rw[hw4];exact((fR w3).alloc _).drew
         have HB4:Hid (∀ W,Frm Nix w4 W→Blk W w.heap.size 50 #[.int .i64 k,.int .i64 a,.int .i64 b,.int .i64 n,.string s,.string t]∧Blk W (w.heap.size+1) 91 #[.int .i64 q.id,.int .i64 q.feed,.int .i64 q.date,.string q.guid,.string q.title,.string q.link,.bool q.read,.bool q.star,.slice v.1 q.tags.length v.2]∧Blk W w3.heap.size 43 #[.int .i64 10,.int .i64 a,.int .i64 0,.int .i64 n,.string x0,.string ⟨#[]⟩,.string ⟨#[]⟩]):=fun W hW=>⟨HBc.out _ ((Y3.out.trans hf4).trans hW),HBt.out _ ((Y3.out.trans hf4).trans hW),by(have q:=Blk.new w3 43 #[.int .i64 10,.int .i64 a,.int .i64 0,.int .i64 n,.string x0,.string ⟨#[]⟩,.string ⟨#[]⟩];have q2:=q.drew;rw[← hw4] at q2;exact q2.frm hW id)⟩
         have Z4:Hid (Frm Nix w w4):=HFb.out.trans (Y3.out.trans hf4);obtain⟨b1,b2,b3⟩:=HB4.out w4 (fR w4);obtain⟨y0,y1,y2,y3,y4,y5⟩:=blk6 b1;obtain⟨z0,z1,z2,z3,z4,z5,z6,z7,z8⟩:=blk9 b2;obtain⟨e0,e1,e2,e3,e4,e5,e6⟩:=blk7 b3;clear hw4 hf4 b1 b2 b3 HC;go_wp2_with (first | (go_at_call 51;refine(refused_any _ _).mono ?_;rintro e w9 ⟨rfl,rfl⟩) | (go_at_call 59;refine(KFi.out _ Z4.out).mono ?_;rintro e w5 ⟨rfl,hf⟩;have Y5:=h_ hf;have Z5:Hid (Frm Nix w w5):=Z4.out.trans hf;clear hf) | fail)
         go_ret2
         rw[HR.out]
         exact PlOut.none_ Z5.out
       | true=>
         have HR:Hid (r=one1 ⟨10,a,0,n,x0,⟨#[]⟩,⟨#[]⟩⟩ (!decide ((q.tags.any fun y=>decide (y=x0))=decide (n=1)))):=by unfold Hid;rw[← HM.out];rw[show fits x ⟨10,a,0,n,x0,eS,eS⟩=true from hft,if_neg (by decide)];rfl
         rw[hft] at KFi;have KC:Hid (∀ W,Frm Nix w W→Calls Tryz.prog 162 #[.slice v.1 q.tags.length v.2,.string x0] W fun e w'=>e=.returned (.bool (q.tags.any fun y=>decide (y=x0)))∧w'=W):=fun W hW=>ContainsS_any (HV.out.nix hW) HTL.out x0
         clear HM hid hpos hq hi hft hne0;generalize (q.tags.any fun y=>decide (y=x0))=cc at *
         have HCond:Hid ((cc !=(n==1))=(!decide (cc=decide (n=1)))):=by
          unfold Hid;rw[show (n==1)=decide (n=1) from rfl]
          cases cc<;>cases decide (n=1)<;>rfl
         go_enter Tryz.func108,Tryz.ntmps108;go_wp2_with (first | (go_at_call 51;refine(refused_any _ _).mono ?_;rintro e w9 ⟨rfl,rfl⟩) | (go_at_call 161;have _q:=Y2;refine(KG.out _).mono ?_;rintro e w3 ⟨rfl,hf⟩;have Y3:Hid (Frm Nix ((w.alloc (.cells #[.int .i64 k,.int .i64 a,.int .i64 b,.int .i64 n,.string s,.string t] 50)).alloc (.cells #[.int .i64 q.id,.int .i64 q.feed,.int .i64 q.date,.string q.guid,.string q.title,.string q.link,.bool q.read,.bool q.star,.slice v.1 q.tags.length v.2] 91)) w3):=Y2.out.trans hf;have cb:=(hf.cell HLa.out id).trans HA.out;obtain⟨y0,y1,y2,y3,y4,y5⟩:=blk6 (HBc.out _ Y3.out);obtain⟨z0,z1,z2,z3,z4,z5,z6,z7,z8⟩:=blk9 (HBt.out _ Y3.out);have HCb:=h_ cb;clear hf) | (go_at_call 160;refine(KW.out _).mono ?_;rintro e w2 ⟨A,c,rfl,hrow⟩;obtain⟨ad,u,rfl,-,had,hu,cx⟩:=hrow.rd.at_ (k:=0) (by simp);simp at hu;subst hu;have ca:w2.cell? ad=some (.string x0):=cx;have HA:=h_ ca;have HLa:=h_ had;clear cx;have Y2:Hid (Frm Nix ((w.alloc (.cells #[.int .i64 k,.int .i64 a,.int .i64 b,.int .i64 n,.string s,.string t] 50)).alloc (.cells #[.int .i64 q.id,.int .i64 q.feed,.int .i64 q.date,.string q.guid,.string q.title,.string q.link,.bool q.read,.bool q.star,.slice v.1 q.tags.length v.2] 91)) w2):=hrow.frm;obtain⟨y0,y1,y2,y3,y4,y5⟩:=blk6 (HBc.out _ Y2.out);clear hrow) | fail);have HC:Hid (∀ W,Frm Nix w3 W→W.cell? ⟨w.heap.size,1,none⟩=some (.int .i64 a)∧W.cell? ⟨w.heap.size,3,none⟩=some (.int .i64 n)∧W.cell? ad=some (.string x0)):=fun W hW=>⟨(HBc.out _ (Y3.out.trans hW)).cell 1,(HBc.out _ (Y3.out.trans hW)).cell 3,(hW.cell (World.block_lt_of_cell? w3 _ HCb.out) id).trans HCb.out⟩
         go_region_held3 (fun W=>W.cell? ⟨w.heap.size,1,none⟩=some (.int .i64 a)∧W.cell? ⟨w.heap.size,3,none⟩=some (.int .i64 n)∧W.cell? ad=some (.string x0)) ((refine HC.out _ ?_;repeat' (first | with_reducible exact Frm.refl _ _ | with_reducible apply Frm.drew | with_reducible apply Frm.alloc))) (fail)
         obtain⟨w4,hw4⟩:∃ w4,w4=(w3.alloc (.cells #[.int .i64 10,.int .i64 a,.int .i64 0,.int .i64 n,.string x0,.string ⟨#[]⟩,.string ⟨#[]⟩] 43)).drew:=⟨_,rfl⟩;rw[← hw4];have hf4:Frm Nix w3 w4:=by rw[hw4];exact((fR w3).alloc _).drew
         have HB4:Hid (∀ W,Frm Nix w4 W→Blk W w.heap.size 50 #[.int .i64 k,.int .i64 a,.int .i64 b,.int .i64 n,.string s,.string t]∧Blk W (w.heap.size+1) 91 #[.int .i64 q.id,.int .i64 q.feed,.int .i64 q.date,.string q.guid,.string q.title,.string q.link,.bool q.read,.bool q.star,.slice v.1 q.tags.length v.2]∧Blk W w3.heap.size 43 #[.int .i64 10,.int .i64 a,.int .i64 0,.int .i64 n,.string x0,.string ⟨#[]⟩,.string ⟨#[]⟩]):=fun W hW=>⟨HBc.out _ ((Y3.out.trans hf4).trans hW),HBt.out _ ((Y3.out.trans hf4).trans hW),by(have q:=Blk.new w3 43 #[.int .i64 10,.int .i64 a,.int .i64 0,.int .i64 n,.string x0,.string ⟨#[]⟩,.string ⟨#[]⟩];have q2:=q.drew;rw[← hw4] at q2;exact q2.frm hW id)⟩
         have Z4:Hid (Frm Nix w w4):=HFb.out.trans (Y3.out.trans hf4);obtain⟨b1,b2,b3⟩:=HB4.out w4 (fR w4);obtain⟨y0,y1,y2,y3,y4,y5⟩:=blk6 b1;obtain⟨z0,z1,z2,z3,z4,z5,z6,z7,z8⟩:=blk9 b2;obtain⟨e0,e1,e2,e3,e4,e5,e6⟩:=blk7 b3;clear hw4 hf4 b1 b2 b3 HC;go_wp2_with (first | (go_at_call 59;refine(KFi.out _ Z4.out).mono ?_;rintro e w5 ⟨rfl,hf⟩;have Y5:=h_ hf;have Z5:Hid (Frm Nix w w5):=Z4.out.trans hf;clear hf) | fail)
         have HC5:Hid (∀ W,Frm Nix w5 W→(W.cell? ⟨w3.heap.size,0,none⟩=some (.int .i64 10)∧W.cell? ⟨w3.heap.size,1,none⟩=some (.int .i64 a)∧W.cell? ⟨w3.heap.size,2,none⟩=some (.int .i64 0)∧W.cell? ⟨w3.heap.size,3,none⟩=some (.int .i64 n)∧W.cell? ⟨w3.heap.size,4,none⟩=some (.string x0)∧W.cell? ⟨w3.heap.size,5,none⟩=some (.string ⟨#[]⟩)∧W.cell? ⟨w3.heap.size,6,none⟩=some (.string ⟨#[]⟩))∧W.cell? ⟨w.heap.size+1,8,none⟩=some (.slice v.1 q.tags.length v.2)∧W.cell? ⟨w.heap.size,3,none⟩=some (.int .i64 n)):=fun W hW=>by
          obtain⟨b1,b2,b3⟩:=HB4.out W (Y5.out.trans hW);obtain⟨e0,e1,e2,e3,e4,e5,e6⟩:=blk7 b3;exact⟨⟨e0,e1,e2,e3,e4,e5,e6⟩,b2.cell 8,b1.cell 3⟩
         go_region_held3 (fun W=>(W.cell? ⟨w3.heap.size,0,none⟩=some (.int .i64 10)∧W.cell? ⟨w3.heap.size,1,none⟩=some (.int .i64 a)∧W.cell? ⟨w3.heap.size,2,none⟩=some (.int .i64 0)∧W.cell? ⟨w3.heap.size,3,none⟩=some (.int .i64 n)∧W.cell? ⟨w3.heap.size,4,none⟩=some (.string x0)∧W.cell? ⟨w3.heap.size,5,none⟩=some (.string ⟨#[]⟩)∧W.cell? ⟨w3.heap.size,6,none⟩=some (.string ⟨#[]⟩))∧W.cell? ⟨w.heap.size+1,8,none⟩=some (.slice v.1 q.tags.length v.2)∧W.cell? ⟨w.heap.size,3,none⟩=some (.int .i64 n)) ((refine HC5.out _ ?_;repeat' (first | with_reducible exact Frm.refl _ _ | with_reducible exact Y7.out | with_reducible apply Frm.drew)))
          (first
           | (go_at_call 60;refine(oneV _ _ _ _ _ _ _ _ _).mono ?_;rintro e w7 ⟨v7,rfl,hsl,hf⟩;have Y7:Hid (Frm Nix w5 w7):=(fR _).drew.trans hf;have HSL:=h_ (hsl.mono (G':=fun k=>w.heap.size≤k) fun k hk=>by(have h2:=Z5.out.size;have hk2:w5.heap.size≤k:=hk;omega));clear hsl hf)
           | (go_at_call 162;refine(KC.out _ (Z5.out.trans (fR _).drew)).mono ?_;rintro e w6 ⟨rfl,rfl⟩))
         all_goals
          go_wp2
          go_ret2
          rw[HR.out,← HCond.out];exact⟨v7,rfl,HSL.out,Z5.out.trans Y7.out⟩
theorem ofItem_any{w:World}{g:Nat}{M:Ms}{x:St}(h:StAt w g M x)(k a b n:Int)(s t:ByteArray)(hc:CmIs ⟨k,a,b,n,s,t⟩)(hk:k=7∨k=8∨k=9):
  Calls Tryz.prog 54 #[.pointer (some ⟨g,0,none⟩),.agg #[.int .i64 k,.int .i64 a,.int .i64 b,.int .i64 n,.string s,.string t]] w (PlOut w (planP shortS tagS x ⟨k,a,b,n,s,t⟩)):=by
 obtain⟨r,hr⟩:∃ r,planP shortS tagS x ⟨k,a,b,n,s,t⟩=r:=⟨_,rfl⟩;have HBc:Hid (∀ W,Frm Nix (w.alloc (.cells #[.int .i64 k,.int .i64 a,.int .i64 b,.int .i64 n,.string s,.string t] 50)) W→Blk W w.heap.size 50 #[.int .i64 k,.int .i64 a,.int .i64 b,.int .i64 n,.string s,.string t]):=fun W hW=>(Blk.new w 50 #[.int .i64 k,.int .i64 a,.int .i64 b,.int .i64 n,.string s,.string t]).frm hW id
 have HFb:Hid (Frm Nix w (w.alloc (.cells #[.int .i64 k,.int .i64 a,.int .i64 b,.int .i64 n,.string s,.string t] 50))):=(fR w).alloc _;rw[hr]
 by_cases hn:n=0∨n=1
 ·have KI:Hid (∀ W,Frm Nix w W→Calls Tryz.prog 107 #[.pointer (some ⟨g,0,none⟩),.int .i64 a] W fun e w'=>∃ v':Sl,e=.returned (.tuple #[.agg #[.int .i64 (itmAt x a).id,.int .i64 (itmAt x a).feed,.int .i64 (itmAt x a).date,.string (itmAt x a).guid,.string (itmAt x a).title,.string (itmAt x a).link,.bool (itmAt x a).read,.bool (itmAt x a).star,.slice v'.1 (itmAt x a).tags.length v'.2],.bool (isI Itm.id a x.itms)])∧SlIn w' (fun k=>W.heap.size≤k) 1 v' (itmAt x a).tags.length ((itmAt x a).tags.map Value.string)∧Frm Nix W w'):=fun W hW=>Item_any (h.nix hW) hc.a
  by_cases h9:k=9
  ·subst h9
   have e9:=(plan9 x a b n s t hn).symm.trans hr
   have KG:Hid (∀ W G v,Frm Nix w W→SlIn W G 1 v (itmAt x a).tags.length ((itmAt x a).tags.map Value.string)→Calls Tryz.prog 108 #[.pointer (some ⟨g,0,none⟩),.agg #[.int .i64 9,.int .i64 a,.int .i64 b,.int .i64 n,.string s,.string t],.agg #[.int .i64 (itmAt x a).id,.int .i64 (itmAt x a).feed,.int .i64 (itmAt x a).date,.string (itmAt x a).guid,.string (itmAt x a).title,.string (itmAt x a).link,.bool (itmAt x a).read,.bool (itmAt x a).star,.slice v.1 (itmAt x a).tags.length v.2]] W (PlOut W r)):=fun W G v hW hv=>by
    rw[← e9];exact ofTag_any (h.nix hW) 9 a b n s t hc hn hv
   generalize itmAt x a=q at *;generalize isI Itm.id a x.itms=i1 at *;clear h hc hr e9 hk;rcases hn with rfl | rfl
   all_goals
    go_enter Tryz.func54,Tryz.ntmps54;go_wp2_with (first | (go_at_call 108;refine(KG.out _ _ tv (Z2.out.alloc _) (HV.out.nix ((fR _).alloc _))).mono ?_;rintro e w4 ⟨v,rfl,hsl,hf⟩;have Z4:Hid (Frm Nix w w4):=(Z2.out.alloc _).trans hf;have HSL:=h_ (hsl.mono (G':=fun k=>w.heap.size≤k) fun k hk=>by(have h2:=(Z2.out.alloc (.cells #[.int .i64 q.id,.int .i64 q.feed,.int .i64 q.date,.string q.guid,.string q.title,.string q.link,.bool q.read,.bool q.star,.slice tv.1 q.tags.length tv.2] 91)).size;have hk2:=hk;simp at hk2 h2;omega));clear hsl hf) | (go_at_call 107;refine(KI.out _ HFb.out).mono ?_;rintro e w2 ⟨tv,rfl,hsl,hf⟩;have HV:=h_ hsl;have Y2:=h_ hf;have Z2:Hid (Frm Nix w w2):=HFb.out.trans hf;obtain⟨y0,y1,y2,y3,y4,y5⟩:=blk6 (HBc.out _ hf);have yl:=(HBc.out _ hf).lt;clear hsl hf) | fail)
    go_ret2
    exact⟨v,rfl,HSL.out,Z4.out⟩
  ·have e78:=(plan78 x k a b n s t (by omega) hn).symm.trans hr
   have HM:=h_ e78;generalize itmAt x a=q at *
   cases hi:isI Itm.id a x.itms with
   | false=>
     rw[hi] at KI;have HR:Hid (r=([],4)):=HM.out.symm.trans (if_pos hi);have h9':(k==9)=false:=beq_eq_false_iff_ne.2 h9;clear h hc hr e78 HM hi hk h9;rcases hn with rfl | rfl
     all_goals
      go_enter Tryz.func54,Tryz.ntmps54;go_wp2_with (first | (go_at_call 51;refine(refused_any _ _).mono ?_;rintro e w9 ⟨rfl,rfl⟩) | (go_at_call 107;refine(KI.out _ HFb.out).mono ?_;rintro e w2 ⟨tv,rfl,hsl,hf⟩;have HV:=h_ hsl;have Y2:=h_ hf;have Z2:Hid (Frm Nix w w2):=HFb.out.trans hf;obtain⟨y0,y1,y2,y3,y4,y5⟩:=blk6 (HBc.out _ hf);have yl:=(HBc.out _ hf).lt;clear hsl hf) | fail)
      go_ret2
      rw[HR.out]
      exact PlOut.none_ (Z2.out.alloc _)
   | true=>
     rw[hi] at KI;have HR:Hid (r=if k=7 then one1 ⟨8,a,0,n,⟨#[]⟩,⟨#[]⟩,⟨#[]⟩⟩ (!decide (q.read=decide (n=1))) else one1 ⟨9,a,0,n,⟨#[]⟩,⟨#[]⟩,⟨#[]⟩⟩ (!decide (q.star=decide (n=1)))):=HM.out.symm.trans (if_neg (by rw[hi];decide));clear h hc hr e78 HM hi;have h78:k=7∨k=8:=by omega
     clear hk h9;have HX0:∀ b:Bool,(!decide (b=decide ((0:Int)=1)))=b:=fun b=>by cases b<;>rfl
     have HX1:∀ b:Bool,(!decide (b=decide ((1:Int)=1)))=!b:=fun b=>by cases b<;>rfl
     rcases h78 with rfl | rfl<;>rcases hn with rfl | rfl
     all_goals
      rw[HR.out]
      first | rw[if_pos rfl] | rw[if_neg (by decide)]
      first | rw[HX0] | rw[HX1]
      clear HX0 HX1;go_enter Tryz.func54,Tryz.ntmps54;go_wp2_with (first | (go_at_call 60;refine(oneV _ _ _ _ _ _ _ _ _).mono ?_;rintro e w4 ⟨v,rfl,hsl,hf⟩;have Z4:Hid (Frm Nix w w4):=(Z2.out.alloc _).trans hf;have HSL:=h_ (hsl.mono (G':=fun k=>w.heap.size≤k) fun k hk=>by(have h2:=(Z2.out.alloc (.cells #[.int .i64 q.id,.int .i64 q.feed,.int .i64 q.date,.string q.guid,.string q.title,.string q.link,.bool q.read,.bool q.star,.slice tv.1 q.tags.length tv.2] 91)).size;have hk2:=hk;simp at hk2 h2;omega));clear hsl hf) | (go_at_call 107;refine(KI.out _ HFb.out).mono ?_;rintro e w2 ⟨tv,rfl,hsl,hf⟩;have HV:=h_ hsl;have Y2:=h_ hf;have Z2:Hid (Frm Nix w w2):=HFb.out.trans hf;obtain⟨y0,y1,y2,y3,y4,y5⟩:=blk6 (HBc.out _ hf);have yl:=(HBc.out _ hf).lt;clear hsl hf) | fail)
      go_ret2
      exact⟨v,rfl,HSL.out,Z4.out⟩
 ·have HR:Hid (r=([],1)):=hr.symm.trans (planN x k a b n s t hk hn)
  have n0:(n !=0)=true:=bne_iff_ne.2 fun e=>hn (.inl e)
  have n1:(n !=1)=true:=bne_iff_ne.2 fun e=>hn (.inr e)
  clear h hc hr hn hk;go_enter Tryz.func54,Tryz.ntmps54;go_wp2_with (first | (go_at_call 51;refine(refused_any _ _).mono ?_;rintro e w9 ⟨rfl,rfl⟩) | fail)
  go_ret2
  rw[HR.out];exact PlOut.none_ HFb.out
theorem plan456(x:St)(k a b n:Int)(s t:ByteArray)(hk:k=4∨k=5∨k=6):planP shortS tagS x ⟨k,a,b,n,s,t⟩=if isI Fee.id a x.fees=false then ([],4) else if k=6∧inS x b=false then ([],4) else if k=4 then ([⟨4,a,0,0,eS,eS,eS⟩],0) else if k=5 then one1 ⟨5,a,0,0,eS,shortS t 256,eS⟩ (!decide (shortS t 256=(feeAt x a).title)) else one1 ⟨6,a,b,0,eS,eS,eS⟩ (!decide (b=(feeAt x a).inn)):=by
 cases hq:atI Fee.id a x.fees with
 | none=>
   have hi:=isI_no hq
   rcases hk with rfl | rfl | rfl<;>simp[planP,hq,hi]
 | some q=>
   have hi:=isI_at hq;have hf:feeAt x a=q:=by unfold feeAt;rw[hq];rfl
   rcases hk with rfl | rfl | rfl<;>simp[planP,hq,hi,hf]
theorem shortS_size(s:ByteArray){m:Int}(hm:0≤m)(h2:m≤1000):(shortS s m).size≤1000:=by
 have:=short_ok s m hm;unfold textOk at this;simp only[Bool.and_eq_true,decide_eq_true_eq] at this;omega
theorem ofFeed3_any{w:World}{g:Nat}{M:Ms}{x:St}(h:StAt w g M x)(a b n:Int)(s t:ByteArray)(hc:CmIs ⟨3,a,b,n,s,t⟩):
  Calls Tryz.prog 53 #[.pointer (some ⟨g,0,none⟩),.agg #[.int .i64 3,.int .i64 a,.int .i64 b,.int .i64 n,.string s,.string t]] w (PlOut w (planP shortS tagS x ⟨3,a,b,n,s,t⟩)):=by
 obtain⟨r,hr⟩:∃ r,planP shortS tagS x ⟨3,a,b,n,s,t⟩=r:=⟨_,rfl⟩;have KS1:Hid (∀ W,Calls Tryz.prog 34 #[.string t,.int .i64 256] W fun e w'=>e=.returned (.string (shortS t 256))∧Frm Nix W w'):=fun W=>Short_any t hc.t 256 W
 have KS2:Hid (∀ W,Calls Tryz.prog 34 #[.string s,.int .i64 512] W fun e w'=>e=.returned (.string (shortS s 512))∧Frm Nix W w'):=fun W=>Short_any s hc.s 512 W
 have hsz:=shortS_size s (m:=512) (by decide) (by decide);have KP:Hid (∀ W,Frm Nix w W→Calls Tryz.prog 106 #[.pointer (some ⟨g,0,none⟩),.string (shortS s 512)] W fun e w'=>e=.returned (.tuple #[.int .i64 (placeS x (shortS s 512)),.bool (!(placeS x (shortS s 512)==0))])∧W=w'):=fun W hW=>Place_any (h.nix hW) _ (by unfold maxLen;omega)
 have KM:Hid (∀ W,Frm Nix w W→Calls Tryz.prog 103 #[.pointer (some ⟨g,0,none⟩),.agg #[.int .i64 3,.int .i64 0,.int .i64 b,.int .i64 0,.string (shortS s 512),.string (shortS t 256),.string ⟨#[]⟩],.bool (!(placeS x (shortS s 512)==0))] W (PlOut W r)):=fun W hW=>by
  have q:=makes_any (h.nix hW) 3 0 b 0 (shortS s 512) (shortS t 256) ⟨#[]⟩ (!(placeS x (shortS s 512)==0)) hc.b (.inr (.inl rfl));rw[← hr];exact q
 have HBc:Hid (∀ W,Frm Nix (w.alloc (.cells #[.int .i64 3,.int .i64 a,.int .i64 b,.int .i64 n,.string s,.string t] 50)) W→Blk W w.heap.size 50 #[.int .i64 3,.int .i64 a,.int .i64 b,.int .i64 n,.string s,.string t]):=fun W hW=>(Blk.new w 50 #[.int .i64 3,.int .i64 a,.int .i64 b,.int .i64 n,.string s,.string t]).frm hW id
 have HFb:Hid (Frm Nix w (w.alloc (.cells #[.int .i64 3,.int .i64 a,.int .i64 b,.int .i64 n,.string s,.string t] 50))):=(fR w).alloc _;rw[hr];clear h hc hr hsz;generalize placeS x (shortS s 512)=pl at *;generalize shortS s 512=s1 at *;generalize shortS t 256=t1 at *;generalize (!(pl==0))=has at *;go_enter Tryz.func53,Tryz.ntmps53
 go_wp2_with (first
  | (go_at_call 103;have _q:=Z3;refine(KM.out _ Z3.out).mono ?_;rintro e w4 ⟨v,rfl,hsl,hf⟩;have Z4:Hid (Frm Nix w w4):=Z3.out.trans hf;have HSL:=h_ (hsl.mono (G':=fun k=>w.heap.size≤k) fun k hk=>by(have h2:=Z3.out.size;have hk2:=hk;omega));clear hsl hf)
  | (go_at_call 106;have _q:=Y2;refine(KP.out _ (HFb.out.trans Y2.out)).mono ?_;rintro e w3 ⟨rfl,rfl⟩;have Z3:Hid (Frm Nix w w2):=HFb.out.trans Y2.out)
  | (go_at_call 34;have _q:=Y1;refine(KS2.out _).mono ?_;rintro e w2 ⟨rfl,hf⟩;have Y2:Hid (Frm Nix (w.alloc (.cells #[.int .i64 3,.int .i64 a,.int .i64 b,.int .i64 n,.string s,.string t] 50)) w2):=Y1.out.trans hf;have hbC:=HBc.out _ Y2.out;obtain⟨y0,y1,y2,y3,y4,y5⟩:=blk6 hbC;have yl:=hbC.lt;clear hbC;clear hf)
  | (go_at_call 34;refine(KS1.out _).mono ?_;rintro e w1 ⟨rfl,hf⟩;have Y1:Hid (Frm Nix (w.alloc (.cells #[.int .i64 3,.int .i64 a,.int .i64 b,.int .i64 n,.string s,.string t] 50)) w1):=hf;have hbC:=HBc.out _ Y1.out;obtain⟨y0,y1,y2,y3,y4,y5⟩:=blk6 hbC;have yl:=hbC.lt;clear hbC;clear hf)
  | fail)
 go_ret2
 exact⟨v,rfl,HSL.out,Z4.out⟩
theorem ofFeed456_any{w:World}{g:Nat}{M:Ms}{x:St}(h:StAt w g M x)(k a b n:Int)(s t:ByteArray)(hc:CmIs ⟨k,a,b,n,s,t⟩)(hk:k=4∨k=5∨k=6):
  Calls Tryz.prog 53 #[.pointer (some ⟨g,0,none⟩),.agg #[.int .i64 k,.int .i64 a,.int .i64 b,.int .i64 n,.string s,.string t]] w (PlOut w (planP shortS tagS x ⟨k,a,b,n,s,t⟩)):=by
 rw[plan456 x k a b n s t hk];have KS:Hid (∀ W,Calls Tryz.prog 34 #[.string t,.int .i64 256] W fun e w'=>e=.returned (.string (shortS t 256))∧Frm Nix W w'):=fun W=>Short_any t hc.t 256 W
 have KF:Hid (∀ W,Frm Nix w W→Calls Tryz.prog 56 #[.pointer (some ⟨g,0,none⟩),.int .i64 a] W fun e w'=>e=.returned (.tuple #[.agg #[.int .i64 (feeAt x a).id,.int .i64 (feeAt x a).inn,.string (feeAt x a).url,.string (feeAt x a).title],.bool (isI Fee.id a x.fees)])∧Frm Nix W w'):=fun W hW=>FeedS_any (h.nix hW) hc.a
 have KO:Hid (∀ W,Frm Nix w W→Calls Tryz.prog 58 #[.pointer (some ⟨g,0,none⟩),.int .i64 b] W fun e w'=>e=.returned (.bool (inS x b))∧Frm Nix W w'):=fun W hW=>cFolder_any (h.nix hW) hc.b
 have HBc:Hid (∀ W,Frm Nix (w.alloc (.cells #[.int .i64 k,.int .i64 a,.int .i64 b,.int .i64 n,.string s,.string t] 50)) W→Blk W w.heap.size 50 #[.int .i64 k,.int .i64 a,.int .i64 b,.int .i64 n,.string s,.string t]):=fun W hW=>(Blk.new w 50 #[.int .i64 k,.int .i64 a,.int .i64 b,.int .i64 n,.string s,.string t]).frm hW id
 have HFb:Hid (Frm Nix w (w.alloc (.cells #[.int .i64 k,.int .i64 a,.int .i64 b,.int .i64 n,.string s,.string t] 50))):=(fR w).alloc _;clear h hc;generalize feeAt x a=q at *;generalize inS x b=i2 at *;generalize shortS t 256=t1 at *;generalize isI Fee.id a x.fees=i1 at *
 cases i1 with
 | false=>
   have k3:(k==3)=false:=beq_eq_false_iff_ne.2 (by omega);rw[if_pos rfl];clear hk;go_enter Tryz.func53,Tryz.ntmps53;go_wp2_with (first | (go_at_call 51;refine(refused_any _ _).mono ?_;rintro e w9 ⟨rfl,rfl⟩) | (go_at_call 56;have _q:=Y1;refine(KF.out _ (HFb.out.trans Y1.out)).mono ?_;rintro e w2 ⟨rfl,hf⟩;have Y2:Hid (Frm Nix _ w2):=Y1.out.trans hf;have Z2:Hid (Frm Nix w w2):=HFb.out.trans Y2.out;have hbC:=HBc.out _ Y2.out;obtain⟨y0,y1,y2,y3,y4,y5⟩:=blk6 hbC;have yl:=hbC.lt;clear hbC;clear hf) | (go_at_call 34;refine(KS.out _).mono ?_;rintro e w1 ⟨rfl,hf⟩;have Y1:Hid (Frm Nix _ w1):=hf;have hbC:=HBc.out _ Y1.out;obtain⟨y0,y1,y2,y3,y4,y5⟩:=blk6 hbC;have yl:=hbC.lt;clear hbC;clear hf) | fail)
   go_ret2
   exact PlOut.none_ (Z2.out.alloc (.cells #[.int .i64 q.id,.int .i64 q.inn,.string q.url,.string q.title] 73))
 | true=>
   rw[if_neg (by decide)];rcases hk with rfl | rfl | rfl
   ·rw[if_neg (fun h=>absurd h.1 (by decide)),if_pos rfl]
    go_enter Tryz.func53,Tryz.ntmps53;go_wp2_with (first | (go_at_call 60;refine(oneV _ _ _ _ _ _ _ _ _).mono ?_;rintro e w5 ⟨v,rfl,hsl,hf⟩;have Z5:Hid (Frm Nix w w5):=(Z2.out.alloc (.cells #[.int .i64 q.id,.int .i64 q.inn,.string q.url,.string q.title] 73)).trans hf;have HSL:=h_ (hsl.mono (G':=fun k=>w.heap.size≤k) fun k hk=>by(have h2:=(Z2.out.alloc (.cells #[.int .i64 q.id,.int .i64 q.inn,.string q.url,.string q.title] 73)).size;have hk2:=hk;(try simp at hk2 h2);omega));clear hsl hf) | (go_at_call 56;have _q:=Y1;refine(KF.out _ (HFb.out.trans Y1.out)).mono ?_;rintro e w2 ⟨rfl,hf⟩;have Y2:Hid (Frm Nix _ w2):=Y1.out.trans hf;have Z2:Hid (Frm Nix w w2):=HFb.out.trans Y2.out;have hbC:=HBc.out _ Y2.out;obtain⟨y0,y1,y2,y3,y4,y5⟩:=blk6 hbC;have yl:=hbC.lt;clear hbC;clear hf) | (go_at_call 34;refine(KS.out _).mono ?_;rintro e w1 ⟨rfl,hf⟩;have Y1:Hid (Frm Nix _ w1):=hf;have hbC:=HBc.out _ Y1.out;obtain⟨y0,y1,y2,y3,y4,y5⟩:=blk6 hbC;have yl:=hbC.lt;clear hbC;clear hf) | fail)
    go_ret2
    exact⟨v,rfl,HSL.out,Z5.out⟩
   ·rw[if_neg (fun h=>absurd h.1 (by decide)),if_neg (by decide),if_pos rfl]
    by_cases ht:t1=q.title
    ·have hb2:(t1.toList==q.title.toList)=true:=by rw[ht];simp
     rw[decide_eq_true ht];clear ht;go_enter Tryz.func53,Tryz.ntmps53;go_wp2_with (first | (go_at_call 60;refine(oneV _ _ _ _ _ _ _ _ _).mono ?_;rintro e w5 ⟨v,rfl,hsl,hf⟩;have Z5:Hid (Frm Nix w w5):=(Z2.out.alloc (.cells #[.int .i64 q.id,.int .i64 q.inn,.string q.url,.string q.title] 73)).trans hf;have HSL:=h_ (hsl.mono (G':=fun k=>w.heap.size≤k) fun k hk=>by(have h2:=(Z2.out.alloc (.cells #[.int .i64 q.id,.int .i64 q.inn,.string q.url,.string q.title] 73)).size;have hk2:=hk;(try simp at hk2 h2);omega));clear hsl hf) | (go_at_call 56;have _q:=Y1;refine(KF.out _ (HFb.out.trans Y1.out)).mono ?_;rintro e w2 ⟨rfl,hf⟩;have Y2:Hid (Frm Nix _ w2):=Y1.out.trans hf;have Z2:Hid (Frm Nix w w2):=HFb.out.trans Y2.out;have hbC:=HBc.out _ Y2.out;obtain⟨y0,y1,y2,y3,y4,y5⟩:=blk6 hbC;have yl:=hbC.lt;clear hbC;clear hf) | (go_at_call 34;refine(KS.out _).mono ?_;rintro e w1 ⟨rfl,hf⟩;have Y1:Hid (Frm Nix _ w1):=hf;have hbC:=HBc.out _ Y1.out;obtain⟨y0,y1,y2,y3,y4,y5⟩:=blk6 hbC;have yl:=hbC.lt;clear hbC;clear hf) | fail)
     go_ret2
     exact⟨v,rfl,HSL.out,Z5.out⟩
    ·have hb2:=beq_of ht
     rw[decide_eq_false ht];clear ht;go_enter Tryz.func53,Tryz.ntmps53;go_wp2_with (first | (go_at_call 60;refine(oneV _ _ _ _ _ _ _ _ _).mono ?_;rintro e w5 ⟨v,rfl,hsl,hf⟩;have Z5:Hid (Frm Nix w w5):=(Z2.out.alloc (.cells #[.int .i64 q.id,.int .i64 q.inn,.string q.url,.string q.title] 73)).trans hf;have HSL:=h_ (hsl.mono (G':=fun k=>w.heap.size≤k) fun k hk=>by(have h2:=(Z2.out.alloc (.cells #[.int .i64 q.id,.int .i64 q.inn,.string q.url,.string q.title] 73)).size;have hk2:=hk;(try simp at hk2 h2);omega));clear hsl hf) | (go_at_call 56;have _q:=Y1;refine(KF.out _ (HFb.out.trans Y1.out)).mono ?_;rintro e w2 ⟨rfl,hf⟩;have Y2:Hid (Frm Nix _ w2):=Y1.out.trans hf;have Z2:Hid (Frm Nix w w2):=HFb.out.trans Y2.out;have hbC:=HBc.out _ Y2.out;obtain⟨y0,y1,y2,y3,y4,y5⟩:=blk6 hbC;have yl:=hbC.lt;clear hbC;clear hf) | (go_at_call 34;refine(KS.out _).mono ?_;rintro e w1 ⟨rfl,hf⟩;have Y1:Hid (Frm Nix _ w1):=hf;have hbC:=HBc.out _ Y1.out;obtain⟨y0,y1,y2,y3,y4,y5⟩:=blk6 hbC;have yl:=hbC.lt;clear hbC;clear hf) | fail)
     go_ret2
     exact⟨v,rfl,HSL.out,Z5.out⟩
   ·cases i2 with
    | false=>
      rw[if_pos ⟨rfl,rfl⟩];go_enter Tryz.func53,Tryz.ntmps53;go_wp2_with (first | (go_at_call 51;refine(refused_any _ _).mono ?_;rintro e w9 ⟨rfl,rfl⟩) | (go_at_call 58;have _q:=Z2;refine(KO.out _ (Z2.out.alloc (.cells #[.int .i64 q.id,.int .i64 q.inn,.string q.url,.string q.title] 73))).mono ?_;rintro e w4 ⟨rfl,hf⟩;have Y4:Hid (Frm Nix _ w4):=(Y2.out.alloc _).trans hf;have hbC:=HBc.out _ Y4.out;obtain⟨y0,y1,y2,y3,y4,y5⟩:=blk6 hbC;have yl:=hbC.lt;clear hbC;have hbF:=(Blk.new w2 73 #[.int .i64 q.id,.int .i64 q.inn,.string q.url,.string q.title]).frm hf id;obtain⟨z0,z1,z2,z3⟩:=blk4 hbF;have Z4:Hid (Frm Nix w w4):=HFb.out.trans Y4.out;clear hf hbF) | (go_at_call 56;have _q:=Y1;refine(KF.out _ (HFb.out.trans Y1.out)).mono ?_;rintro e w2 ⟨rfl,hf⟩;have Y2:Hid (Frm Nix _ w2):=Y1.out.trans hf;have Z2:Hid (Frm Nix w w2):=HFb.out.trans Y2.out;have hbC:=HBc.out _ Y2.out;obtain⟨y0,y1,y2,y3,y4,y5⟩:=blk6 hbC;have yl:=hbC.lt;clear hbC;clear hf) | (go_at_call 34;refine(KS.out _).mono ?_;rintro e w1 ⟨rfl,hf⟩;have Y1:Hid (Frm Nix _ w1):=hf;have hbC:=HBc.out _ Y1.out;obtain⟨y0,y1,y2,y3,y4,y5⟩:=blk6 hbC;have yl:=hbC.lt;clear hbC;clear hf) | fail)
      go_ret2
      exact PlOut.none_ Z4.out
    | true=>
      rw[if_neg (fun h=>absurd h.2 (by decide)),if_neg (by decide),if_neg (by decide)]
      by_cases hb:b=q.inn
      ·have hb2:(b !=q.inn)=false:=by rw[hb];simp
       rw[decide_eq_true hb];clear hb;go_enter Tryz.func53,Tryz.ntmps53;go_wp2_with (first | (go_at_call 60;refine(oneV _ _ _ _ _ _ _ _ _).mono ?_;rintro e w5 ⟨v,rfl,hsl,hf⟩;have Z5:Hid (Frm Nix w w5):=Z4.out.trans hf;have HSL:=h_ (hsl.mono (G':=fun k=>w.heap.size≤k) fun k hk=>by(have h2:=Z4.out.size;have hk2:=hk;(try simp at hk2 h2);omega));clear hsl hf) | (go_at_call 58;have _q:=Z2;refine(KO.out _ (Z2.out.alloc (.cells #[.int .i64 q.id,.int .i64 q.inn,.string q.url,.string q.title] 73))).mono ?_;rintro e w4 ⟨rfl,hf⟩;have Y4:Hid (Frm Nix _ w4):=(Y2.out.alloc _).trans hf;have hbC:=HBc.out _ Y4.out;obtain⟨y0,y1,y2,y3,y4,y5⟩:=blk6 hbC;have yl:=hbC.lt;clear hbC;have hbF:=(Blk.new w2 73 #[.int .i64 q.id,.int .i64 q.inn,.string q.url,.string q.title]).frm hf id;obtain⟨z0,z1,z2,z3⟩:=blk4 hbF;have Z4:Hid (Frm Nix w w4):=HFb.out.trans Y4.out;clear hf hbF) | (go_at_call 56;have _q:=Y1;refine(KF.out _ (HFb.out.trans Y1.out)).mono ?_;rintro e w2 ⟨rfl,hf⟩;have Y2:Hid (Frm Nix _ w2):=Y1.out.trans hf;have Z2:Hid (Frm Nix w w2):=HFb.out.trans Y2.out;have hbC:=HBc.out _ Y2.out;obtain⟨y0,y1,y2,y3,y4,y5⟩:=blk6 hbC;have yl:=hbC.lt;clear hbC;clear hf) | (go_at_call 34;refine(KS.out _).mono ?_;rintro e w1 ⟨rfl,hf⟩;have Y1:Hid (Frm Nix _ w1):=hf;have hbC:=HBc.out _ Y1.out;obtain⟨y0,y1,y2,y3,y4,y5⟩:=blk6 hbC;have yl:=hbC.lt;clear hbC;clear hf) | fail)
       go_ret2
       exact⟨v,rfl,HSL.out,Z5.out⟩
      ·have hb2:(b !=q.inn)=true:=bne_iff_ne.2 hb
       rw[decide_eq_false hb];clear hb;go_enter Tryz.func53,Tryz.ntmps53;go_wp2_with (first | (go_at_call 60;refine(oneV _ _ _ _ _ _ _ _ _).mono ?_;rintro e w5 ⟨v,rfl,hsl,hf⟩;have Z5:Hid (Frm Nix w w5):=Z4.out.trans hf;have HSL:=h_ (hsl.mono (G':=fun k=>w.heap.size≤k) fun k hk=>by(have h2:=Z4.out.size;have hk2:=hk;(try simp at hk2 h2);omega));clear hsl hf) | (go_at_call 58;have _q:=Z2;refine(KO.out _ (Z2.out.alloc (.cells #[.int .i64 q.id,.int .i64 q.inn,.string q.url,.string q.title] 73))).mono ?_;rintro e w4 ⟨rfl,hf⟩;have Y4:Hid (Frm Nix _ w4):=(Y2.out.alloc _).trans hf;have hbC:=HBc.out _ Y4.out;obtain⟨y0,y1,y2,y3,y4,y5⟩:=blk6 hbC;have yl:=hbC.lt;clear hbC;have hbF:=(Blk.new w2 73 #[.int .i64 q.id,.int .i64 q.inn,.string q.url,.string q.title]).frm hf id;obtain⟨z0,z1,z2,z3⟩:=blk4 hbF;have Z4:Hid (Frm Nix w w4):=HFb.out.trans Y4.out;clear hf hbF) | (go_at_call 56;have _q:=Y1;refine(KF.out _ (HFb.out.trans Y1.out)).mono ?_;rintro e w2 ⟨rfl,hf⟩;have Y2:Hid (Frm Nix _ w2):=Y1.out.trans hf;have Z2:Hid (Frm Nix w w2):=HFb.out.trans Y2.out;have hbC:=HBc.out _ Y2.out;obtain⟨y0,y1,y2,y3,y4,y5⟩:=blk6 hbC;have yl:=hbC.lt;clear hbC;clear hf) | (go_at_call 34;refine(KS.out _).mono ?_;rintro e w1 ⟨rfl,hf⟩;have Y1:Hid (Frm Nix _ w1):=hf;have hbC:=HBc.out _ Y1.out;obtain⟨y0,y1,y2,y3,y4,y5⟩:=blk6 hbC;have yl:=hbC.lt;clear hbC;clear hf) | fail)
       go_ret2
       exact⟨v,rfl,HSL.out,Z5.out⟩
theorem ofSearch12_any{w:World}{g:Nat}{M:Ms}{x:St}(h:StAt w g M x)(a b n:Int)(s t:ByteArray)(hc:CmIs ⟨12,a,b,n,s,t⟩):
  Calls Tryz.prog 55 #[.pointer (some ⟨g,0,none⟩),.agg #[.int .i64 12,.int .i64 a,.int .i64 b,.int .i64 n,.string s,.string t]] w (PlOut w (planP shortS tagS x ⟨12,a,b,n,s,t⟩)):=by
 obtain⟨r,hr⟩:∃ r,planP shortS tagS x ⟨12,a,b,n,s,t⟩=r:=⟨_,rfl⟩;have KS1:Hid (∀ W,Calls Tryz.prog 34 #[.string s,.int .i64 64] W fun e w'=>e=.returned (.string (shortS s 64))∧Frm Nix W w'):=fun W=>Short_any s hc.s 64 W
 have KS2:Hid (∀ W,Calls Tryz.prog 34 #[.string t,.int .i64 512] W fun e w'=>e=.returned (.string (shortS t 512))∧Frm Nix W w'):=fun W=>Short_any t hc.t 512 W
 have KM:Hid (∀ W,Frm Nix w W→Calls Tryz.prog 103 #[.pointer (some ⟨g,0,none⟩),.agg #[.int .i64 11,.int .i64 0,.int .i64 0,.int .i64 0,.string (shortS s 64),.string (shortS t 512),.string ⟨#[]⟩],.bool false] W (PlOut W r)):=fun W hW=>by
  have q:=makes_any (h.nix hW) 11 0 0 0 (shortS s 64) (shortS t 512) ⟨#[]⟩ false i64_0 (.inr (.inr rfl));rw[← hr];exact q
 have HBc:Hid (∀ W,Frm Nix (w.alloc (.cells #[.int .i64 12,.int .i64 a,.int .i64 b,.int .i64 n,.string s,.string t] 50)) W→Blk W w.heap.size 50 #[.int .i64 12,.int .i64 a,.int .i64 b,.int .i64 n,.string s,.string t]):=fun W hW=>(Blk.new w 50 #[.int .i64 12,.int .i64 a,.int .i64 b,.int .i64 n,.string s,.string t]).frm hW id
 have HFb:Hid (Frm Nix w (w.alloc (.cells #[.int .i64 12,.int .i64 a,.int .i64 b,.int .i64 n,.string s,.string t] 50))):=(fR w).alloc _;rw[hr];clear h hc hr;generalize shortS s 64=s1 at *;generalize shortS t 512=t1 at *;go_enter Tryz.func55,Tryz.ntmps55;go_wp2;have HC:Hid (∀ W,Frm Nix (w.alloc (.cells #[.int .i64 12,.int .i64 a,.int .i64 b,.int .i64 n,.string s,.string t] 50)) W→W.cell? ⟨w.heap.size,4,none⟩=some (.string s)∧W.cell? ⟨w.heap.size,5,none⟩=some (.string t)):=fun W hW=>⟨(HBc.out _ hW).cell 4,(HBc.out _ hW).cell 5⟩
 go_region_held3 (fun W=>W.cell? ⟨w.heap.size,4,none⟩=some (.string s)∧W.cell? ⟨w.heap.size,5,none⟩=some (.string t)) ((refine HC.out _ ?_;repeat' (first | with_reducible exact Frm.refl _ _ | with_reducible exact Y4.out | with_reducible exact Y3.out | with_reducible exact Y2.out | with_reducible apply Frm.drew)))
  (first
   | (go_at_call 103;have _q:=Y3;refine(KM.out _ (HFb.out.trans Y3.out)).mono ?_;rintro e w4 ⟨v,rfl,hsl,hf⟩;have Y4:Hid (Frm Nix _ w4):=Y3.out.trans hf;have HSL:=h_ (hsl.mono (G':=fun k=>w.heap.size≤k) fun k hk=>by(have h1:=(HFb.out.trans Y3.out).size;omega));clear hsl hf)
   | (go_at_call 34;have _q:=Y2;refine(KS2.out _).mono ?_;rintro e w3 ⟨rfl,hf⟩;have Y3:Hid (Frm Nix _ w3):=Y2.out.trans hf;clear hf)
   | (go_at_call 34;refine(KS1.out _).mono ?_;rintro e w2 ⟨rfl,hf⟩;have Y2:Hid (Frm Nix (w.alloc (.cells #[.int .i64 12,.int .i64 a,.int .i64 b,.int .i64 n,.string s,.string t] 50)) w2):=(fR _).drew.trans hf;clear hf))
 all_goals
  go_wp2
  go_ret2
  exact⟨v,rfl,HSL.out,HFb.out.trans Y4.out⟩
theorem ofSearch13_any{w:World}{g:Nat}{M:Ms}{x:St}(h:StAt w g M x)(a b n:Int)(s t:ByteArray)(hc:CmIs ⟨13,a,b,n,s,t⟩):
  Calls Tryz.prog 55 #[.pointer (some ⟨g,0,none⟩),.agg #[.int .i64 13,.int .i64 a,.int .i64 b,.int .i64 n,.string s,.string t]] w (PlOut w (planP shortS tagS x ⟨13,a,b,n,s,t⟩)):=by
 have HR:Hid (planP shortS tagS x ⟨13,a,b,n,s,t⟩=if isI Sea.id a x.seas=false then ([],4) else ([⟨12,a,0,0,⟨#[]⟩,⟨#[]⟩,⟨#[]⟩⟩],0)):=rfl;rw[HR.out];have KF:Hid (∀ W,Frm Nix w W→Calls Tryz.prog 109 #[.pointer (some ⟨g,0,none⟩),.int .i64 a] W fun e w'=>e=.returned (.tuple #[.agg #[.int .i64 (seaAt x a).id,.string (seaAt x a).name,.string (seaAt x a).query],.bool (isI Sea.id a x.seas)])∧Frm Nix W w'):=fun W hW=>SearchS_any (h.nix hW) hc.a
 have HBc:Hid (∀ W,Frm Nix (w.alloc (.cells #[.int .i64 13,.int .i64 a,.int .i64 b,.int .i64 n,.string s,.string t] 50)) W→Blk W w.heap.size 50 #[.int .i64 13,.int .i64 a,.int .i64 b,.int .i64 n,.string s,.string t]):=fun W hW=>(Blk.new w 50 #[.int .i64 13,.int .i64 a,.int .i64 b,.int .i64 n,.string s,.string t]).frm hW id
 have HFb:Hid (Frm Nix w (w.alloc (.cells #[.int .i64 13,.int .i64 a,.int .i64 b,.int .i64 n,.string s,.string t] 50))):=(fR w).alloc _;clear h hc HR;generalize seaAt x a=q at *;generalize isI Sea.id a x.seas=i1 at *
 cases i1 with
 | false=>
   rw[if_pos rfl];go_enter Tryz.func55,Tryz.ntmps55;go_wp2_with (first | (go_at_call 51;refine(refused_any _ _).mono ?_;rintro e w9 ⟨rfl,rfl⟩) | (go_at_call 109;refine(KF.out _ HFb.out).mono ?_;rintro e w2 ⟨rfl,hf⟩;have Y2:Hid (Frm Nix _ w2):=hf;have Z2:Hid (Frm Nix w w2):=HFb.out.trans Y2.out;have hbC:=HBc.out _ Y2.out;obtain⟨y0,y1,y2,y3,y4,y5⟩:=blk6 hbC;have yl:=hbC.lt;clear hbC;clear hf) | fail)
   go_ret2
   exact PlOut.none_ (Z2.out.alloc (.cells #[.int .i64 q.id,.string q.name,.string q.query] 93))
 | true=>
   rw[if_neg (by decide)];go_enter Tryz.func55,Tryz.ntmps55;go_wp2_with (first | (go_at_call 60;refine(oneV _ _ _ _ _ _ _ _ _).mono ?_;rintro e w5 ⟨v,rfl,hsl,hf⟩;have Z5:Hid (Frm Nix w w5):=(Z2.out.alloc (.cells #[.int .i64 q.id,.string q.name,.string q.query] 93)).trans hf;have HSL:=h_ (hsl.mono (G':=fun k=>w.heap.size≤k) fun k hk=>by(have h2:=(Z2.out.alloc (.cells #[.int .i64 q.id,.string q.name,.string q.query] 93)).size;have hk2:=hk;(try simp at hk2 h2);omega));clear hsl hf) | (go_at_call 109;refine(KF.out _ HFb.out).mono ?_;rintro e w2 ⟨rfl,hf⟩;have Y2:Hid (Frm Nix _ w2):=hf;have Z2:Hid (Frm Nix w w2):=HFb.out.trans Y2.out;have hbC:=HBc.out _ Y2.out;obtain⟨y0,y1,y2,y3,y4,y5⟩:=blk6 hbC;have yl:=hbC.lt;clear hbC;clear hf) | fail)
   go_ret2
   exact⟨v,rfl,HSL.out,Z5.out⟩
def evR8(q:Itm):Ev:=⟨8,q.id,0,1,eS,eS,eS⟩
theorem read_eq8(x:St)(l:List Int):readP x l=(x.itms.filter fun q=>!q.read&&l.contains q.feed).map evR8:=by
 unfold readP evR8
 congr 1
 refine List.filter_congr fun q _=>?_
 congr 1
 have hc:l.contains q.feed=true↔q.feed ∈ l:=by simp
 rw[Bool.eq_iff_iff,hc,List.any_eq_true];exact⟨fun ⟨i,hi,e⟩=>of_decide_eq_true e ▸ hi,fun h=>⟨_,h,decide_eq_true rfl⟩⟩
theorem itm_cells{w:World}{b off:Nat}{pt:Sl×Itm}(h:∀ (j:Nat) (u:Value),(itmC pt)[j]? =some u→w.cell? ⟨b,off+j,none⟩=some u):
  w.cell? ⟨b,off,none⟩=some (.int .i64 pt.2.id)∧w.cell? ⟨b,off+1,none⟩=some (.int .i64 pt.2.feed)∧w.cell? ⟨b,off+2,none⟩=some (.int .i64 pt.2.date)∧w.cell? ⟨b,off+3,none⟩=some (.string pt.2.guid)∧w.cell? ⟨b,off+4,none⟩=some (.string pt.2.title)∧w.cell? ⟨b,off+5,none⟩=some (.string pt.2.link)∧w.cell? ⟨b,off+6,none⟩=some (.bool pt.2.read)∧w.cell? ⟨b,off+7,none⟩=some (.bool pt.2.star)∧w.cell? ⟨b,off+8,none⟩=some (.slice pt.1.1 pt.2.tags.length pt.1.2):=
 ⟨h 0 _ rfl,h 1 _ rfl,h 2 _ rfl,h 3 _ rfl,h 4 _ rfl,h 5 _ rfl,h 6 _ rfl,h 7 _ rfl,h 8 _ rfl⟩
theorem read_any{w:World}{g:Nat}{M:Ms}{x:St}(h:StAt w g M x){A:Option Addr}{c:Nat}{l:List Int}{G:Nat→Prop}(hv:SlIn w G 1 (A,c) l.length (l.map kI))(hn:l.length≤100000):
  Calls Tryz.prog 57 #[.pointer (some ⟨g,0,none⟩),.slice A l.length c] w fun e w'=>∃ v:Sl,e=.returned (.slice v.1 (readP x l).length v.2)∧SlIn w' (fun k=>w.heap.size≤k) 7 v (readP x l).length ((readP x l).flatMap Ev.cells)∧Frm Nix w w':=by
 rw[read_eq8];obtain⟨p,hp⟩:∃ p:Itm→Bool,(fun q:Itm=>!q.read&&l.contains q.feed)=p:=⟨_,rfl⟩;have HPq:Hid (∀ q:Itm,p q=(!q.read&&l.contains q.feed)):=fun q=>by rw[← hp]
 rw[hp];have hi:=h.ok.iL;have KT:=h_ (TellV h);have KC:Hid (∀ W z,Frm Nix w W→Calls Tryz.prog 110 #[.slice A l.length c,.int .i64 z] W fun e w'=>e=.returned (.bool (l.contains z))∧w'=W):=fun W z hW=>Contains_any (v:=(A,c)) (hv.nix hW) hn z
 have hfd:=fieldS3;clear h hp hv;generalize l.length=nl at *;obtain⟨n,hxn⟩:∃ n,x.itms.length=n:=⟨_,rfl⟩;rw[hxn] at KT hi;have HN:=h_ hxn;clear hxn;go_enter Tryz.func57,Tryz.ntmps57;go_wp2_with (first | (go_at_call 28;refine KT.out.mono ?_;rintro e w2 ⟨Ao,co,Ae,ce,Ai,ci,As,cs,ts,rfl,hd,hf⟩;have HD:=h_ hd.itms;have HSame:=h_ hd.same;have Z2:=h_ hf;clear hd hf) | fail);have HTL:Hid (ts.length=n):=by unfold Hid;rw[← HN.out,← HSame.out,List.length_map]
 go_loopw [5,12] (fun ov kv wr=>∃ (k:Nat),k≤n∧kv=.int .i64 k∧RowK 43 7 w2 wr ov (((((ts.map (·.2)).take k).filter p).map evR8).length) (((((ts.map (·.2)).take k).filter p).map evR8).flatMap Ev.cells)) (fun _ kv _=>n - (intOf kv).toNat)
 case atStart=>exact⟨0,by omega,rfl,RowK.nil_ _ _ (Frm.refl _ _)⟩
 case round=>
  obtain⟨k,hk,rfl,hrow⟩:=hrel;obtain⟨Ar,cr,rfl,-,-,-,-⟩:=hrow.shape;have HRw:=h_ hrow;have HF:=h_ hrow.frm;clear hrow
  by_cases hlt:k<n
  ·have hkl:k<ts.length:=by rw[HTL.out];exact hlt
   obtain⟨b,off,hA,-,hbl,hcell⟩:=(HD.out.row.nix HF.out).at_ itmC_len (by decide) (by omega);dsimp only at hA;subst hA;obtain⟨x0,x1,x2,x3,x4,x5,x6,x7,x8⟩:=itm_cells (w:=wr) (b:=b) (off:=off+k * 9) (pt:=ts[k]) (hcell k hkl);have hkm:k<(ts.map (·.2)).length:=by rw[List.length_map];exact hkl
   have HST:=h_ (filt_step (ts.map (·.2)) k hkm p);have hgm:(ts.map (·.2))[k]=ts[k].2:=by rw[List.getElem_map]
   rw[hgm] at HST;obtain⟨pt,hpt⟩:∃ pt,ts[k]=pt:=⟨_,rfl⟩;rw[hpt] at x0 x1 x2 x3 x4 x5 x6 x7 x8 HST;obtain⟨tv,q⟩:=pt;dsimp only at x0 x1 x2 x3 x4 x5 x6 x7 x8 HST
   have hml:((((ts.map (·.2)).take k).filter p).map evR8).length≤k:=by
    rw[List.length_map];have:=List.length_filter_le p ((ts.map (·.2)).take k);rw[List.length_take] at this;omega
   have HPQ:=HPq.out q;clear hcell hkm hgm hpt
   cases hrd:q.read with
   | true=>
     rw[hrd] at x6 HPQ;have HX:Hid (((((ts.map (·.2)).take k).filter p).map evR8)=((((ts.map (·.2)).take (k+1)).filter p).map evR8)):=by unfold Hid;rw[HST.out,HPQ];simp
     have HX2:Hid (RowK 43 7 w2 (wr.alloc (.cells #[.int .i64 q.id,.int .i64 q.feed,.int .i64 q.date,.string q.guid,.string q.title,.string q.link,.bool true,.bool q.star,.slice tv.1 q.tags.length tv.2] 91)) (.slice Ar ((((ts.map (·.2)).take k).filter p).map evR8).length cr) ((((ts.map (·.2)).take (k+1)).filter p).map evR8).length (((((ts.map (·.2)).take (k+1)).filter p).map evR8).flatMap Ev.cells)):=by
      unfold Hid;rw[← HX.out];exact HRw.out.more ((fR wr).alloc _)
     clear HPQ;generalize ((((ts.map (·.2)).take k).filter p).map evR8).length=m at *;go_wp2;go_roundw
     case rel=>exact⟨k+1,by omega,by go_num,HX2.out⟩
     case measure=>simp[intOf];omega
   | false=>
     have K:=KC.out (wr.alloc (.cells #[.int .i64 q.id,.int .i64 q.feed,.int .i64 q.date,.string q.guid,.string q.title,.string q.link,.bool false,.bool q.star,.slice tv.1 q.tags.length tv.2] 91)) q.feed (Z2.out.trans (HF.out.alloc _));rw[hrd] at x6 HPQ
     cases hcc:l.contains q.feed with
     | false=>
       rw[hcc] at K HPQ;have HX:Hid (((((ts.map (·.2)).take k).filter p).map evR8)=((((ts.map (·.2)).take (k+1)).filter p).map evR8)):=by unfold Hid;rw[HST.out,HPQ];simp
       have HX2:Hid (RowK 43 7 w2 (wr.alloc (.cells #[.int .i64 q.id,.int .i64 q.feed,.int .i64 q.date,.string q.guid,.string q.title,.string q.link,.bool false,.bool q.star,.slice tv.1 q.tags.length tv.2] 91)) (.slice Ar ((((ts.map (·.2)).take k).filter p).map evR8).length cr) ((((ts.map (·.2)).take (k+1)).filter p).map evR8).length (((((ts.map (·.2)).take (k+1)).filter p).map evR8).flatMap Ev.cells)):=by
        unfold Hid;rw[← HX.out];exact HRw.out.more ((fR wr).alloc _)
       clear HPQ hcc;generalize ((((ts.map (·.2)).take k).filter p).map evR8).length=m at *;go_wp2_with (first | (go_at_call 110;refine K.mono ?_;rintro e w' ⟨rfl,rfl⟩) | fail);go_roundw
       case rel=>exact⟨k+1,by omega,by go_num,HX2.out⟩
       case measure=>simp[intOf];omega
     | true=>
       rw[hcc] at K HPQ;have HX:Hid (((((ts.map (·.2)).take k).filter p).map evR8)++[evR8 q]=((((ts.map (·.2)).take (k+1)).filter p).map evR8)):=by unfold Hid;rw[HST.out,HPQ,List.map_append];simp
       obtain⟨v4,w4,hrun4,hr4,hf4,-⟩:=(HRw.out.more ((fR wr).alloc (.cells #[.int .i64 q.id,.int .i64 q.feed,.int .i64 q.date,.string q.guid,.string q.title,.string q.link,.bool false,.bool q.star,.slice tv.1 q.tags.length tv.2] 91))).push elemEv (evR8 q).cells rfl (by intro u hu;simp[evR8,Ev.cells] at hu;rcases hu with rfl | rfl | rfl | rfl | rfl | rfl | rfl<;>rfl) (by unfold maxLen;omega) (by omega);rw[show (wr.alloc (.cells #[.int .i64 q.id,.int .i64 q.feed,.int .i64 q.date,.string q.guid,.string q.title,.string q.link,.bool false,.bool q.star,.slice tv.1 q.tags.length tv.2] 91)).heap.size=wr.heap.size+1 by simp] at hrun4;have hrun5:∀ ty,(Builtin.append_ #[31,31] ty #[.slice Ar ((((ts.map (·.2)).take k).filter p).map evR8).length cr,.slice (some ⟨wr.heap.size+1,0,none⟩) 1 1]).run Tryz.prog ((wr.alloc (.cells #[.int .i64 q.id,.int .i64 q.feed,.int .i64 q.date,.string q.guid,.string q.title,.string q.link,.bool false,.bool q.star,.slice tv.1 q.tags.length tv.2] 91)).alloc (.cells #[.int .i64 8,.int .i64 q.id,.int .i64 0,.int .i64 1,.string ⟨#[]⟩,.string ⟨#[]⟩,.string ⟨#[]⟩] 43))=.ok v4 w4:=hrun4
       have HX2:Hid (RowK 43 7 w2 w4 v4 ((((ts.map (·.2)).take (k+1)).filter p).map evR8).length (((((ts.map (·.2)).take (k+1)).filter p).map evR8).flatMap Ev.cells)):=by
        unfold Hid;rw[← HX.out,List.length_append,List.flatMap_append]
        simpa using hr4
       clear HPQ hcc hrun4 hr4 hf4;generalize ((((ts.map (·.2)).take k).filter p).map evR8).length=m at *;go_wp2_with (first | (go_at_call 110;refine K.mono ?_;rintro e w' ⟨rfl,rfl⟩) | (at_builtin;refine wpList_append_run hrun5 rfl _ _ rfl rfl rfl ?_) | fail);go_roundw
       case rel=>exact⟨k+1,by omega,by go_num,HX2.out⟩
       case measure=>simp[intOf];omega
  ·obtain rfl:k=n:=by omega
   have HE:Hid (((((ts.map (·.2)).take k).filter p).map evR8)=(x.itms.filter p).map evR8):=by
    unfold Hid;rw[List.take_of_length_le (by rw[List.length_map,HTL.out];exact Nat.le_refl _),HSame.out]
   rw[HE.out] at HRw;go_wp2;go_ret;rw[HE.out];exact⟨(Ar,cr),rfl,HRw.out.sl.mono fun j hj=>Nat.le_trans Z2.out.size hj,Z2.out.trans HRw.out.frm⟩
end Go.Proofs.YtdihmpakglakdaaGreat
