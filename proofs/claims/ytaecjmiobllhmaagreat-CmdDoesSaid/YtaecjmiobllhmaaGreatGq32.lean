/- Words. -/
import Derived.Test.YtaecjmiobllhmaaGreatGq31
set_option linter.unusedVariables false
set_option linter.unusedSimpArgs false
set_option maxRecDepth 100000
set_option maxHeartbeats 16000000
namespace Go.Proofs.YtaecjmiobllhmaaGreat
open Go.Value renaming int→I,string→V,slice→U,pointer→O
open Go.IntKind renaming i64→J
open Tryz renaming prog→pQ
open Go.RowKit Go.Lib
variable {W:World}{g:Nat}{w:World}{M:Ms}{a:Int}{G:Nat→Prop}{v:Sl}
theorem bn{t:TypeId}{a0 a1 a2 a3 a4 a5:Value}(h:ai W g t #[a0,a1,a2,a3,a4,a5]):
  W.cell? ⟨g,0,none⟩=some a0∧W.cell? ⟨g,1,none⟩=some a1∧W.cell? ⟨g,2,none⟩=some a2∧W.cell? ⟨g,3,none⟩=some a3∧W.cell? ⟨g,4,none⟩=some a4∧W.cell? ⟨g,5,none⟩=some a5:=
 ⟨h.cell 0,h.cell 1,h.cell 2,h.cell 3,h.cell 4,h.cell 5⟩
structure mE(c:Cm):Prop where
 a:bj c.a
 b:bj c.b
 n:bj c.n
 s:c.s.size≤100000
 t:c.t.size≤100000
theorem GG{x:St}(h:di x)(k:Int):0≤rz x k∧rz x k≤1048576:=by
 have h1:=h.fT;have h2:=h.eT;have h3:=h.iT;have h4:=h.sT;unfold rz
 repeat' split
 all_goals omega
theorem NY{n:Int}(h1:0≤n)(h2:n≤1048577):bj n:=by unfold bj;omega
theorem Fe{x:St}(h:aw w g M x)(k a b n:Int)(s t u:ByteArray)(ha:bj a)(hb:bj b):Calls pQ 51 #[O (some ⟨g,0,none⟩),.agg #[I J k,I J a,I J b,I J n,V s,V t,V u]] w λr w'=>r=.returned (.bool (av x ⟨k,a,b,n,s,t,u⟩))∧aa ac w w':=by
 have q:=ww h ⟨k,a,b,n,s,t,u⟩ ha hb;exact q
theorem uW(k a b n:Int)(s t u:ByteArray)(c:Bool)(w:World):Calls pQ 52 #[.agg #[I J k,I J a,I J b,I J n,V s,V t,V u],.bool c] w (bm w (nr ⟨k,a,b,n,s,t,u⟩ c)):=by
 have q:=Jj ⟨k,a,b,n,s,t,u⟩ c w;exact q
theorem ul{x:St}(h:aw w g M x)(kd a b n:Int)(s t u:ByteArray)(has:Bool)(hb:bj b)(hk:kd=1∨kd=3∨kd=11):
  Calls pQ 91 #[O (some ⟨g,0,none⟩),.agg #[I J kd,I J a,I J b,I J n,V s,V t,V u],.bool has] w (bm w (lI x ⟨kd,a,b,n,s,t,u⟩ has)):=by
 obtain⟨T,hT⟩:∃T,rz x kd=T:=⟨_,rfl⟩;have hr:=GG h.ok kd;rw[hT] at hr;obtain⟨w1,hw1⟩:∃w1,w1=w.alloc (.cells #[I J kd,I J (T+1),I J b,I J n,V s,V t,V u] 42):=⟨_,rfl⟩;have hf:aa ac w w1:=by rw[hw1];exact(fR w).alloc _
 have tS:ai w1 w.heap.size 42 #[I J kd,I J (T+1),I J b,I J n,V s,V t,V u]:=by
  rw[hw1];exact ai.new w _ _
 have KT:Hid (∀W,aa ac w W→Calls pQ 144 #[O (some ⟨g,0,none⟩),I J kd] W λe w'=>e=.returned (I J T)∧W=w'):=λW hW=>by
  have q:=Lq (h.nix hW) kd;rw[show NL x kd=T from hT] at q;exact q
 have yr:=h_ (po (h.nix hf) hb);have pp:Hid (∀W,aa ac w1 W→Calls pQ 51 #[O (some ⟨g,0,none⟩),.agg #[I J kd,I J (T+1),I J b,I J n,V s,V t,V u]] W λr w'=>r=.returned (.bool (av x ⟨kd,T+1,b,n,s,t,u⟩))∧aa ac W w'):=λW hW=>Fe ((h.nix hf).nix hW) _ _ _ _ _ _ _ (NY (by omega) (by omega)) hb
 have HM:Hid (lI x ⟨kd,a,b,n,s,t,u⟩ has=if s=eS∨(kd=11∧t=eS) then ([],1) else if eQ x b=false then ([],4) else if has=true then ([],5) else if T≥1048576∨av x ⟨kd,T+1,b,n,s,t,u⟩=false then ([],2) else ([⟨kd,T+1,b,n,s,t,u⟩],0)):=by
  unfold Hid lI;simp only[hT]
 have HF:=h_ hf;have HB:=h_ tS;have HW:=h_ hw1;obtain⟨y0,y1,y2,y3,y4,y5,y6⟩:=ap tS;clear h hb hT hf tS hw1;generalize lI x ⟨kd,a,b,n,s,t,u⟩ has=r at *;generalize eQ x b=i1 at *;generalize av x ⟨kd,T+1,b,n,s,t,u⟩=i2 at *;go_enter Tryz.func91,Tryz.ntmps91;show Code.wp pQ (aj 0 (ae Tryz.f91)) _ _ _
 refine aG (k':=1) λK hK=>?_
 conv in bz _=>whnf
 go_wp2;refine aG (k':=2) λK hK=>?_
 conv in bz _=>whnf
 go_wp2_with (go_at_call 144;refine(KT.out _ ((fR w).alloc _)).mono ?_;rintro e w8 ⟨rfl,rfl⟩);refine aG (k':=3) λK hK=>?_
 conv in bz _=>whnf
 go_wp2;rw[←HW.out];simp only[aj,ae,Tryz.f91];have Za:¬(T:Int)=T+1:=by omega
 by_cases hs:s=eS
 ·have HR:Hid (r=([],1)):=by unfold Hid;rw[HM.out,if_pos (.inl hs)]
  have hs2:s=⟨#[]⟩:=hs;clear hs HM;subst hs2;go_wp2_with (go_at_call 43;refine(aW _ _).mono ?_;rintro e w9 ⟨rfl,rfl⟩)
  go_ret2
  rw[HR.out];exact bm.none_ HF.out
 have hs':¬s=⟨#[]⟩:=hs;have Rv:¬s.toList=[]:=λe=>hs (cX.1 e)
 have XK:s.toList.isEmpty=false:=List.isEmpty_eq_false_iff.2 Rv
 by_cases h11:kd=11∧t=eS
 ·have HR:Hid (r=([],1)):=by unfold Hid;rw[HM.out,if_pos (.inr h11)]
  obtain⟨hk2,IW⟩:=h11;have XL:t=⟨#[]⟩:=IW;clear IW HM hs;subst hk2;subst XL;go_wp2_with (go_at_call 43;refine(aW _ _).mono ?_;rintro e w9 ⟨rfl,rfl⟩)
  go_ret2
  rw[HR.out];exact bm.none_ HF.out
 have J6:Hid (r=if i1=false then ([],4) else if has=true then ([],5) else if T≥1048576∨i2=false then ([],2) else ([⟨kd,T+1,b,n,s,t,u⟩],0)):=by unfold Hid;rw[HM.out,if_neg (λh=>h.elim hs h11)]
 clear HM
 by_cases Qf:kd=11
 ·have Mx:¬t=⟨#[]⟩:=λe=>h11 ⟨Qf,e⟩
  have XM:¬t.toList=[]:=λe=>Mx (cX.1 e)
  have XN:t.toList.isEmpty=false:=List.isEmpty_eq_false_iff.2 XM;subst Qf;clear hs h11 hk
  cases i1 with
  | false=>
    have HR:Hid (r=([],4)):=by unfold Hid;rw[J6.out,if_pos rfl]
    go_wp2_with (first|(go_at_call 43;refine(aW _ _).mono ?_;rintro e w9 ⟨rfl,rfl⟩)|(go_at_call 50;refine yr.out.mono ?_;rintro e w2 ⟨rfl,hf⟩;obtain⟨y0,y1,y2,y3,y4,y5,y6⟩:=ap (HB.out.frm hf id);have Z2:=h_ hf;clear hf)|fail)
    go_ret2
    rw[HR.out]
    exact bm.none_ (HF.out.trans Z2.out)
  | true=>
    cases has with
    | true=>
      have HR:Hid (r=([],5)):=by unfold Hid;rw[J6.out,if_neg (by decide),if_pos rfl]
      go_wp2_with (first|(go_at_call 43;refine(aW _ _).mono ?_;rintro e w9 ⟨rfl,rfl⟩)|(go_at_call 50;refine yr.out.mono ?_;rintro e w2 ⟨rfl,hf⟩;obtain⟨y0,y1,y2,y3,y4,y5,y6⟩:=ap (HB.out.frm hf id);have Z2:=h_ hf;clear hf)|fail)
      go_ret2
      rw[HR.out]
      exact bm.none_ (HF.out.trans Z2.out)
    | false=>
      by_cases hq:T≥1048576
      ·have HR:Hid (r=([],2)):=by unfold Hid;rw[J6.out,if_neg (by decide),if_neg (by decide),if_pos (.inl hq)]
       have nk:(1048576:Int)≤T:=hq;go_wp2_with (first|(go_at_call 43;refine(aW _ _).mono ?_;rintro e w9 ⟨rfl,rfl⟩)|(go_at_call 50;refine yr.out.mono ?_;rintro e w2 ⟨rfl,hf⟩;obtain⟨y0,y1,y2,y3,y4,y5,y6⟩:=ap (HB.out.frm hf id);have Z2:=h_ hf;clear hf)|fail)
       go_ret2
       rw[HR.out];exact bm.none_ (HF.out.trans Z2.out)
      ·have nk:¬(1048576:Int)≤T:=hq
       cases i2 with
       | false=>
         have HR:Hid (r=([],2)):=by unfold Hid;rw[J6.out,if_neg (by decide),if_neg (by decide),if_pos (.inr rfl)]
         go_wp2_with (first|(go_at_call 51;have _q:=Z2;refine(pp.out _ Z2.out).mono ?_;rintro e w3 ⟨rfl,hf⟩;obtain⟨y0,y1,y2,y3,y4,y5,y6⟩:=ap (HB.out.frm (Z2.out.trans hf) id);have Z3:Hid (aa ac w1 w3):=Z2.out.trans hf;clear hf)|(go_at_call 43;refine(aW _ _).mono ?_;rintro e w9 ⟨rfl,rfl⟩)|(go_at_call 50;refine yr.out.mono ?_;rintro e w2 ⟨rfl,hf⟩;obtain⟨y0,y1,y2,y3,y4,y5,y6⟩:=ap (HB.out.frm hf id);have Z2:=h_ hf;clear hf)|fail)
         go_ret2
         rw[HR.out]
         exact bm.none_ (HF.out.trans Z3.out)
       | true=>
         have HR:Hid (r=([⟨11,T+1,b,n,s,t,u⟩],0)):=by unfold Hid;rw[J6.out,if_neg (by decide),if_neg (by decide),if_neg (λh=>h.elim hq (by decide))]
         go_wp2_with (first|(go_at_call 52;refine(uW _ _ _ _ _ _ _ _ _).mono ?_;rintro e w4 ⟨v,rfl,dL,hf⟩;have Z4:Hid (aa ac w1 w4):=Z3.out.trans hf;have kL:=h_ (dL.mono (G':=λk=>w.heap.size≤k) λk hk=>by(have h1:=HF.out.size;have h2:=Z3.out.size;omega));clear dL hf)|(go_at_call 51;have _q:=Z2;refine(pp.out _ Z2.out).mono ?_;rintro e w3 ⟨rfl,hf⟩;obtain⟨y0,y1,y2,y3,y4,y5,y6⟩:=ap (HB.out.frm (Z2.out.trans hf) id);have Z3:Hid (aa ac w1 w3):=Z2.out.trans hf;clear hf)|(go_at_call 50;refine yr.out.mono ?_;rintro e w2 ⟨rfl,hf⟩;obtain⟨y0,y1,y2,y3,y4,y5,y6⟩:=ap (HB.out.frm hf id);have Z2:=h_ hf;clear hf)|fail)
         go_ret2
         rw[HR.out];exact⟨v,rfl,kL.out,HF.out.trans Z4.out⟩
 ·clear hs h11
  cases i1 with
  | false=>
    have HR:Hid (r=([],4)):=by unfold Hid;rw[J6.out,if_pos rfl]
    go_wp2_with (first|(go_at_call 43;refine(aW _ _).mono ?_;rintro e w9 ⟨rfl,rfl⟩)|(go_at_call 50;refine yr.out.mono ?_;rintro e w2 ⟨rfl,hf⟩;obtain⟨y0,y1,y2,y3,y4,y5,y6⟩:=ap (HB.out.frm hf id);have Z2:=h_ hf;clear hf)|fail)
    go_ret2
    rw[HR.out]
    exact bm.none_ (HF.out.trans Z2.out)
  | true=>
    cases has with
    | true=>
      have HR:Hid (r=([],5)):=by unfold Hid;rw[J6.out,if_neg (by decide),if_pos rfl]
      go_wp2_with (first|(go_at_call 43;refine(aW _ _).mono ?_;rintro e w9 ⟨rfl,rfl⟩)|(go_at_call 50;refine yr.out.mono ?_;rintro e w2 ⟨rfl,hf⟩;obtain⟨y0,y1,y2,y3,y4,y5,y6⟩:=ap (HB.out.frm hf id);have Z2:=h_ hf;clear hf)|fail)
      go_ret2
      rw[HR.out]
      exact bm.none_ (HF.out.trans Z2.out)
    | false=>
      by_cases hq:T≥1048576
      ·have HR:Hid (r=([],2)):=by unfold Hid;rw[J6.out,if_neg (by decide),if_neg (by decide),if_pos (.inl hq)]
       have nk:(1048576:Int)≤T:=hq;go_wp2_with (first|(go_at_call 43;refine(aW _ _).mono ?_;rintro e w9 ⟨rfl,rfl⟩)|(go_at_call 50;refine yr.out.mono ?_;rintro e w2 ⟨rfl,hf⟩;obtain⟨y0,y1,y2,y3,y4,y5,y6⟩:=ap (HB.out.frm hf id);have Z2:=h_ hf;clear hf)|fail)
       go_ret2
       rw[HR.out];exact bm.none_ (HF.out.trans Z2.out)
      ·have nk:¬(1048576:Int)≤T:=hq
       cases i2 with
       | false=>
         have HR:Hid (r=([],2)):=by unfold Hid;rw[J6.out,if_neg (by decide),if_neg (by decide),if_pos (.inr rfl)]
         go_wp2_with (first|(go_at_call 51;have _q:=Z2;refine(pp.out _ Z2.out).mono ?_;rintro e w3 ⟨rfl,hf⟩;obtain⟨y0,y1,y2,y3,y4,y5,y6⟩:=ap (HB.out.frm (Z2.out.trans hf) id);have Z3:Hid (aa ac w1 w3):=Z2.out.trans hf;clear hf)|(go_at_call 43;refine(aW _ _).mono ?_;rintro e w9 ⟨rfl,rfl⟩)|(go_at_call 50;refine yr.out.mono ?_;rintro e w2 ⟨rfl,hf⟩;obtain⟨y0,y1,y2,y3,y4,y5,y6⟩:=ap (HB.out.frm hf id);have Z2:=h_ hf;clear hf)|fail)
         go_ret2
         rw[HR.out]
         exact bm.none_ (HF.out.trans Z3.out)
       | true=>
         have HR:Hid (r=([⟨kd,T+1,b,n,s,t,u⟩],0)):=by unfold Hid;rw[J6.out,if_neg (by decide),if_neg (by decide),if_neg (λh=>h.elim hq (by decide))]
         go_wp2_with (first|(go_at_call 52;refine(uW _ _ _ _ _ _ _ _ _).mono ?_;rintro e w4 ⟨v,rfl,dL,hf⟩;have Z4:Hid (aa ac w1 w4):=Z3.out.trans hf;have kL:=h_ (dL.mono (G':=λk=>w.heap.size≤k) λk hk=>by(have h1:=HF.out.size;have h2:=Z3.out.size;omega));clear dL hf)|(go_at_call 51;have _q:=Z2;refine(pp.out _ Z2.out).mono ?_;rintro e w3 ⟨rfl,hf⟩;obtain⟨y0,y1,y2,y3,y4,y5,y6⟩:=ap (HB.out.frm (Z2.out.trans hf) id);have Z3:Hid (aa ac w1 w3):=Z2.out.trans hf;clear hf)|(go_at_call 50;refine yr.out.mono ?_;rintro e w2 ⟨rfl,hf⟩;obtain⟨y0,y1,y2,y3,y4,y5,y6⟩:=ap (HB.out.frm hf id);have Z2:=h_ hf;clear hf)|fail)
         go_ret2
         rw[HR.out];exact⟨v,rfl,kL.out,HF.out.trans Z4.out⟩
theorem xH{x:St}(h:aw w g M x)(a b n:Int)(s t:ByteArray)(hc:mE ⟨1,a,b,n,s,t⟩):
  Calls pQ 44 #[O (some ⟨g,0,none⟩),.agg #[I J 1,I J a,I J b,I J n,V s,V t]] w (bm w (aB ah aC x ⟨1,a,b,n,s,t⟩)):=by
 obtain⟨r,hr⟩:∃r,aB ah aC x ⟨1,a,b,n,s,t⟩=r:=⟨_,rfl⟩;have KS:Hid (∀W,Calls pQ 41 #[V s,I J 64] W λe w'=>e=.returned (V (ah s 64))∧aa ac W w'):=λW=>mD s hc.s 64 W
 have KN:Hid (∀W,aa ac w W→Calls pQ 92 #[O (some ⟨g,0,none⟩),I J b,V (ah s 64)] W λe w'=>e=.returned (.bool (ey x b (ah s 64)))∧aa ac W w'):=λW hW=>GF (h.nix hW) _ _
 have KM:Hid (∀W,aa ac w W→Calls pQ 91 #[O (some ⟨g,0,none⟩),.agg #[I J 1,I J 0,I J b,I J 0,V (ah s 64),V ⟨#[]⟩,V ⟨#[]⟩],.bool (ey x b (ah s 64))] W (bm W r)):=λW hW=>by
  have q:=ul (h.nix hW) 1 0 b 0 (ah s 64) ⟨#[]⟩ ⟨#[]⟩ (ey x b (ah s 64)) hc.b (.inl rfl);rw[←hr];exact q
 have hfb:aa ac w (w.alloc (.cells #[I J 1,I J a,I J b,I J n,V s,V t] 49)):=(fR w).alloc _;have dw:Hid (∀W,aa ac (w.alloc (.cells #[I J 1,I J a,I J b,I J n,V s,V t] 49)) W→ai W w.heap.size 49 #[I J 1,I J a,I J b,I J n,V s,V t]):=λW hW=>(ai.new w 49 #[I J 1,I J a,I J b,I J n,V s,V t]).frm hW id
 have eu:=h_ hfb;rw[hr];clear h hc hr hfb;generalize ey x b (ah s 64)=q at *;generalize ah s 64=s1 at *;go_enter Tryz.func44,Tryz.ntmps44;go_wp2_with (go_at_call 41;refine(KS.out _).mono ?_;rintro e w1 ⟨rfl,hf⟩;obtain⟨y0,y1,y2,y3,y4,y5⟩:=bn (dw.out _ hf);have Z1:Hid (aa ac w w1):=eu.out.trans hf;have HC:Hid (∀W,aa ac w1 W→W.cell? ⟨w.heap.size,2,none⟩=some (I J b)):=(λW hW=>(dw.out _ (hf.trans hW)).cell 2);clear hf)
 go_region_held3 (λW=>W.cell? ⟨w.heap.size,2,none⟩=some (I J b)) ((refine HC.out _ ?_;repeat' (first|with_reducible exact aa.refl _ _|with_reducible exact Y3.out|with_reducible exact Y2.out|with_reducible apply aa.drew)))
  (first
   | (go_at_call 91;have _q:=Y2;refine(KM.out _ (Z1.out.trans Y2.out)).mono ?_;rintro e w3 ⟨v,rfl,dL,hf⟩;have Y3:Hid (aa ac w1 w3):=Y2.out.trans hf;have kL:=h_ (dL.mono (G':=λk=>w.heap.size≤k) λk hk=>by(have h1:=(Z1.out.trans Y2.out).size;omega));clear dL hf)
   | (go_at_call 92;refine(KN.out _ (Z1.out.trans (fR _).drew)).mono ?_;rintro e w2 ⟨rfl,hf⟩;have Y2:Hid (aa ac w1 w2):=(fR _).drew.trans hf;clear hf))
 all_goals
  go_wp2
  go_ret2
  exact⟨v,rfl,kL.out,Z1.out.trans Y3.out⟩
theorem xI{x:St}(h:aw w g M x)(a b n:Int)(s t:ByteArray)(hc:mE ⟨2,a,b,n,s,t⟩):
  Calls pQ 44 #[O (some ⟨g,0,none⟩),.agg #[I J 2,I J a,I J b,I J n,V s,V t]] w (bm w (aB ah aC x ⟨2,a,b,n,s,t⟩)):=by
 obtain⟨r,hr⟩:∃r,aB ah aC x ⟨2,a,b,n,s,t⟩=r:=⟨_,rfl⟩
 have HM:Hid ((if aS bg.id a x.fols=false then (([],4):List Ev×Int) else if av x ⟨2,a,0,0,⟨#[]⟩,⟨#[]⟩,⟨#[]⟩⟩=false then ([],220) else ([⟨2,a,0,0,⟨#[]⟩,⟨#[]⟩,⟨#[]⟩⟩],0))=r):=by
  unfold Hid;rw[←hr];rfl
 have yr:Hid (∀W,aa ac w W→Calls pQ 93 #[O (some ⟨g,0,none⟩),I J a] W λe w'=>e=.returned (.tuple #[.agg #[I J (ep x a).id,I J (ep x a).inn,V (ep x a).name],.bool (aS bg.id a x.fols)])∧aa ac W w'):=λW hW=>qQ (h.nix hW) hc.a
 have pp:Hid (∀W,aa ac w W→Calls pQ 51 #[O (some ⟨g,0,none⟩),.agg #[I J 2,I J a,I J 0,I J 0,V ⟨#[]⟩,V ⟨#[]⟩,V ⟨#[]⟩]] W λr w'=>r=.returned (.bool (av x ⟨2,a,0,0,⟨#[]⟩,⟨#[]⟩,⟨#[]⟩⟩))∧aa ac W w'):=λW hW=>Fe (h.nix hW) _ _ _ _ _ _ _ hc.a wE
 have fp:Hid (ai ((w.alloc (.cells #[I J 2,I J a,I J b,I J n,V s,V t] 49)).alloc (.cells #[I J 2,I J a,I J 0,I J 0,V ⟨#[]⟩,V ⟨#[]⟩,V ⟨#[]⟩] 42)) (w.heap.size+1) 42 #[I J 2,I J a,I J 0,I J 0,V ⟨#[]⟩,V ⟨#[]⟩,V ⟨#[]⟩]):=by
  have q:=ai.new (w.alloc (.cells #[I J 2,I J a,I J b,I J n,V s,V t] 49)) 42 #[I J 2,I J a,I J 0,I J 0,V ⟨#[]⟩,V ⟨#[]⟩,V ⟨#[]⟩];rw[show (w.alloc (.cells #[I J 2,I J a,I J b,I J n,V s,V t] 49)).heap.size=w.heap.size+1 by simp] at q;exact q
 have eu:Hid (aa ac w ((w.alloc (.cells #[I J 2,I J a,I J b,I J n,V s,V t] 49)).alloc (.cells #[I J 2,I J a,I J 0,I J 0,V ⟨#[]⟩,V ⟨#[]⟩,V ⟨#[]⟩] 42))):=((fR w).alloc _).alloc _;rw[hr];clear h hc hr;generalize aS bg.id a x.fols=i1 at *;generalize av x ⟨2,a,0,0,⟨#[]⟩,⟨#[]⟩,⟨#[]⟩⟩=i2 at *;generalize ep x a=fo at *
 cases i1 with
 | false=>
   have HR:Hid (r=([],4)):=by unfold Hid;rw[←HM.out,if_pos rfl]
   go_enter Tryz.func44,Tryz.ntmps44;go_wp2_with (first|(go_at_call 43;have _q:=Z2;refine(aW _ _).mono ?_;rintro e w9 ⟨rfl,rfl⟩)|(go_at_call 93;refine(yr.out _ eu.out).mono ?_;rintro e w2 ⟨rfl,hf⟩;have zB:=fp.out.frm hf id;obtain⟨y0,y1,y2,y3,y4,y5,y6⟩:=ap zB;have yl:=zB.lt;clear zB;have Y2:=h_ hf;have Z2:Hid (aa ac w w2):=eu.out.trans hf;clear hf))
   go_ret2
   rw[HR.out]
   exact bm.none_ (Z2.out.alloc _)
 | true=>
   cases i2 with
   | false=>
     have HR:Hid (r=([],220)):=by unfold Hid;rw[←HM.out,if_neg (by decide),if_pos rfl]
     go_enter Tryz.func44,Tryz.ntmps44;go_wp2_with (first|(go_at_call 43;have _q:=Z3;refine(aW _ _).mono ?_;rintro e w9 ⟨rfl,rfl⟩)|(go_at_call 51;have _q:=Z2;refine(pp.out _ (Z2.out.alloc _)).mono ?_;rintro e w3 ⟨rfl,hf⟩;have zB:=fp.out.frm ((Y2.out.alloc _).trans hf) id;obtain⟨y0,y1,y2,y3,y4,y5,y6⟩:=ap zB;have yl:=zB.lt;clear zB;have Z3:Hid (aa ac w w3):=(Z2.out.alloc _).trans hf;clear hf)|(go_at_call 93;refine(yr.out _ eu.out).mono ?_;rintro e w2 ⟨rfl,hf⟩;have zB:=fp.out.frm hf id;obtain⟨y0,y1,y2,y3,y4,y5,y6⟩:=ap zB;have yl:=zB.lt;clear zB;have Y2:=h_ hf;have Z2:Hid (aa ac w w2):=eu.out.trans hf;clear hf))
     go_ret2
     rw[HR.out]
     exact bm.none_ Z3.out
   | true=>
     have HR:Hid (r=([⟨2,a,0,0,⟨#[]⟩,⟨#[]⟩,⟨#[]⟩⟩],0)):=by unfold Hid;rw[←HM.out,if_neg (by decide),if_neg (by decide)]
     go_enter Tryz.func44,Tryz.ntmps44;go_wp2_with (first|(go_at_call 52;have _q:=Z3;refine(uW _ _ _ _ _ _ _ _ _).mono ?_;rintro e w4 ⟨v,rfl,dL,hf⟩;have Z4:Hid (aa ac w w4):=Z3.out.trans hf;have kL:=h_ (dL.mono (G':=λk=>w.heap.size≤k) λk hk=>by(have h2:=Z3.out.size;omega));clear dL hf)|(go_at_call 51;have _q:=Z2;refine(pp.out _ (Z2.out.alloc _)).mono ?_;rintro e w3 ⟨rfl,hf⟩;have zB:=fp.out.frm ((Y2.out.alloc _).trans hf) id;obtain⟨y0,y1,y2,y3,y4,y5,y6⟩:=ap zB;have yl:=zB.lt;clear zB;have Z3:Hid (aa ac w w3):=(Z2.out.alloc _).trans hf;clear hf)|(go_at_call 93;refine(yr.out _ eu.out).mono ?_;rintro e w2 ⟨rfl,hf⟩;have zB:=fp.out.frm hf id;obtain⟨y0,y1,y2,y3,y4,y5,y6⟩:=ap zB;have yl:=zB.lt;clear zB;have Y2:=h_ hf;have Z2:Hid (aa ac w w2):=eu.out.trans hf;clear hf))
     go_ret2
     rw[HR.out];exact⟨v,rfl,kL.out,Z4.out⟩
def LB(x:St)(a n:Int)(s:ByteArray):List Ev×Int:=
 if aC s=eS then ([],1) else if aS aJ.id a x.itms=false then ([],4) else if av x ⟨10,a,0,n,aC s,eS,eS⟩=false then ([],2) else nr ⟨10,a,0,n,aC s,eS,eS⟩ (!decide (((ag x a).tags.any λy=>decide (y=aC s))=decide (n=1)))
theorem Jm{x:St}(h:di x)(a:Int):(ag x a).id=if aS aJ.id a x.itms=true then a else 0:=by
 unfold ag;rw[←mJ]
 cases hq:eV aJ.id a x.itms with
 | none=>rfl
 | some t=>exact(dG hq).2
theorem LC{x:St}(h:di x)(hi:aS aJ.id a x.itms=true):¬a=0:=by
 obtain⟨t,ht,rfl⟩:=dg.1 hi;have:=(h.iId ht).1;omega
theorem BS{x:St}{q:aJ}(h:eV aJ.id a x.itms=some q):ag x a=q:=by unfold ag;rw[h];rfl
theorem Qg(x:St)(a b n:Int)(s t:ByteArray)(hn:n=0∨n=1):aB ah aC x ⟨9,a,b,n,s,t⟩=LB x a n s:=by
 unfold LB;have h1:¬¬(n=0∨n=1):=λh=>h hn
 cases hq:eV aJ.id a x.itms with
 | none=>
   have hi:=uh hq
   simp[aB,hn,hq,hi]
 | some q=>
   have hi:=qp hq;have:=BS hq;simp[aB,hn,hq,hi,this]
theorem NZ(x:St)(k a b n:Int)(s t:ByteArray)(hk:k=7∨k=8)(hn:n=0∨n=1):aB ah aC x ⟨k,a,b,n,s,t⟩=if aS aJ.id a x.itms=false then ([],4) else if k=7 then nr ⟨8,a,0,n,eS,eS,eS⟩ (!decide ((ag x a).read=decide (n=1))) else nr ⟨9,a,0,n,eS,eS,eS⟩ (!decide ((ag x a).star=decide (n=1))):=by
 cases hq:eV aJ.id a x.itms with
 | none=>
   have hi:=uh hq
   rcases hk with rfl|rfl<;>simp[aB,hn,hq,hi]
 | some q=>
   have hi:=qp hq;have:=BS hq;rcases hk with rfl|rfl<;>simp[aB,hn,hq,hi,this]
theorem Qh(x:St)(k a b n:Int)(s t:ByteArray)(hk:k=7∨k=8∨k=9)(hn:¬(n=0∨n=1)):aB ah aC x ⟨k,a,b,n,s,t⟩=([],1):=by
 rcases hk with rfl|rfl|rfl<;>simp[aB,hn]
theorem DT(l:List ByteArray):l.map Value.string=l.flatMap λi=>[Value.string i]:=by
 induction l with
 | nil=>rfl
 | cons a l ih=>rw[List.map_cons,ih,List.flatMap_cons];rfl
theorem xJ{l:List ByteArray}(h:aN W G 1 v l.length (l.map Value.string))(hn:l.length≤100000)(x:ByteArray):
  Calls pQ 149 #[U v.1 l.length v.2,V x] W λe w'=>e=.returned (.bool (l.any λy=>decide (y=x)))∧w'=W:=by
 have hc:Lib.containsS l x=l.any λy=>decide (y=x):=by
  rw[Bool.eq_iff_iff,Lib.containsS_iff];simp
 rcases Nat.eq_zero_or_pos l.length with h0|h0
 ·have:l=[]:=List.eq_nil_of_length_eq_zero h0
  subst this;exact Tryz.slices_Contains_string_empty v.1 v.2 x W
 ·rw[DT] at h
  obtain⟨b,off,e,-,-,hq⟩:=h.at_ (f:=λi=>[Value.string i]) (λ_=>rfl) (by decide) h0;rw[e]
  have:=Tryz.slices_Contains_string b off l.length v.2 l x W (Nat.le_refl _) (by omega) (λj hj=>by
   have:=hq j hj 0 _ rfl;rw[Nat.mul_one,Nat.add_zero] at this;rw[this,List.getD_eq_getElem?_getD,List.getElem?_eq_getElem hj];rfl)
  rw[List.take_length,hc] at this;exact this
theorem GH{x:St}(h:aw w g M x)(k a b n:Int)(s t:ByteArray)(hc:mE ⟨k,a,b,n,s,t⟩)(hn:n=0∨n=1)(hv:aN w G 1 v (ag x a).tags.length ((ag x a).tags.map Value.string)):
  Calls pQ 96 #[O (some ⟨g,0,none⟩),.agg #[I J k,I J a,I J b,I J n,V s,V t],.agg #[I J (ag x a).id,I J (ag x a).feed,I J (ag x a).date,V (ag x a).guid,V (ag x a).title,V (ag x a).link,.bool (ag x a).read,.bool (ag x a).star,U v.1 (ag x a).tags.length v.2]] w (bm w (LB x a n s)):=by
 obtain⟨r,hr⟩:∃r,LB x a n s=r:=⟨_,rfl⟩;have HM:Hid ((if aC s=eS then (([],1):List Ev×Int) else if aS aJ.id a x.itms=false then ([],4) else if av x ⟨10,a,0,n,aC s,eS,eS⟩=false then ([],2) else nr ⟨10,a,0,n,aC s,eS,eS⟩ (!decide (((ag x a).tags.any λy=>decide (y=aC s))=decide (n=1))))=r):=hr;have hid:=Jm h.ok a;have xk:=λhi:aS aJ.id a x.itms=true=>LC h.ok hi
 have zR:(ag x a).tags.length≤100000:=by have:=(sS h.ok a).2;omega
 have KW:Hid (∀W,Calls pQ 147 #[V s] W (yI W (js s))):=λW=>xR s W (by have:=hc.s;dsimp only at this;omega)
 have xP:aC s=match js s with | []=>eS|w::_=>if lJ w=true then w else eS:=rfl
 generalize hq:ag x a=q at *;have dw:Hid (∀W,aa ac ((w.alloc (.cells #[I J k,I J a,I J b,I J n,V s,V t] 49)).alloc (.cells #[I J q.id,I J q.feed,I J q.date,V q.guid,V q.title,V q.link,.bool q.read,.bool q.star,U v.1 q.tags.length v.2] 82)) W→ai W w.heap.size 49 #[I J k,I J a,I J b,I J n,V s,V t]):=λW hW=>((ai.new w 49 #[I J k,I J a,I J b,I J n,V s,V t]).alloc _).frm hW id
 have Lh:Hid (∀W,aa ac ((w.alloc (.cells #[I J k,I J a,I J b,I J n,V s,V t] 49)).alloc (.cells #[I J q.id,I J q.feed,I J q.date,V q.guid,V q.title,V q.link,.bool q.read,.bool q.star,U v.1 q.tags.length v.2] 82)) W→ai W (w.heap.size+1) 82 #[I J q.id,I J q.feed,I J q.date,V q.guid,V q.title,V q.link,.bool q.read,.bool q.star,U v.1 q.tags.length v.2]):=λW hW=>by
  have:=(ai.new (w.alloc (.cells #[I J k,I J a,I J b,I J n,V s,V t] 49)) 82 #[I J q.id,I J q.feed,I J q.date,V q.guid,V q.title,V q.link,.bool q.read,.bool q.star,U v.1 q.tags.length v.2]).frm hW id
  simpa using this
 have eu:Hid (aa ac w ((w.alloc (.cells #[I J k,I J a,I J b,I J n,V s,V t] 49)).alloc (.cells #[I J q.id,I J q.feed,I J q.date,V q.guid,V q.title,V q.link,.bool q.read,.bool q.star,U v.1 q.tags.length v.2] 82))):=((fR w).alloc _).alloc _;have HV:=h_ hv;have HS:=h_ h;have J7:=h_ zR;have FE:bj a:=hc.a;rw[hr];clear h hc hr hv zR
 cases xd:js s with
 | nil=>
   have HR:Hid (r=([],1)):=by unfold Hid;rw[←HM.out,if_pos (by rw[xP,xd])]
   rw[xd] at KW;clear xP xd HM hid xk hq;go_enter Tryz.func96,Tryz.ntmps96;go_wp2_with (first|(go_at_call 43;refine(aW _ _).mono ?_;rintro e w9 ⟨rfl,rfl⟩)|(go_at_call 147;refine(KW.out _).mono ?_;rintro e w2 ⟨A,c,rfl,hrow⟩;have Y2:Hid (aa ac ((w.alloc (.cells #[I J k,I J a,I J b,I J n,V s,V t] 49)).alloc (.cells #[I J q.id,I J q.feed,I J q.date,V q.guid,V q.title,V q.link,.bool q.read,.bool q.star,U v.1 q.tags.length v.2] 82)) w2):=hrow.frm;obtain⟨y0,y1,y2,y3,y4,y5⟩:=bn (dw.out _ Y2.out);clear hrow))
   go_ret2
   rw[HR.out]
   exact bm.none_ (eu.out.trans Y2.out)
 | cons x0 ws=>
   rw[xd] at KW xP;have hl:(0:Int)<((ws.length:Int)+1):=by omega
   have hl2:¬((ws.length:Int)+1=0):=by omega
   have KG:Hid (∀W,Calls pQ 148 #[V x0] W λe w'=>e=.returned (.bool (lJ x0))∧aa ac W w'):=λW=>AK x0 W
   cases Ku:lJ x0 with
   | false=>
     have HR:Hid (r=([],1)):=by unfold Hid;rw[←HM.out,if_pos (by rw[xP];show (if lJ x0=true then x0 else eS)=eS;rw[Ku];rfl)]
     rw[Ku] at KG;clear xP xd HM hid xk hq Ku;go_enter Tryz.func96,Tryz.ntmps96;go_wp2_with (first|(go_at_call 43;refine(aW _ _).mono ?_;rintro e w9 ⟨rfl,rfl⟩)|(go_at_call 148;have _q:=Y2;refine(KG.out _).mono ?_;rintro e w3 ⟨rfl,hf⟩;have Y3:Hid (aa ac ((w.alloc (.cells #[I J k,I J a,I J b,I J n,V s,V t] 49)).alloc (.cells #[I J q.id,I J q.feed,I J q.date,V q.guid,V q.title,V q.link,.bool q.read,.bool q.star,U v.1 q.tags.length v.2] 82)) w3):=Y2.out.trans hf;have cb:=(hf.cell N0.out id).trans HA.out;obtain⟨y0,y1,y2,y3,y4,y5⟩:=bn (dw.out _ Y3.out);obtain⟨z0,z1,z2,z3,z4,z5,z6,z7,z8⟩:=ak (Lh.out _ Y3.out);have LD:=h_ cb;clear hf)|(go_at_call 147;refine(KW.out _).mono ?_;rintro e w2 ⟨A,c,rfl,hrow⟩;obtain⟨ad,u,rfl,-,had,hu,cx⟩:=hrow.rd.at_ (k:=0) (by simp);simp at hu;subst hu;have ca:w2.cell? ad=some (V x0):=cx;have HA:=h_ ca;have N0:=h_ had;clear cx;have Y2:Hid (aa ac ((w.alloc (.cells #[I J k,I J a,I J b,I J n,V s,V t] 49)).alloc (.cells #[I J q.id,I J q.feed,I J q.date,V q.guid,V q.title,V q.link,.bool q.read,.bool q.star,U v.1 q.tags.length v.2] 82)) w2):=hrow.frm;obtain⟨y0,y1,y2,y3,y4,y5⟩:=bn (dw.out _ Y2.out);clear hrow))
     go_ret2
     rw[HR.out]
     exact bm.none_ (eu.out.trans Y3.out)
   | true=>
     rw[Ku] at KG;have Qi:aC s=x0:=by rw[xP];show (if lJ x0=true then x0 else eS)=x0;rw[Ku,if_pos rfl]
     have hne:=Jh Ku;rw[Qi,if_neg hne] at HM;clear xP Qi xd hne Ku
     cases hi:aS aJ.id a x.itms with
     | false=>
       have HR:Hid (r=([],4)):=by unfold Hid;rw[←HM.out,if_pos hi]
       rw[hi] at hid;have TA:(q.id==0)=true:=beq_iff_eq.2 hid;clear HM hid xk hq hi;go_enter Tryz.func96,Tryz.ntmps96;go_wp2_with (first|(go_at_call 43;refine(aW _ _).mono ?_;rintro e w9 ⟨rfl,rfl⟩)|(go_at_call 148;have _q:=Y2;refine(KG.out _).mono ?_;rintro e w3 ⟨rfl,hf⟩;have Y3:Hid (aa ac ((w.alloc (.cells #[I J k,I J a,I J b,I J n,V s,V t] 49)).alloc (.cells #[I J q.id,I J q.feed,I J q.date,V q.guid,V q.title,V q.link,.bool q.read,.bool q.star,U v.1 q.tags.length v.2] 82)) w3):=Y2.out.trans hf;have cb:=(hf.cell N0.out id).trans HA.out;obtain⟨y0,y1,y2,y3,y4,y5⟩:=bn (dw.out _ Y3.out);obtain⟨z0,z1,z2,z3,z4,z5,z6,z7,z8⟩:=ak (Lh.out _ Y3.out);have LD:=h_ cb;clear hf)|(go_at_call 147;refine(KW.out _).mono ?_;rintro e w2 ⟨A,c,rfl,hrow⟩;obtain⟨ad,u,rfl,-,had,hu,cx⟩:=hrow.rd.at_ (k:=0) (by simp);simp at hu;subst hu;have ca:w2.cell? ad=some (V x0):=cx;have HA:=h_ ca;have N0:=h_ had;clear cx;have Y2:Hid (aa ac ((w.alloc (.cells #[I J k,I J a,I J b,I J n,V s,V t] 49)).alloc (.cells #[I J q.id,I J q.feed,I J q.date,V q.guid,V q.title,V q.link,.bool q.read,.bool q.star,U v.1 q.tags.length v.2] 82)) w2):=hrow.frm;obtain⟨y0,y1,y2,y3,y4,y5⟩:=bn (dw.out _ Y2.out);clear hrow)|fail);have HC:Hid (∀W,aa ac w3 W→W.cell? ⟨w.heap.size,1,none⟩=some (I J a)∧W.cell? ⟨w.heap.size,3,none⟩=some (I J n)∧W.cell? ad=some (V x0)):=λW hW=>⟨(dw.out _ (Y3.out.trans hW)).cell 1,(dw.out _ (Y3.out.trans hW)).cell 3,(hW.cell (World.block_lt_of_cell? w3 _ LD.out) id).trans LD.out⟩
       go_region_held3 (λW=>W.cell? ⟨w.heap.size,1,none⟩=some (I J a)∧W.cell? ⟨w.heap.size,3,none⟩=some (I J n)∧W.cell? ad=some (V x0)) ((refine HC.out _ ?_;repeat' (first|with_reducible exact aa.refl _ _|with_reducible apply aa.drew|with_reducible apply aa.alloc))) (fail)
       obtain⟨w4,hw4⟩:∃w4,w4=(w3.alloc (.cells #[I J 10,I J a,I J 0,I J n,V x0,V ⟨#[]⟩,V ⟨#[]⟩] 42)).drew:=⟨_,rfl⟩;rw[←hw4];have pN:aa ac w3 w4:=by rw[hw4];exact((fR w3).alloc _).drew
       have kJ:Hid (∀W,aa ac w4 W→ai W w.heap.size 49 #[I J k,I J a,I J b,I J n,V s,V t]∧ai W (w.heap.size+1) 82 #[I J q.id,I J q.feed,I J q.date,V q.guid,V q.title,V q.link,.bool q.read,.bool q.star,U v.1 q.tags.length v.2]∧ai W w3.heap.size 42 #[I J 10,I J a,I J 0,I J n,V x0,V ⟨#[]⟩,V ⟨#[]⟩]):=λW hW=>⟨dw.out _ ((Y3.out.trans pN).trans hW),Lh.out _ ((Y3.out.trans pN).trans hW),by(have q:=ai.new w3 42 #[I J 10,I J a,I J 0,I J n,V x0,V ⟨#[]⟩,V ⟨#[]⟩];have q2:=q.drew;rw[←hw4] at q2;exact q2.frm hW id)⟩
       have Z4:Hid (aa ac w w4):=eu.out.trans (Y3.out.trans pN);obtain⟨b1,b2,b3⟩:=kJ.out w4 (fR w4);obtain⟨y0,y1,y2,y3,y4,y5⟩:=bn b1;obtain⟨z0,z1,z2,z3,z4,z5,z6,z7,z8⟩:=ak b2;obtain⟨e0,e1,e2,e3,e4,e5,e6⟩:=ap b3;clear hw4 pN b1 b2 b3 HC;go_wp2_with (first|(go_at_call 43;refine(aW _ _).mono ?_;rintro e w9 ⟨rfl,rfl⟩)|fail)
       go_ret2
       rw[HR.out]
       exact bm.none_ Z4.out
     | true=>
       have N1:=xk hi;rw[hi,if_pos rfl] at hid;have TA:(q.id==0)=false:=beq_eq_false_iff_ne.2 (by rw[hid];exact N1);rw[hi,if_neg (by decide)] at HM;have pp:Hid (∀W,aa ac w W→Calls pQ 51 #[O (some ⟨g,0,none⟩),.agg #[I J 10,I J a,I J 0,I J n,V x0,V ⟨#[]⟩,V ⟨#[]⟩]] W λr w'=>r=.returned (.bool (av x ⟨10,a,0,n,x0,⟨#[]⟩,⟨#[]⟩⟩))∧aa ac W w'):=λW hW=>Fe (HS.out.nix hW) _ _ _ _ _ _ _ FE wE
       cases Mv:av x ⟨10,a,0,n,x0,⟨#[]⟩,⟨#[]⟩⟩ with
       | false=>
         have HR:Hid (r=([],2)):=HM.out.symm.trans (if_pos Mv);rw[Mv] at pp;clear HM hid xk hq hi Mv N1;go_enter Tryz.func96,Tryz.ntmps96;go_wp2_with (first|(go_at_call 43;refine(aW _ _).mono ?_;rintro e w9 ⟨rfl,rfl⟩)|(go_at_call 148;have _q:=Y2;refine(KG.out _).mono ?_;rintro e w3 ⟨rfl,hf⟩;have Y3:Hid (aa ac ((w.alloc (.cells #[I J k,I J a,I J b,I J n,V s,V t] 49)).alloc (.cells #[I J q.id,I J q.feed,I J q.date,V q.guid,V q.title,V q.link,.bool q.read,.bool q.star,U v.1 q.tags.length v.2] 82)) w3):=Y2.out.trans hf;have cb:=(hf.cell N0.out id).trans HA.out;obtain⟨y0,y1,y2,y3,y4,y5⟩:=bn (dw.out _ Y3.out);obtain⟨z0,z1,z2,z3,z4,z5,z6,z7,z8⟩:=ak (Lh.out _ Y3.out);have LD:=h_ cb;clear hf)|(go_at_call 147;refine(KW.out _).mono ?_;rintro e w2 ⟨A,c,rfl,hrow⟩;obtain⟨ad,u,rfl,-,had,hu,cx⟩:=hrow.rd.at_ (k:=0) (by simp);simp at hu;subst hu;have ca:w2.cell? ad=some (V x0):=cx;have HA:=h_ ca;have N0:=h_ had;clear cx;have Y2:Hid (aa ac ((w.alloc (.cells #[I J k,I J a,I J b,I J n,V s,V t] 49)).alloc (.cells #[I J q.id,I J q.feed,I J q.date,V q.guid,V q.title,V q.link,.bool q.read,.bool q.star,U v.1 q.tags.length v.2] 82)) w2):=hrow.frm;obtain⟨y0,y1,y2,y3,y4,y5⟩:=bn (dw.out _ Y2.out);clear hrow)|fail);have HC:Hid (∀W,aa ac w3 W→W.cell? ⟨w.heap.size,1,none⟩=some (I J a)∧W.cell? ⟨w.heap.size,3,none⟩=some (I J n)∧W.cell? ad=some (V x0)):=λW hW=>⟨(dw.out _ (Y3.out.trans hW)).cell 1,(dw.out _ (Y3.out.trans hW)).cell 3,(hW.cell (World.block_lt_of_cell? w3 _ LD.out) id).trans LD.out⟩
         go_region_held3 (λW=>W.cell? ⟨w.heap.size,1,none⟩=some (I J a)∧W.cell? ⟨w.heap.size,3,none⟩=some (I J n)∧W.cell? ad=some (V x0)) ((refine HC.out _ ?_;repeat' (first|with_reducible exact aa.refl _ _|with_reducible apply aa.drew|with_reducible apply aa.alloc))) (fail)
         obtain⟨w4,hw4⟩:∃w4,w4=(w3.alloc (.cells #[I J 10,I J a,I J 0,I J n,V x0,V ⟨#[]⟩,V ⟨#[]⟩] 42)).drew:=⟨_,rfl⟩;rw[←hw4];have pN:aa ac w3 w4:=by rw[hw4];exact((fR w3).alloc _).drew
         have kJ:Hid (∀W,aa ac w4 W→ai W w.heap.size 49 #[I J k,I J a,I J b,I J n,V s,V t]∧ai W (w.heap.size+1) 82 #[I J q.id,I J q.feed,I J q.date,V q.guid,V q.title,V q.link,.bool q.read,.bool q.star,U v.1 q.tags.length v.2]∧ai W w3.heap.size 42 #[I J 10,I J a,I J 0,I J n,V x0,V ⟨#[]⟩,V ⟨#[]⟩]):=λW hW=>⟨dw.out _ ((Y3.out.trans pN).trans hW),Lh.out _ ((Y3.out.trans pN).trans hW),by(have q:=ai.new w3 42 #[I J 10,I J a,I J 0,I J n,V x0,V ⟨#[]⟩,V ⟨#[]⟩];have q2:=q.drew;rw[←hw4] at q2;exact q2.frm hW id)⟩
         have Z4:Hid (aa ac w w4):=eu.out.trans (Y3.out.trans pN);obtain⟨b1,b2,b3⟩:=kJ.out w4 (fR w4);obtain⟨y0,y1,y2,y3,y4,y5⟩:=bn b1;obtain⟨z0,z1,z2,z3,z4,z5,z6,z7,z8⟩:=ak b2;obtain⟨e0,e1,e2,e3,e4,e5,e6⟩:=ap b3;clear hw4 pN b1 b2 b3 HC;go_wp2_with (first|(go_at_call 43;refine(aW _ _).mono ?_;rintro e w9 ⟨rfl,rfl⟩)|(go_at_call 51;refine(pp.out _ Z4.out).mono ?_;rintro e w5 ⟨rfl,hf⟩;have Y5:=h_ hf;have Z5:Hid (aa ac w w5):=Z4.out.trans hf;clear hf)|fail)
         go_ret2
         rw[HR.out]
         exact bm.none_ Z5.out
       | true=>
         have HR:Hid (r=nr ⟨10,a,0,n,x0,⟨#[]⟩,⟨#[]⟩⟩ (!decide ((q.tags.any λy=>decide (y=x0))=decide (n=1)))):=by unfold Hid;rw[←HM.out];rw[show av x ⟨10,a,0,n,x0,eS,eS⟩=true from Mv,if_neg (by decide)];rfl
         rw[Mv] at pp;have KC:Hid (∀W,aa ac w W→Calls pQ 149 #[U v.1 q.tags.length v.2,V x0] W λe w'=>e=.returned (.bool (q.tags.any λy=>decide (y=x0)))∧w'=W):=λW hW=>xJ (HV.out.nix hW) J7.out x0
         clear HM hid xk hq hi Mv N1;generalize (q.tags.any λy=>decide (y=x0))=cc at *
         have Jn:Hid ((cc !=(n==1))=(!decide (cc=decide (n=1)))):=by
          unfold Hid;rw[show (n==1)=decide (n=1) from rfl]
          cases cc<;>cases decide (n=1)<;>rfl
         go_enter Tryz.func96,Tryz.ntmps96;go_wp2_with (first|(go_at_call 43;refine(aW _ _).mono ?_;rintro e w9 ⟨rfl,rfl⟩)|(go_at_call 148;have _q:=Y2;refine(KG.out _).mono ?_;rintro e w3 ⟨rfl,hf⟩;have Y3:Hid (aa ac ((w.alloc (.cells #[I J k,I J a,I J b,I J n,V s,V t] 49)).alloc (.cells #[I J q.id,I J q.feed,I J q.date,V q.guid,V q.title,V q.link,.bool q.read,.bool q.star,U v.1 q.tags.length v.2] 82)) w3):=Y2.out.trans hf;have cb:=(hf.cell N0.out id).trans HA.out;obtain⟨y0,y1,y2,y3,y4,y5⟩:=bn (dw.out _ Y3.out);obtain⟨z0,z1,z2,z3,z4,z5,z6,z7,z8⟩:=ak (Lh.out _ Y3.out);have LD:=h_ cb;clear hf)|(go_at_call 147;refine(KW.out _).mono ?_;rintro e w2 ⟨A,c,rfl,hrow⟩;obtain⟨ad,u,rfl,-,had,hu,cx⟩:=hrow.rd.at_ (k:=0) (by simp);simp at hu;subst hu;have ca:w2.cell? ad=some (V x0):=cx;have HA:=h_ ca;have N0:=h_ had;clear cx;have Y2:Hid (aa ac ((w.alloc (.cells #[I J k,I J a,I J b,I J n,V s,V t] 49)).alloc (.cells #[I J q.id,I J q.feed,I J q.date,V q.guid,V q.title,V q.link,.bool q.read,.bool q.star,U v.1 q.tags.length v.2] 82)) w2):=hrow.frm;obtain⟨y0,y1,y2,y3,y4,y5⟩:=bn (dw.out _ Y2.out);clear hrow)|fail);have HC:Hid (∀W,aa ac w3 W→W.cell? ⟨w.heap.size,1,none⟩=some (I J a)∧W.cell? ⟨w.heap.size,3,none⟩=some (I J n)∧W.cell? ad=some (V x0)):=λW hW=>⟨(dw.out _ (Y3.out.trans hW)).cell 1,(dw.out _ (Y3.out.trans hW)).cell 3,(hW.cell (World.block_lt_of_cell? w3 _ LD.out) id).trans LD.out⟩
         go_region_held3 (λW=>W.cell? ⟨w.heap.size,1,none⟩=some (I J a)∧W.cell? ⟨w.heap.size,3,none⟩=some (I J n)∧W.cell? ad=some (V x0)) ((refine HC.out _ ?_;repeat' (first|with_reducible exact aa.refl _ _|with_reducible apply aa.drew|with_reducible apply aa.alloc))) (fail)
         obtain⟨w4,hw4⟩:∃w4,w4=(w3.alloc (.cells #[I J 10,I J a,I J 0,I J n,V x0,V ⟨#[]⟩,V ⟨#[]⟩] 42)).drew:=⟨_,rfl⟩;rw[←hw4];have pN:aa ac w3 w4:=by rw[hw4];exact((fR w3).alloc _).drew
         have kJ:Hid (∀W,aa ac w4 W→ai W w.heap.size 49 #[I J k,I J a,I J b,I J n,V s,V t]∧ai W (w.heap.size+1) 82 #[I J q.id,I J q.feed,I J q.date,V q.guid,V q.title,V q.link,.bool q.read,.bool q.star,U v.1 q.tags.length v.2]∧ai W w3.heap.size 42 #[I J 10,I J a,I J 0,I J n,V x0,V ⟨#[]⟩,V ⟨#[]⟩]):=λW hW=>⟨dw.out _ ((Y3.out.trans pN).trans hW),Lh.out _ ((Y3.out.trans pN).trans hW),by(have q:=ai.new w3 42 #[I J 10,I J a,I J 0,I J n,V x0,V ⟨#[]⟩,V ⟨#[]⟩];have q2:=q.drew;rw[←hw4] at q2;exact q2.frm hW id)⟩
         have Z4:Hid (aa ac w w4):=eu.out.trans (Y3.out.trans pN);obtain⟨b1,b2,b3⟩:=kJ.out w4 (fR w4);obtain⟨y0,y1,y2,y3,y4,y5⟩:=bn b1;obtain⟨z0,z1,z2,z3,z4,z5,z6,z7,z8⟩:=ak b2;obtain⟨e0,e1,e2,e3,e4,e5,e6⟩:=ap b3;clear hw4 pN b1 b2 b3 HC;go_wp2_with (first|(go_at_call 51;refine(pp.out _ Z4.out).mono ?_;rintro e w5 ⟨rfl,hf⟩;have Y5:=h_ hf;have Z5:Hid (aa ac w w5):=Z4.out.trans hf;clear hf)|fail)
         have TB:Hid (∀W,aa ac w5 W→(W.cell? ⟨w3.heap.size,0,none⟩=some (I J 10)∧W.cell? ⟨w3.heap.size,1,none⟩=some (I J a)∧W.cell? ⟨w3.heap.size,2,none⟩=some (I J 0)∧W.cell? ⟨w3.heap.size,3,none⟩=some (I J n)∧W.cell? ⟨w3.heap.size,4,none⟩=some (V x0)∧W.cell? ⟨w3.heap.size,5,none⟩=some (V ⟨#[]⟩)∧W.cell? ⟨w3.heap.size,6,none⟩=some (V ⟨#[]⟩))∧W.cell? ⟨w.heap.size+1,8,none⟩=some (U v.1 q.tags.length v.2)∧W.cell? ⟨w.heap.size,3,none⟩=some (I J n)):=λW hW=>by
          obtain⟨b1,b2,b3⟩:=kJ.out W (Y5.out.trans hW);obtain⟨e0,e1,e2,e3,e4,e5,e6⟩:=ap b3;exact⟨⟨e0,e1,e2,e3,e4,e5,e6⟩,b2.cell 8,b1.cell 3⟩
         go_region_held3 (λW=>(W.cell? ⟨w3.heap.size,0,none⟩=some (I J 10)∧W.cell? ⟨w3.heap.size,1,none⟩=some (I J a)∧W.cell? ⟨w3.heap.size,2,none⟩=some (I J 0)∧W.cell? ⟨w3.heap.size,3,none⟩=some (I J n)∧W.cell? ⟨w3.heap.size,4,none⟩=some (V x0)∧W.cell? ⟨w3.heap.size,5,none⟩=some (V ⟨#[]⟩)∧W.cell? ⟨w3.heap.size,6,none⟩=some (V ⟨#[]⟩))∧W.cell? ⟨w.heap.size+1,8,none⟩=some (U v.1 q.tags.length v.2)∧W.cell? ⟨w.heap.size,3,none⟩=some (I J n)) ((refine TB.out _ ?_;repeat' (first|with_reducible exact aa.refl _ _|with_reducible exact Y7.out|with_reducible apply aa.drew)))
          (first
           | (go_at_call 52;refine(uW _ _ _ _ _ _ _ _ _).mono ?_;rintro e w7 ⟨v7,rfl,dL,hf⟩;have Y7:Hid (aa ac w5 w7):=(fR _).drew.trans hf;have kL:=h_ (dL.mono (G':=λk=>w.heap.size≤k) λk hk=>by(have h2:=Z5.out.size;have hk2:w5.heap.size≤k:=hk;omega));clear dL hf)
           | (go_at_call 149;refine(KC.out _ (Z5.out.trans (fR _).drew)).mono ?_;rintro e w6 ⟨rfl,rfl⟩))
         all_goals
          go_wp2
          go_ret2
          rw[HR.out,←Jn.out];exact⟨v7,rfl,kL.out,Z5.out.trans Y7.out⟩
theorem si{x:St}(h:aw w g M x)(k a b n:Int)(s t:ByteArray)(hc:mE ⟨k,a,b,n,s,t⟩)(hk:k=7∨k=8∨k=9):
  Calls pQ 46 #[O (some ⟨g,0,none⟩),.agg #[I J k,I J a,I J b,I J n,V s,V t]] w (bm w (aB ah aC x ⟨k,a,b,n,s,t⟩)):=by
 obtain⟨r,hr⟩:∃r,aB ah aC x ⟨k,a,b,n,s,t⟩=r:=⟨_,rfl⟩;have dw:Hid (∀W,aa ac (w.alloc (.cells #[I J k,I J a,I J b,I J n,V s,V t] 49)) W→ai W w.heap.size 49 #[I J k,I J a,I J b,I J n,V s,V t]):=λW hW=>(ai.new w 49 #[I J k,I J a,I J b,I J n,V s,V t]).frm hW id
 have eu:Hid (aa ac w (w.alloc (.cells #[I J k,I J a,I J b,I J n,V s,V t] 49))):=(fR w).alloc _;rw[hr]
 by_cases hn:n=0∨n=1
 ·have KI:Hid (∀W,aa ac w W→Calls pQ 95 #[O (some ⟨g,0,none⟩),I J a] W λe w'=>∃v':Sl,e=.returned (.tuple #[.agg #[I J (ag x a).id,I J (ag x a).feed,I J (ag x a).date,V (ag x a).guid,V (ag x a).title,V (ag x a).link,.bool (ag x a).read,.bool (ag x a).star,U v'.1 (ag x a).tags.length v'.2],.bool (aS aJ.id a x.itms)])∧aN w' (λk=>W.heap.size≤k) 1 v' (ag x a).tags.length ((ag x a).tags.map Value.string)∧aa ac W w'):=λW hW=>IU (h.nix hW) hc.a
  by_cases h9:k=9
  ·subst h9
   have e9:=(Qg x a b n s t hn).symm.trans hr
   have KG:Hid (∀W G v,aa ac w W→aN W G 1 v (ag x a).tags.length ((ag x a).tags.map Value.string)→Calls pQ 96 #[O (some ⟨g,0,none⟩),.agg #[I J 9,I J a,I J b,I J n,V s,V t],.agg #[I J (ag x a).id,I J (ag x a).feed,I J (ag x a).date,V (ag x a).guid,V (ag x a).title,V (ag x a).link,.bool (ag x a).read,.bool (ag x a).star,U v.1 (ag x a).tags.length v.2]] W (bm W r)):=λW G v hW hv=>by
    rw[←e9];exact GH (h.nix hW) 9 a b n s t hc hn hv
   generalize ag x a=q at *;generalize aS aJ.id a x.itms=i1 at *;clear h hc hr e9 hk;rcases hn with rfl|rfl
   all_goals
    go_enter Tryz.func46,Tryz.ntmps46;go_wp2_with (first|(go_at_call 96;refine(KG.out _ _ tv (Z2.out.alloc _) (HV.out.nix ((fR _).alloc _))).mono ?_;rintro e w4 ⟨v,rfl,dL,hf⟩;have Z4:Hid (aa ac w w4):=(Z2.out.alloc _).trans hf;have kL:=h_ (dL.mono (G':=λk=>w.heap.size≤k) λk hk=>by(have h2:=(Z2.out.alloc (.cells #[I J q.id,I J q.feed,I J q.date,V q.guid,V q.title,V q.link,.bool q.read,.bool q.star,U tv.1 q.tags.length tv.2] 82)).size;have hk2:=hk;simp at hk2 h2;omega));clear dL hf)|(go_at_call 95;refine(KI.out _ eu.out).mono ?_;rintro e w2 ⟨tv,rfl,dL,hf⟩;have HV:=h_ dL;have Y2:=h_ hf;have Z2:Hid (aa ac w w2):=eu.out.trans hf;obtain⟨y0,y1,y2,y3,y4,y5⟩:=bn (dw.out _ hf);have yl:=(dw.out _ hf).lt;clear dL hf)|fail)
    go_ret2
    exact⟨v,rfl,kL.out,Z4.out⟩
  ·have TC:=(NZ x k a b n s t (by omega) hn).symm.trans hr
   have HM:=h_ TC;generalize ag x a=q at *
   cases hi:aS aJ.id a x.itms with
   | false=>
     rw[hi] at KI;have HR:Hid (r=([],4)):=HM.out.symm.trans (if_pos hi);have Zb:(k==9)=false:=beq_eq_false_iff_ne.2 h9;clear h hc hr TC HM hi hk h9;rcases hn with rfl|rfl
     all_goals
      go_enter Tryz.func46,Tryz.ntmps46;go_wp2_with (first|(go_at_call 43;refine(aW _ _).mono ?_;rintro e w9 ⟨rfl,rfl⟩)|(go_at_call 95;refine(KI.out _ eu.out).mono ?_;rintro e w2 ⟨tv,rfl,dL,hf⟩;have HV:=h_ dL;have Y2:=h_ hf;have Z2:Hid (aa ac w w2):=eu.out.trans hf;obtain⟨y0,y1,y2,y3,y4,y5⟩:=bn (dw.out _ hf);have yl:=(dw.out _ hf).lt;clear dL hf)|fail)
      go_ret2
      rw[HR.out]
      exact bm.none_ (Z2.out.alloc _)
   | true=>
     rw[hi] at KI;have HR:Hid (r=if k=7 then nr ⟨8,a,0,n,⟨#[]⟩,⟨#[]⟩,⟨#[]⟩⟩ (!decide (q.read=decide (n=1))) else nr ⟨9,a,0,n,⟨#[]⟩,⟨#[]⟩,⟨#[]⟩⟩ (!decide (q.star=decide (n=1)))):=HM.out.symm.trans (if_neg (by rw[hi];decide));clear h hc hr TC HM hi;have XO:k=7∨k=8:=by omega
     clear hk h9;have Vl:∀b:Bool,(!decide (b=decide ((0:Int)=1)))=b:=λb=>by cases b<;>rfl
     have Gp:∀b:Bool,(!decide (b=decide ((1:Int)=1)))=!b:=λb=>by cases b<;>rfl
     rcases XO with rfl|rfl<;>rcases hn with rfl|rfl
     all_goals
      rw[HR.out]
      first|rw[if_pos rfl]|rw[if_neg (by decide)]
      first|rw[Vl]|rw[Gp]
      clear Vl Gp;go_enter Tryz.func46,Tryz.ntmps46;go_wp2_with (first|(go_at_call 52;refine(uW _ _ _ _ _ _ _ _ _).mono ?_;rintro e w4 ⟨v,rfl,dL,hf⟩;have Z4:Hid (aa ac w w4):=(Z2.out.alloc _).trans hf;have kL:=h_ (dL.mono (G':=λk=>w.heap.size≤k) λk hk=>by(have h2:=(Z2.out.alloc (.cells #[I J q.id,I J q.feed,I J q.date,V q.guid,V q.title,V q.link,.bool q.read,.bool q.star,U tv.1 q.tags.length tv.2] 82)).size;have hk2:=hk;simp at hk2 h2;omega));clear dL hf)|(go_at_call 95;refine(KI.out _ eu.out).mono ?_;rintro e w2 ⟨tv,rfl,dL,hf⟩;have HV:=h_ dL;have Y2:=h_ hf;have Z2:Hid (aa ac w w2):=eu.out.trans hf;obtain⟨y0,y1,y2,y3,y4,y5⟩:=bn (dw.out _ hf);have yl:=(dw.out _ hf).lt;clear dL hf)|fail)
      go_ret2
      exact⟨v,rfl,kL.out,Z4.out⟩
 ·have HR:Hid (r=([],1)):=hr.symm.trans (Qh x k a b n s t hk hn)
  have n0:(n !=0)=true:=bne_iff_ne.2 λe=>hn (.inl e)
  have n1:(n !=1)=true:=bne_iff_ne.2 λe=>hn (.inr e)
  clear h hc hr hn hk;go_enter Tryz.func46,Tryz.ntmps46;go_wp2_with (first|(go_at_call 43;refine(aW _ _).mono ?_;rintro e w9 ⟨rfl,rfl⟩)|fail)
  go_ret2
  rw[HR.out];exact bm.none_ eu.out
theorem LF(x:St)(k a b n:Int)(s t:ByteArray)(hk:k=4∨k=5∨k=6):aB ah aC x ⟨k,a,b,n,s,t⟩=if aS aP.id a x.fees=false then ([],4) else if k=6∧eQ x b=false then ([],4) else if k=4 then ([⟨4,a,0,0,eS,eS,eS⟩],0) else if k=5 then nr ⟨5,a,0,0,eS,ah t 256,eS⟩ (!decide (ah t 256=(ar x a).title)) else nr ⟨6,a,b,0,eS,eS,eS⟩ (!decide (b=(ar x a).inn)):=by
 cases hq:eV aP.id a x.fees with
 | none=>
   have hi:=uh hq
   rcases hk with rfl|rfl|rfl<;>simp[aB,hq,hi]
 | some q=>
   have hi:=qp hq;have hf:ar x a=q:=by unfold ar;rw[hq];rfl
   rcases hk with rfl|rfl|rfl<;>simp[aB,hq,hi,hf]
theorem BU(s:ByteArray){m:Int}(hm:0≤m)(h2:m≤1000):(ah s m).size≤1000:=by
 have:=wJ s m hm;unfold dQ at this;simp only[Bool.and_eq_true,decide_eq_true_eq] at this;omega
theorem BV{x:St}(h:aw w g M x)(a b n:Int)(s t:ByteArray)(hc:mE ⟨3,a,b,n,s,t⟩):
  Calls pQ 45 #[O (some ⟨g,0,none⟩),.agg #[I J 3,I J a,I J b,I J n,V s,V t]] w (bm w (aB ah aC x ⟨3,a,b,n,s,t⟩)):=by
 obtain⟨r,hr⟩:∃r,aB ah aC x ⟨3,a,b,n,s,t⟩=r:=⟨_,rfl⟩;have TD:Hid (∀W,Calls pQ 41 #[V t,I J 256] W λe w'=>e=.returned (V (ah t 256))∧aa ac W w'):=λW=>mD t hc.t 256 W
 have TE:Hid (∀W,Calls pQ 41 #[V s,I J 512] W λe w'=>e=.returned (V (ah s 512))∧aa ac W w'):=λW=>mD s hc.s 512 W
 have hsz:=BU s (m:=512) (by decide) (by decide);have KP:Hid (∀W,aa ac w W→Calls pQ 94 #[O (some ⟨g,0,none⟩),V (ah s 512)] W λe w'=>e=.returned (.tuple #[I J (cH x (ah s 512)),.bool (!(cH x (ah s 512)==0))])∧W=w'):=λW hW=>Gr (h.nix hW) _ (by unfold maxLen;omega)
 have KM:Hid (∀W,aa ac w W→Calls pQ 91 #[O (some ⟨g,0,none⟩),.agg #[I J 3,I J 0,I J b,I J 0,V (ah s 512),V (ah t 256),V ⟨#[]⟩],.bool (!(cH x (ah s 512)==0))] W (bm W r)):=λW hW=>by
  have q:=ul (h.nix hW) 3 0 b 0 (ah s 512) (ah t 256) ⟨#[]⟩ (!(cH x (ah s 512)==0)) hc.b (.inr (.inl rfl));rw[←hr];exact q
 have dw:Hid (∀W,aa ac (w.alloc (.cells #[I J 3,I J a,I J b,I J n,V s,V t] 49)) W→ai W w.heap.size 49 #[I J 3,I J a,I J b,I J n,V s,V t]):=λW hW=>(ai.new w 49 #[I J 3,I J a,I J b,I J n,V s,V t]).frm hW id
 have eu:Hid (aa ac w (w.alloc (.cells #[I J 3,I J a,I J b,I J n,V s,V t] 49))):=(fR w).alloc _;rw[hr];clear h hc hr hsz;generalize cH x (ah s 512)=pl at *;generalize ah s 512=s1 at *;generalize ah t 256=t1 at *;generalize (!(pl==0))=has at *;go_enter Tryz.func45,Tryz.ntmps45
 go_wp2_with (first
  | (go_at_call 91;have _q:=Z3;refine(KM.out _ Z3.out).mono ?_;rintro e w4 ⟨v,rfl,dL,hf⟩;have Z4:Hid (aa ac w w4):=Z3.out.trans hf;have kL:=h_ (dL.mono (G':=λk=>w.heap.size≤k) λk hk=>by(have h2:=Z3.out.size;have hk2:=hk;omega));clear dL hf)
  | (go_at_call 94;have _q:=Y2;refine(KP.out _ (eu.out.trans Y2.out)).mono ?_;rintro e w3 ⟨rfl,rfl⟩;have Z3:Hid (aa ac w w2):=eu.out.trans Y2.out)
  | (go_at_call 41;have _q:=Y1;refine(TE.out _).mono ?_;rintro e w2 ⟨rfl,hf⟩;have Y2:Hid (aa ac (w.alloc (.cells #[I J 3,I J a,I J b,I J n,V s,V t] 49)) w2):=Y1.out.trans hf;have eA:=dw.out _ Y2.out;obtain⟨y0,y1,y2,y3,y4,y5⟩:=bn eA;have yl:=eA.lt;clear eA;clear hf)
  | (go_at_call 41;refine(TD.out _).mono ?_;rintro e w1 ⟨rfl,hf⟩;have Y1:Hid (aa ac (w.alloc (.cells #[I J 3,I J a,I J b,I J n,V s,V t] 49)) w1):=hf;have eA:=dw.out _ Y1.out;obtain⟨y0,y1,y2,y3,y4,y5⟩:=bn eA;have yl:=eA.lt;clear eA;clear hf)
  | fail)
 go_ret2
 exact⟨v,rfl,kL.out,Z4.out⟩
theorem pD{x:St}(h:aw w g M x)(k a b n:Int)(s t:ByteArray)(hc:mE ⟨k,a,b,n,s,t⟩)(hk:k=4∨k=5∨k=6):
  Calls pQ 45 #[O (some ⟨g,0,none⟩),.agg #[I J k,I J a,I J b,I J n,V s,V t]] w (bm w (aB ah aC x ⟨k,a,b,n,s,t⟩)):=by
 rw[LF x k a b n s t hk];have KS:Hid (∀W,Calls pQ 41 #[V t,I J 256] W λe w'=>e=.returned (V (ah t 256))∧aa ac W w'):=λW=>mD t hc.t 256 W
 have KF:Hid (∀W,aa ac w W→Calls pQ 48 #[O (some ⟨g,0,none⟩),I J a] W λe w'=>e=.returned (.tuple #[.agg #[I J (ar x a).id,I J (ar x a).inn,V (ar x a).url,V (ar x a).title],.bool (aS aP.id a x.fees)])∧aa ac W w'):=λW hW=>uf (h.nix hW) hc.a
 have KO:Hid (∀W,aa ac w W→Calls pQ 50 #[O (some ⟨g,0,none⟩),I J b] W λe w'=>e=.returned (.bool (eQ x b))∧aa ac W w'):=λW hW=>po (h.nix hW) hc.b
 have dw:Hid (∀W,aa ac (w.alloc (.cells #[I J k,I J a,I J b,I J n,V s,V t] 49)) W→ai W w.heap.size 49 #[I J k,I J a,I J b,I J n,V s,V t]):=λW hW=>(ai.new w 49 #[I J k,I J a,I J b,I J n,V s,V t]).frm hW id
 have eu:Hid (aa ac w (w.alloc (.cells #[I J k,I J a,I J b,I J n,V s,V t] 49))):=(fR w).alloc _;clear h hc;generalize ar x a=q at *;generalize eQ x b=i2 at *;generalize ah t 256=t1 at *;generalize aS aP.id a x.fees=i1 at *
 cases i1 with
 | false=>
   have k3:(k==3)=false:=beq_eq_false_iff_ne.2 (by omega);rw[if_pos rfl];clear hk;go_enter Tryz.func45,Tryz.ntmps45;go_wp2_with (first|(go_at_call 43;refine(aW _ _).mono ?_;rintro e w9 ⟨rfl,rfl⟩)|(go_at_call 48;have _q:=Y1;refine(KF.out _ (eu.out.trans Y1.out)).mono ?_;rintro e w2 ⟨rfl,hf⟩;have Y2:Hid (aa ac _ w2):=Y1.out.trans hf;have Z2:Hid (aa ac w w2):=eu.out.trans Y2.out;have eA:=dw.out _ Y2.out;obtain⟨y0,y1,y2,y3,y4,y5⟩:=bn eA;have yl:=eA.lt;clear eA;clear hf)|(go_at_call 41;refine(KS.out _).mono ?_;rintro e w1 ⟨rfl,hf⟩;have Y1:Hid (aa ac _ w1):=hf;have eA:=dw.out _ Y1.out;obtain⟨y0,y1,y2,y3,y4,y5⟩:=bn eA;have yl:=eA.lt;clear eA;clear hf)|fail)
   go_ret2
   exact bm.none_ (Z2.out.alloc (.cells #[I J q.id,I J q.inn,V q.url,V q.title] 64))
 | true=>
   rw[if_neg (by decide)];rcases hk with rfl|rfl|rfl
   ·rw[if_neg (λh=>absurd h.1 (by decide)),if_pos rfl]
    go_enter Tryz.func45,Tryz.ntmps45;go_wp2_with (first|(go_at_call 52;refine(uW _ _ _ _ _ _ _ _ _).mono ?_;rintro e w5 ⟨v,rfl,dL,hf⟩;have Z5:Hid (aa ac w w5):=(Z2.out.alloc (.cells #[I J q.id,I J q.inn,V q.url,V q.title] 64)).trans hf;have kL:=h_ (dL.mono (G':=λk=>w.heap.size≤k) λk hk=>by(have h2:=(Z2.out.alloc (.cells #[I J q.id,I J q.inn,V q.url,V q.title] 64)).size;have hk2:=hk;(try simp at hk2 h2);omega));clear dL hf)|(go_at_call 48;have _q:=Y1;refine(KF.out _ (eu.out.trans Y1.out)).mono ?_;rintro e w2 ⟨rfl,hf⟩;have Y2:Hid (aa ac _ w2):=Y1.out.trans hf;have Z2:Hid (aa ac w w2):=eu.out.trans Y2.out;have eA:=dw.out _ Y2.out;obtain⟨y0,y1,y2,y3,y4,y5⟩:=bn eA;have yl:=eA.lt;clear eA;clear hf)|(go_at_call 41;refine(KS.out _).mono ?_;rintro e w1 ⟨rfl,hf⟩;have Y1:Hid (aa ac _ w1):=hf;have eA:=dw.out _ Y1.out;obtain⟨y0,y1,y2,y3,y4,y5⟩:=bn eA;have yl:=eA.lt;clear eA;clear hf)|fail)
    go_ret2
    exact⟨v,rfl,kL.out,Z5.out⟩
   ·rw[if_neg (λh=>absurd h.1 (by decide)),if_neg (by decide),if_pos rfl]
    by_cases ht:t1=q.title
    ·have hb2:(t1.toList==q.title.toList)=true:=by rw[ht];simp
     rw[decide_eq_true ht];clear ht;go_enter Tryz.func45,Tryz.ntmps45;go_wp2_with (first|(go_at_call 52;refine(uW _ _ _ _ _ _ _ _ _).mono ?_;rintro e w5 ⟨v,rfl,dL,hf⟩;have Z5:Hid (aa ac w w5):=(Z2.out.alloc (.cells #[I J q.id,I J q.inn,V q.url,V q.title] 64)).trans hf;have kL:=h_ (dL.mono (G':=λk=>w.heap.size≤k) λk hk=>by(have h2:=(Z2.out.alloc (.cells #[I J q.id,I J q.inn,V q.url,V q.title] 64)).size;have hk2:=hk;(try simp at hk2 h2);omega));clear dL hf)|(go_at_call 48;have _q:=Y1;refine(KF.out _ (eu.out.trans Y1.out)).mono ?_;rintro e w2 ⟨rfl,hf⟩;have Y2:Hid (aa ac _ w2):=Y1.out.trans hf;have Z2:Hid (aa ac w w2):=eu.out.trans Y2.out;have eA:=dw.out _ Y2.out;obtain⟨y0,y1,y2,y3,y4,y5⟩:=bn eA;have yl:=eA.lt;clear eA;clear hf)|(go_at_call 41;refine(KS.out _).mono ?_;rintro e w1 ⟨rfl,hf⟩;have Y1:Hid (aa ac _ w1):=hf;have eA:=dw.out _ Y1.out;obtain⟨y0,y1,y2,y3,y4,y5⟩:=bn eA;have yl:=eA.lt;clear eA;clear hf)|fail)
     go_ret2
     exact⟨v,rfl,kL.out,Z5.out⟩
    ·have hb2:=qG ht
     rw[decide_eq_false ht];clear ht;go_enter Tryz.func45,Tryz.ntmps45;go_wp2_with (first|(go_at_call 52;refine(uW _ _ _ _ _ _ _ _ _).mono ?_;rintro e w5 ⟨v,rfl,dL,hf⟩;have Z5:Hid (aa ac w w5):=(Z2.out.alloc (.cells #[I J q.id,I J q.inn,V q.url,V q.title] 64)).trans hf;have kL:=h_ (dL.mono (G':=λk=>w.heap.size≤k) λk hk=>by(have h2:=(Z2.out.alloc (.cells #[I J q.id,I J q.inn,V q.url,V q.title] 64)).size;have hk2:=hk;(try simp at hk2 h2);omega));clear dL hf)|(go_at_call 48;have _q:=Y1;refine(KF.out _ (eu.out.trans Y1.out)).mono ?_;rintro e w2 ⟨rfl,hf⟩;have Y2:Hid (aa ac _ w2):=Y1.out.trans hf;have Z2:Hid (aa ac w w2):=eu.out.trans Y2.out;have eA:=dw.out _ Y2.out;obtain⟨y0,y1,y2,y3,y4,y5⟩:=bn eA;have yl:=eA.lt;clear eA;clear hf)|(go_at_call 41;refine(KS.out _).mono ?_;rintro e w1 ⟨rfl,hf⟩;have Y1:Hid (aa ac _ w1):=hf;have eA:=dw.out _ Y1.out;obtain⟨y0,y1,y2,y3,y4,y5⟩:=bn eA;have yl:=eA.lt;clear eA;clear hf)|fail)
     go_ret2
     exact⟨v,rfl,kL.out,Z5.out⟩
   ·cases i2 with
    | false=>
      rw[if_pos ⟨rfl,rfl⟩];go_enter Tryz.func45,Tryz.ntmps45;go_wp2_with (first|(go_at_call 43;refine(aW _ _).mono ?_;rintro e w9 ⟨rfl,rfl⟩)|(go_at_call 50;have _q:=Z2;refine(KO.out _ (Z2.out.alloc (.cells #[I J q.id,I J q.inn,V q.url,V q.title] 64))).mono ?_;rintro e w4 ⟨rfl,hf⟩;have Y4:Hid (aa ac _ w4):=(Y2.out.alloc _).trans hf;have eA:=dw.out _ Y4.out;obtain⟨y0,y1,y2,y3,y4,y5⟩:=bn eA;have yl:=eA.lt;clear eA;have Mz:=(ai.new w2 64 #[I J q.id,I J q.inn,V q.url,V q.title]).frm hf id;obtain⟨z0,z1,z2,z3⟩:=Lx Mz;have Z4:Hid (aa ac w w4):=eu.out.trans Y4.out;clear hf Mz)|(go_at_call 48;have _q:=Y1;refine(KF.out _ (eu.out.trans Y1.out)).mono ?_;rintro e w2 ⟨rfl,hf⟩;have Y2:Hid (aa ac _ w2):=Y1.out.trans hf;have Z2:Hid (aa ac w w2):=eu.out.trans Y2.out;have eA:=dw.out _ Y2.out;obtain⟨y0,y1,y2,y3,y4,y5⟩:=bn eA;have yl:=eA.lt;clear eA;clear hf)|(go_at_call 41;refine(KS.out _).mono ?_;rintro e w1 ⟨rfl,hf⟩;have Y1:Hid (aa ac _ w1):=hf;have eA:=dw.out _ Y1.out;obtain⟨y0,y1,y2,y3,y4,y5⟩:=bn eA;have yl:=eA.lt;clear eA;clear hf)|fail)
      go_ret2
      exact bm.none_ Z4.out
    | true=>
      rw[if_neg (λh=>absurd h.2 (by decide)),if_neg (by decide),if_neg (by decide)]
      by_cases hb:b=q.inn
      ·have hb2:(b !=q.inn)=false:=by rw[hb];simp
       rw[decide_eq_true hb];clear hb;go_enter Tryz.func45,Tryz.ntmps45;go_wp2_with (first|(go_at_call 52;refine(uW _ _ _ _ _ _ _ _ _).mono ?_;rintro e w5 ⟨v,rfl,dL,hf⟩;have Z5:Hid (aa ac w w5):=Z4.out.trans hf;have kL:=h_ (dL.mono (G':=λk=>w.heap.size≤k) λk hk=>by(have h2:=Z4.out.size;have hk2:=hk;(try simp at hk2 h2);omega));clear dL hf)|(go_at_call 50;have _q:=Z2;refine(KO.out _ (Z2.out.alloc (.cells #[I J q.id,I J q.inn,V q.url,V q.title] 64))).mono ?_;rintro e w4 ⟨rfl,hf⟩;have Y4:Hid (aa ac _ w4):=(Y2.out.alloc _).trans hf;have eA:=dw.out _ Y4.out;obtain⟨y0,y1,y2,y3,y4,y5⟩:=bn eA;have yl:=eA.lt;clear eA;have Mz:=(ai.new w2 64 #[I J q.id,I J q.inn,V q.url,V q.title]).frm hf id;obtain⟨z0,z1,z2,z3⟩:=Lx Mz;have Z4:Hid (aa ac w w4):=eu.out.trans Y4.out;clear hf Mz)|(go_at_call 48;have _q:=Y1;refine(KF.out _ (eu.out.trans Y1.out)).mono ?_;rintro e w2 ⟨rfl,hf⟩;have Y2:Hid (aa ac _ w2):=Y1.out.trans hf;have Z2:Hid (aa ac w w2):=eu.out.trans Y2.out;have eA:=dw.out _ Y2.out;obtain⟨y0,y1,y2,y3,y4,y5⟩:=bn eA;have yl:=eA.lt;clear eA;clear hf)|(go_at_call 41;refine(KS.out _).mono ?_;rintro e w1 ⟨rfl,hf⟩;have Y1:Hid (aa ac _ w1):=hf;have eA:=dw.out _ Y1.out;obtain⟨y0,y1,y2,y3,y4,y5⟩:=bn eA;have yl:=eA.lt;clear eA;clear hf)|fail)
       go_ret2
       exact⟨v,rfl,kL.out,Z5.out⟩
      ·have hb2:(b !=q.inn)=true:=bne_iff_ne.2 hb
       rw[decide_eq_false hb];clear hb;go_enter Tryz.func45,Tryz.ntmps45;go_wp2_with (first|(go_at_call 52;refine(uW _ _ _ _ _ _ _ _ _).mono ?_;rintro e w5 ⟨v,rfl,dL,hf⟩;have Z5:Hid (aa ac w w5):=Z4.out.trans hf;have kL:=h_ (dL.mono (G':=λk=>w.heap.size≤k) λk hk=>by(have h2:=Z4.out.size;have hk2:=hk;(try simp at hk2 h2);omega));clear dL hf)|(go_at_call 50;have _q:=Z2;refine(KO.out _ (Z2.out.alloc (.cells #[I J q.id,I J q.inn,V q.url,V q.title] 64))).mono ?_;rintro e w4 ⟨rfl,hf⟩;have Y4:Hid (aa ac _ w4):=(Y2.out.alloc _).trans hf;have eA:=dw.out _ Y4.out;obtain⟨y0,y1,y2,y3,y4,y5⟩:=bn eA;have yl:=eA.lt;clear eA;have Mz:=(ai.new w2 64 #[I J q.id,I J q.inn,V q.url,V q.title]).frm hf id;obtain⟨z0,z1,z2,z3⟩:=Lx Mz;have Z4:Hid (aa ac w w4):=eu.out.trans Y4.out;clear hf Mz)|(go_at_call 48;have _q:=Y1;refine(KF.out _ (eu.out.trans Y1.out)).mono ?_;rintro e w2 ⟨rfl,hf⟩;have Y2:Hid (aa ac _ w2):=Y1.out.trans hf;have Z2:Hid (aa ac w w2):=eu.out.trans Y2.out;have eA:=dw.out _ Y2.out;obtain⟨y0,y1,y2,y3,y4,y5⟩:=bn eA;have yl:=eA.lt;clear eA;clear hf)|(go_at_call 41;refine(KS.out _).mono ?_;rintro e w1 ⟨rfl,hf⟩;have Y1:Hid (aa ac _ w1):=hf;have eA:=dw.out _ Y1.out;obtain⟨y0,y1,y2,y3,y4,y5⟩:=bn eA;have yl:=eA.lt;clear eA;clear hf)|fail)
       go_ret2
       exact⟨v,rfl,kL.out,Z5.out⟩
theorem wL{x:St}(h:aw w g M x)(a b n:Int)(s t:ByteArray)(hc:mE ⟨12,a,b,n,s,t⟩):
  Calls pQ 47 #[O (some ⟨g,0,none⟩),.agg #[I J 12,I J a,I J b,I J n,V s,V t]] w (bm w (aB ah aC x ⟨12,a,b,n,s,t⟩)):=by
 obtain⟨r,hr⟩:∃r,aB ah aC x ⟨12,a,b,n,s,t⟩=r:=⟨_,rfl⟩;have TD:Hid (∀W,Calls pQ 41 #[V s,I J 64] W λe w'=>e=.returned (V (ah s 64))∧aa ac W w'):=λW=>mD s hc.s 64 W
 have TE:Hid (∀W,Calls pQ 41 #[V t,I J 512] W λe w'=>e=.returned (V (ah t 512))∧aa ac W w'):=λW=>mD t hc.t 512 W
 have KM:Hid (∀W,aa ac w W→Calls pQ 91 #[O (some ⟨g,0,none⟩),.agg #[I J 11,I J 0,I J 0,I J 0,V (ah s 64),V (ah t 512),V ⟨#[]⟩],.bool false] W (bm W r)):=λW hW=>by
  have q:=ul (h.nix hW) 11 0 0 0 (ah s 64) (ah t 512) ⟨#[]⟩ false wE (.inr (.inr rfl));rw[←hr];exact q
 have dw:Hid (∀W,aa ac (w.alloc (.cells #[I J 12,I J a,I J b,I J n,V s,V t] 49)) W→ai W w.heap.size 49 #[I J 12,I J a,I J b,I J n,V s,V t]):=λW hW=>(ai.new w 49 #[I J 12,I J a,I J b,I J n,V s,V t]).frm hW id
 have eu:Hid (aa ac w (w.alloc (.cells #[I J 12,I J a,I J b,I J n,V s,V t] 49))):=(fR w).alloc _;rw[hr];clear h hc hr;generalize ah s 64=s1 at *;generalize ah t 512=t1 at *;go_enter Tryz.func47,Tryz.ntmps47;go_wp2;have HC:Hid (∀W,aa ac (w.alloc (.cells #[I J 12,I J a,I J b,I J n,V s,V t] 49)) W→W.cell? ⟨w.heap.size,4,none⟩=some (V s)∧W.cell? ⟨w.heap.size,5,none⟩=some (V t)):=λW hW=>⟨(dw.out _ hW).cell 4,(dw.out _ hW).cell 5⟩
 go_region_held3 (λW=>W.cell? ⟨w.heap.size,4,none⟩=some (V s)∧W.cell? ⟨w.heap.size,5,none⟩=some (V t)) ((refine HC.out _ ?_;repeat' (first|with_reducible exact aa.refl _ _|with_reducible exact Y4.out|with_reducible exact Y3.out|with_reducible exact Y2.out|with_reducible apply aa.drew)))
  (first
   | (go_at_call 91;have _q:=Y3;refine(KM.out _ (eu.out.trans Y3.out)).mono ?_;rintro e w4 ⟨v,rfl,dL,hf⟩;have Y4:Hid (aa ac _ w4):=Y3.out.trans hf;have kL:=h_ (dL.mono (G':=λk=>w.heap.size≤k) λk hk=>by(have h1:=(eu.out.trans Y3.out).size;omega));clear dL hf)
   | (go_at_call 41;have _q:=Y2;refine(TE.out _).mono ?_;rintro e w3 ⟨rfl,hf⟩;have Y3:Hid (aa ac _ w3):=Y2.out.trans hf;clear hf)
   | (go_at_call 41;refine(TD.out _).mono ?_;rintro e w2 ⟨rfl,hf⟩;have Y2:Hid (aa ac (w.alloc (.cells #[I J 12,I J a,I J b,I J n,V s,V t] 49)) w2):=(fR _).drew.trans hf;clear hf))
 all_goals
  go_wp2
  go_ret2
  exact⟨v,rfl,kL.out,eu.out.trans Y4.out⟩
theorem wM{x:St}(h:aw w g M x)(a b n:Int)(s t:ByteArray)(hc:mE ⟨13,a,b,n,s,t⟩):
  Calls pQ 47 #[O (some ⟨g,0,none⟩),.agg #[I J 13,I J a,I J b,I J n,V s,V t]] w (bm w (aB ah aC x ⟨13,a,b,n,s,t⟩)):=by
 have HR:Hid (aB ah aC x ⟨13,a,b,n,s,t⟩=if aS dE.id a x.seas=false then ([],4) else ([⟨12,a,0,0,⟨#[]⟩,⟨#[]⟩,⟨#[]⟩⟩],0)):=rfl;rw[HR.out];have KF:Hid (∀W,aa ac w W→Calls pQ 97 #[O (some ⟨g,0,none⟩),I J a] W λe w'=>e=.returned (.tuple #[.agg #[I J (lK x a).id,V (lK x a).name,V (lK x a).query],.bool (aS dE.id a x.seas)])∧aa ac W w'):=λW hW=>BH (h.nix hW) hc.a
 have dw:Hid (∀W,aa ac (w.alloc (.cells #[I J 13,I J a,I J b,I J n,V s,V t] 49)) W→ai W w.heap.size 49 #[I J 13,I J a,I J b,I J n,V s,V t]):=λW hW=>(ai.new w 49 #[I J 13,I J a,I J b,I J n,V s,V t]).frm hW id
 have eu:Hid (aa ac w (w.alloc (.cells #[I J 13,I J a,I J b,I J n,V s,V t] 49))):=(fR w).alloc _;clear h hc HR;generalize lK x a=q at *;generalize aS dE.id a x.seas=i1 at *
 cases i1 with
 | false=>
   rw[if_pos rfl];go_enter Tryz.func47,Tryz.ntmps47;go_wp2_with (first|(go_at_call 43;refine(aW _ _).mono ?_;rintro e w9 ⟨rfl,rfl⟩)|(go_at_call 97;refine(KF.out _ eu.out).mono ?_;rintro e w2 ⟨rfl,hf⟩;have Y2:Hid (aa ac _ w2):=hf;have Z2:Hid (aa ac w w2):=eu.out.trans Y2.out;have eA:=dw.out _ Y2.out;obtain⟨y0,y1,y2,y3,y4,y5⟩:=bn eA;have yl:=eA.lt;clear eA;clear hf)|fail)
   go_ret2
   exact bm.none_ (Z2.out.alloc (.cells #[I J q.id,V q.name,V q.query] 84))
 | true=>
   rw[if_neg (by decide)];go_enter Tryz.func47,Tryz.ntmps47;go_wp2_with (first|(go_at_call 52;refine(uW _ _ _ _ _ _ _ _ _).mono ?_;rintro e w5 ⟨v,rfl,dL,hf⟩;have Z5:Hid (aa ac w w5):=(Z2.out.alloc (.cells #[I J q.id,V q.name,V q.query] 84)).trans hf;have kL:=h_ (dL.mono (G':=λk=>w.heap.size≤k) λk hk=>by(have h2:=(Z2.out.alloc (.cells #[I J q.id,V q.name,V q.query] 84)).size;have hk2:=hk;(try simp at hk2 h2);omega));clear dL hf)|(go_at_call 97;refine(KF.out _ eu.out).mono ?_;rintro e w2 ⟨rfl,hf⟩;have Y2:Hid (aa ac _ w2):=hf;have Z2:Hid (aa ac w w2):=eu.out.trans Y2.out;have eA:=dw.out _ Y2.out;obtain⟨y0,y1,y2,y3,y4,y5⟩:=bn eA;have yl:=eA.lt;clear eA;clear hf)|fail)
   go_ret2
   exact⟨v,rfl,kL.out,Z5.out⟩
def l9(q:aJ):Ev:=⟨8,q.id,0,1,eS,eS,eS⟩
theorem Jo(x:St)(l:List Int):jo x l=(x.itms.filter λq=>!q.read&&l.contains q.feed).map l9:=by
 unfold jo l9
 congr 1
 refine List.filter_congr λq _=>?_
 congr 1
 have hc:l.contains q.feed=true↔q.feed∈l:=by simp
 rw[Bool.eq_iff_iff,hc,List.any_eq_true];exact⟨λ⟨i,hi,e⟩=>of_decide_eq_true e ▸ hi,λh=>⟨_,h,decide_eq_true rfl⟩⟩
theorem GI{b off:Nat}{pt:Sl×aJ}(h:∀(j:Nat) (u:Value),(iY pt)[j]? =some u→w.cell? ⟨b,off+j,none⟩=some u):
  w.cell? ⟨b,off,none⟩=some (I J pt.2.id)∧w.cell? ⟨b,off+1,none⟩=some (I J pt.2.feed)∧w.cell? ⟨b,off+2,none⟩=some (I J pt.2.date)∧w.cell? ⟨b,off+3,none⟩=some (V pt.2.guid)∧w.cell? ⟨b,off+4,none⟩=some (V pt.2.title)∧w.cell? ⟨b,off+5,none⟩=some (V pt.2.link)∧w.cell? ⟨b,off+6,none⟩=some (.bool pt.2.read)∧w.cell? ⟨b,off+7,none⟩=some (.bool pt.2.star)∧w.cell? ⟨b,off+8,none⟩=some (U pt.1.1 pt.2.tags.length pt.1.2):=
 ⟨h 0 _ rfl,h 1 _ rfl,h 2 _ rfl,h 3 _ rfl,h 4 _ rfl,h 5 _ rfl,h 6 _ rfl,h 7 _ rfl,h 8 _ rfl⟩
theorem BW{x:St}(h:aw w g M x){A:Option Addr}{c:Nat}{l:List Int}(hv:aN w G 1 (A,c) l.length (l.map kI))(hn:l.length≤100000):
  Calls pQ 49 #[O (some ⟨g,0,none⟩),U A l.length c] w λe w'=>∃v:Sl,e=.returned (U v.1 (jo x l).length v.2)∧aN w' (λk=>w.heap.size≤k) 7 v (jo x l).length ((jo x l).flatMap Ev.cells)∧aa ac w w':=by
 rw[Jo];obtain⟨p,hp⟩:∃p:aJ→Bool,(λq:aJ=>!q.read&&l.contains q.feed)=p:=⟨_,rfl⟩;have N2:Hid (∀q:aJ,p q=(!q.read&&l.contains q.feed)):=λq=>by rw[←hp]
 rw[hp];have hi:=h.ok.iL;have KT:=h_ (Fc h);have KC:Hid (∀W z,aa ac w W→Calls pQ 98 #[U A l.length c,I J z] W λe w'=>e=.returned (.bool (l.contains z))∧w'=W):=λW z hW=>zA (v:=(A,c)) (hv.nix hW) hn z
 have Na:=Fd;clear h hp hv;generalize l.length=nl at *;obtain⟨n,Cx⟩:∃n,x.itms.length=n:=⟨_,rfl⟩;rw[Cx] at KT hi;have HN:=h_ Cx;clear Cx;go_enter Tryz.func49,Tryz.ntmps49;go_wp2_with (first|(go_at_call 23;refine KT.out.mono ?_;rintro e w2 ⟨Ao,co,Ae,ce,Ai,ci,As,cs,ts,rfl,hd,hf⟩;have HD:=h_ hd.itms;have uG:=h_ hd.same;have Z2:=h_ hf;clear hd hf)|fail);have J7:Hid (ts.length=n):=by unfold Hid;rw[←HN.out,←uG.out,List.length_map]
 go_loopw [5,12] (λov kv wr=>∃(k:Nat),k≤n∧kv=I J k∧aO 42 7 w2 wr ov (((((ts.map (·.2)).take k).filter p).map l9).length) (((((ts.map (·.2)).take k).filter p).map l9).flatMap Ev.cells)) (λ_ kv _=>n-(intOf kv).toNat)
 case atStart=>exact⟨0,by omega,rfl,aO.nil_ _ _ (aa.refl _ _)⟩
 case round=>
  obtain⟨k,hk,rfl,hrow⟩:=hrel;obtain⟨Ar,cr,rfl,-,-,-,-⟩:=hrow.shape;have pq:=h_ hrow;have HF:=h_ hrow.frm;clear hrow
  by_cases hlt:k<n
  ·have dX:k<ts.length:=by rw[J7.out];exact hlt
   obtain⟨b,off,hA,-,hbl,hcell⟩:=(HD.out.row.nix HF.out).at_ dp (by decide) (by omega);dsimp only at hA;subst hA;obtain⟨x0,x1,x2,x3,x4,x5,x6,x7,x8⟩:=GI (w:=wr) (b:=b) (off:=off+k * 9) (pt:=ts[k]) (hcell k dX);have MA:k<(ts.map (·.2)).length:=by rw[List.length_map];exact dX
   have HST:=h_ (rr (ts.map (·.2)) k MA p);have J0:(ts.map (·.2))[k]=ts[k].2:=by rw[List.getElem_map]
   rw[J0] at HST;obtain⟨pt,LG⟩:∃pt,ts[k]=pt:=⟨_,rfl⟩;rw[LG] at x0 x1 x2 x3 x4 x5 x6 x7 x8 HST;obtain⟨tv,q⟩:=pt;dsimp only at x0 x1 x2 x3 x4 x5 x6 x7 x8 HST
   have Hl:((((ts.map (·.2)).take k).filter p).map l9).length≤k:=by
    rw[List.length_map];have:=List.length_filter_le p ((ts.map (·.2)).take k);rw[List.length_take] at this;omega
   have um:=N2.out q;clear hcell MA J0 LG
   cases OS:q.read with
   | true=>
     rw[OS] at x6 um;have HX:Hid (((((ts.map (·.2)).take k).filter p).map l9)=((((ts.map (·.2)).take (k+1)).filter p).map l9)):=by unfold Hid;rw[HST.out,um];simp
     have xf:Hid (aO 42 7 w2 (wr.alloc (.cells #[I J q.id,I J q.feed,I J q.date,V q.guid,V q.title,V q.link,.bool true,.bool q.star,U tv.1 q.tags.length tv.2] 82)) (U Ar ((((ts.map (·.2)).take k).filter p).map l9).length cr) ((((ts.map (·.2)).take (k+1)).filter p).map l9).length (((((ts.map (·.2)).take (k+1)).filter p).map l9).flatMap Ev.cells)):=by
      unfold Hid;rw[←HX.out];exact pq.out.more ((fR wr).alloc _)
     clear um;generalize ((((ts.map (·.2)).take k).filter p).map l9).length=m at *;go_wp2;go_roundw
     case rel=>exact⟨k+1,by omega,by go_num,xf.out⟩
     case measure=>simp[intOf];omega
   | false=>
     have K:=KC.out (wr.alloc (.cells #[I J q.id,I J q.feed,I J q.date,V q.guid,V q.title,V q.link,.bool false,.bool q.star,U tv.1 q.tags.length tv.2] 82)) q.feed (Z2.out.trans (HF.out.alloc _));rw[OS] at x6 um
     cases hcc:l.contains q.feed with
     | false=>
       rw[hcc] at K um;have HX:Hid (((((ts.map (·.2)).take k).filter p).map l9)=((((ts.map (·.2)).take (k+1)).filter p).map l9)):=by unfold Hid;rw[HST.out,um];simp
       have xf:Hid (aO 42 7 w2 (wr.alloc (.cells #[I J q.id,I J q.feed,I J q.date,V q.guid,V q.title,V q.link,.bool false,.bool q.star,U tv.1 q.tags.length tv.2] 82)) (U Ar ((((ts.map (·.2)).take k).filter p).map l9).length cr) ((((ts.map (·.2)).take (k+1)).filter p).map l9).length (((((ts.map (·.2)).take (k+1)).filter p).map l9).flatMap Ev.cells)):=by
        unfold Hid;rw[←HX.out];exact pq.out.more ((fR wr).alloc _)
       clear um hcc;generalize ((((ts.map (·.2)).take k).filter p).map l9).length=m at *;go_wp2_with (first|(go_at_call 98;refine K.mono ?_;rintro e w' ⟨rfl,rfl⟩)|fail);go_roundw
       case rel=>exact⟨k+1,by omega,by go_num,xf.out⟩
       case measure=>simp[intOf];omega
     | true=>
       rw[hcc] at K um;have HX:Hid (((((ts.map (·.2)).take k).filter p).map l9)++[l9 q]=((((ts.map (·.2)).take (k+1)).filter p).map l9)):=by unfold Hid;rw[HST.out,um,List.map_append];simp
       obtain⟨v4,w4,mg,hr4,pN,-⟩:=(pq.out.more ((fR wr).alloc (.cells #[I J q.id,I J q.feed,I J q.date,V q.guid,V q.title,V q.link,.bool false,.bool q.star,U tv.1 q.tags.length tv.2] 82))).push ua (l9 q).cells rfl (by intro u hu;simp[l9,Ev.cells] at hu;rcases hu with rfl|rfl|rfl|rfl|rfl|rfl|rfl<;>rfl) (by unfold maxLen;omega) (by omega);rw[show (wr.alloc (.cells #[I J q.id,I J q.feed,I J q.date,V q.guid,V q.title,V q.link,.bool false,.bool q.star,U tv.1 q.tags.length tv.2] 82)).heap.size=wr.heap.size+1 by simp] at mg;have wN:∀ty,(Builtin.append_ #[30,30] ty #[U Ar ((((ts.map (·.2)).take k).filter p).map l9).length cr,U (some ⟨wr.heap.size+1,0,none⟩) 1 1]).run pQ ((wr.alloc (.cells #[I J q.id,I J q.feed,I J q.date,V q.guid,V q.title,V q.link,.bool false,.bool q.star,U tv.1 q.tags.length tv.2] 82)).alloc (.cells #[I J 8,I J q.id,I J 0,I J 1,V ⟨#[]⟩,V ⟨#[]⟩,V ⟨#[]⟩] 42))=.ok v4 w4:=mg
       have xf:Hid (aO 42 7 w2 w4 v4 ((((ts.map (·.2)).take (k+1)).filter p).map l9).length (((((ts.map (·.2)).take (k+1)).filter p).map l9).flatMap Ev.cells)):=by
        unfold Hid;rw[←HX.out,List.length_append,List.flatMap_append]
        simpa using hr4
       clear um hcc mg hr4 pN;generalize ((((ts.map (·.2)).take k).filter p).map l9).length=m at *;go_wp2_with (first|(go_at_call 98;refine K.mono ?_;rintro e w' ⟨rfl,rfl⟩)|(at_builtin;refine aq wN rfl _ _ rfl rfl rfl ?_)|fail);go_roundw
       case rel=>exact⟨k+1,by omega,by go_num,xf.out⟩
       case measure=>simp[intOf];omega
  ·obtain rfl:k=n:=by omega
   have HE:Hid (((((ts.map (·.2)).take k).filter p).map l9)=(x.itms.filter p).map l9):=by
    unfold Hid;rw[List.take_of_length_le (by rw[List.length_map,J7.out];exact Nat.le_refl _),uG.out]
   rw[HE.out] at pq;go_wp2;go_ret;rw[HE.out];exact⟨(Ar,cr),rfl,pq.out.sl.mono λj hj=>Nat.le_trans Z2.out.size hj,Z2.out.trans pq.out.frm⟩
end Go.Proofs.YtaecjmiobllhmaaGreat
