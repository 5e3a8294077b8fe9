/- Words. -/
import Derived.Test.YtaecjmiobllhmaaGreatGq34
set_option linter.unusedVariables false
set_option linter.unusedSimpArgs false
set_option maxRecDepth 100000
set_option maxHeartbeats 16000000
namespace Go.Proofs.YtaecjmiobllhmaaGreat
open Go.Value renaming int→I,string→V,slice→U,pointer→O
open Go.IntKind renaming i64→J
open Tryz renaming prog→pQ
open Go.RowKit Go.Lib
variable {w:World}{g:Nat}{M:Ms}
def xU:ByteArray:=⟨#[117]⟩
def xT:ByteArray:=⟨#[116]⟩
def Rx:ByteArray:=⟨#[97,32,98]⟩
def Qm:ByteArray:=⟨#[32,97,32,32,98,32]⟩
def O7:Ev:=⟨1,1,0,0,Rx,eS,eS⟩
def Jr:Ev:=⟨3,1,1,0,xU,xT,eS⟩
def MB:St:=⟨0,[⟨1,0,Rx⟩],[],[],[],1,0,0,0⟩
def un:St:=⟨0,[⟨1,0,Rx⟩],[⟨1,1,xU,xT⟩],[],[],1,1,0,0⟩
theorem XS:aB ah aC m9 ⟨1,0,0,0,Qm,eS⟩=([O7],0):=by decide+kernel
theorem TI:Hm ah aC m9 ⟨1,0,0,0,Qm,eS⟩=MB:=by decide+kernel
theorem XT:aB ah aC MB ⟨3,0,1,0,xU,xT⟩=([Jr],0):=by decide+kernel
theorem TJ:Hm ah aC MB ⟨3,0,1,0,xU,xT⟩=un:=by decide+kernel
theorem XU:aB ah aC un ⟨3,0,0,0,xU,eS⟩=([],5):=by decide+kernel
theorem XV:aB ah aC un ⟨2,1,0,0,eS,eS⟩=([],220):=by decide+kernel
theorem XW:aB ah aC un ⟨7,1,0,1,eS,eS⟩=([],4):=by decide+kernel
theorem XX:aB ah aC un ⟨5,1,0,0,eS,xT⟩=([],0):=by decide+kernel
theorem XY:aB ah aC un ⟨0,0,0,0,eS,eS⟩=([],1):=by decide+kernel
theorem XZ:qR un ⟨4,1,0,0,eS,eS⟩=([Jr],true):=by decide+kernel
theorem X0:qR un ⟨14,0,0,5,eS,eS⟩=([],false):=by decide+kernel
theorem TK:dF un 1=[1]:=by decide+kernel
theorem TL:ah ⟨#[32,97,32,98]⟩ 2=⟨#[97]⟩:=by decide+kernel
theorem X1(h:aw w g M m9):Calls pQ 24 #[O (some ⟨g,0,none⟩),.agg #[I J 1,I J 0,I J 0,I J 0,V ⟨#[32,97,32,32,98,32]⟩,V ⟨#[]⟩]] w λe w'=>∃A c,e=.returned (.tuple #[U A 1 c,I J 0])∧aN w' (λk=>w.heap.size≤k) 7 (A,c) ([O7]:List Ev).length (([O7]:List Ev).flatMap Ev.cells)∧aw w' g M MB∧aa (SF g M) w w':=by
 have q:=D6 h 1 0 0 0 ⟨#[32,97,32,32,98,32]⟩ ⟨#[]⟩ ⟨by unfold bj;decide,by unfold bj;decide,by unfold bj;decide,by decide,by decide⟩;have e1:aB ah aC m9 ⟨1,0,0,0,⟨#[32,97,32,32,98,32]⟩,⟨#[]⟩⟩=([O7],0):=XS;have e2:Hm ah aC m9 ⟨1,0,0,0,⟨#[32,97,32,32,98,32]⟩,⟨#[]⟩⟩=MB:=TI;rw[e1,e2] at q;exact q.mono λe w' ⟨⟨A,c⟩,h1,h2,h3,h4⟩=>⟨A,c,h1,h2,h3,h4⟩
theorem X2(h:aw w g M MB):Calls pQ 24 #[O (some ⟨g,0,none⟩),.agg #[I J 3,I J 0,I J 1,I J 0,V ⟨#[117]⟩,V ⟨#[116]⟩]] w λe w'=>∃A c,e=.returned (.tuple #[U A 1 c,I J 0])∧aN w' (λk=>w.heap.size≤k) 7 (A,c) ([Jr]:List Ev).length (([Jr]:List Ev).flatMap Ev.cells)∧aw w' g M un∧aa (SF g M) w w':=by
 have q:=D6 h 3 0 1 0 ⟨#[117]⟩ ⟨#[116]⟩ ⟨by unfold bj;decide,by unfold bj;decide,by unfold bj;decide,by decide,by decide⟩;have e1:aB ah aC MB ⟨3,0,1,0,⟨#[117]⟩,⟨#[116]⟩⟩=([Jr],0):=XT;have e2:Hm ah aC MB ⟨3,0,1,0,⟨#[117]⟩,⟨#[116]⟩⟩=un:=TJ;rw[e1,e2] at q;exact q.mono λe w' ⟨⟨A,c⟩,h1,h2,h3,h4⟩=>⟨A,c,h1,h2,h3,h4⟩
theorem X3(h:aw w g M un):Calls pQ 20 #[O (some ⟨g,0,none⟩),.agg #[I J 3,I J 0,I J 0,I J 0,V ⟨#[117]⟩,V ⟨#[]⟩]] w λe w'=>∃A c,e=.returned (.tuple #[U A 0 c,I J 5])∧aa ac w w':=by
 have q:=mQ h 3 0 0 0 ⟨#[117]⟩ ⟨#[]⟩ ⟨by unfold bj;decide,by unfold bj;decide,by unfold bj;decide,by decide,by decide⟩;have e1:aB ah aC un ⟨3,0,0,0,⟨#[117]⟩,⟨#[]⟩⟩=([],5):=XU;rw[e1] at q;exact q.mono λe w' ⟨⟨A,c⟩,h1,h2,h3⟩=>⟨A,c,h1,h3⟩
theorem X4(h:aw w g M un):Calls pQ 20 #[O (some ⟨g,0,none⟩),.agg #[I J 2,I J 1,I J 0,I J 0,V ⟨#[]⟩,V ⟨#[]⟩]] w λe w'=>∃A c,e=.returned (.tuple #[U A 0 c,I J 220])∧aa ac w w':=by
 have q:=mQ h 2 1 0 0 ⟨#[]⟩ ⟨#[]⟩ ⟨by unfold bj;decide,by unfold bj;decide,by unfold bj;decide,by decide,by decide⟩;have e1:aB ah aC un ⟨2,1,0,0,⟨#[]⟩,⟨#[]⟩⟩=([],220):=XV;rw[e1] at q;exact q.mono λe w' ⟨⟨A,c⟩,h1,h2,h3⟩=>⟨A,c,h1,h3⟩
theorem X5(h:aw w g M un):Calls pQ 20 #[O (some ⟨g,0,none⟩),.agg #[I J 7,I J 1,I J 0,I J 1,V ⟨#[]⟩,V ⟨#[]⟩]] w λe w'=>∃A c,e=.returned (.tuple #[U A 0 c,I J 4])∧aa ac w w':=by
 have q:=mQ h 7 1 0 1 ⟨#[]⟩ ⟨#[]⟩ ⟨by unfold bj;decide,by unfold bj;decide,by unfold bj;decide,by decide,by decide⟩;have e1:aB ah aC un ⟨7,1,0,1,⟨#[]⟩,⟨#[]⟩⟩=([],4):=XW;rw[e1] at q;exact q.mono λe w' ⟨⟨A,c⟩,h1,h2,h3⟩=>⟨A,c,h1,h3⟩
theorem X8(h:aw w g M un):Calls pQ 20 #[O (some ⟨g,0,none⟩),.agg #[I J 5,I J 1,I J 0,I J 0,V ⟨#[]⟩,V ⟨#[116]⟩]] w λe w'=>∃A c,e=.returned (.tuple #[U A 0 c,I J 0])∧aa ac w w':=by
 have q:=mQ h 5 1 0 0 ⟨#[]⟩ ⟨#[116]⟩ ⟨by unfold bj;decide,by unfold bj;decide,by unfold bj;decide,by decide,by decide⟩;have e1:aB ah aC un ⟨5,1,0,0,⟨#[]⟩,⟨#[116]⟩⟩=([],0):=XX;rw[e1] at q;exact q.mono λe w' ⟨⟨A,c⟩,h1,h2,h3⟩=>⟨A,c,h1,h3⟩
theorem X9(h:aw w g M un):Calls pQ 20 #[O (some ⟨g,0,none⟩),.agg #[I J 0,I J 0,I J 0,I J 0,V ⟨#[]⟩,V ⟨#[]⟩]] w λe w'=>∃A c,e=.returned (.tuple #[U A 0 c,I J 1])∧aa ac w w':=by
 have q:=mQ h 0 0 0 0 ⟨#[]⟩ ⟨#[]⟩ ⟨by unfold bj;decide,by unfold bj;decide,by unfold bj;decide,by decide,by decide⟩;have e1:aB ah aC un ⟨0,0,0,0,⟨#[]⟩,⟨#[]⟩⟩=([],1):=XY;rw[e1] at q;exact q.mono λe w' ⟨⟨A,c⟩,h1,h2,h3⟩=>⟨A,c,h1,h3⟩
theorem TM:aB ah aC un ⟨4,1,0,0,⟨#[]⟩,⟨#[]⟩⟩=([⟨4,1,0,0,eS,eS,eS⟩],0):=by decide+kernel
theorem Yd(h:aw w g M un):Calls pQ 39 #[O (some ⟨g,0,none⟩),.agg #[I J 4,I J 1,I J 0,I J 0,V ⟨#[]⟩,V ⟨#[]⟩]] w λe w'=>∃A c,e=.returned (.tuple #[U A 1 c,.bool true])∧aN w' (λk=>w.heap.size≤k) 7 (A,c) ([Jr]:List Ev).length (([Jr]:List Ev).flatMap Ev.cells)∧aa ac w w':=by
 have q:=yv h rfl 4 1 0 0 ⟨#[]⟩ ⟨#[]⟩ ⟨by unfold bj;decide,by unfold bj;decide,by unfold bj;decide,by decide,by decide⟩ λ_ e he=>by
  rw[TM] at he;rw[List.mem_singleton.1 he];exact⟨rfl,by unfold bj;decide⟩
 have e1:qR un ⟨4,1,0,0,⟨#[]⟩,⟨#[]⟩⟩=([Jr],true):=XZ;rw[e1] at q;exact q.mono λe w' ⟨⟨A,c⟩,h1,h2,h3⟩=>⟨A,c,h1,h2,h3⟩
theorem Ye(h:aw w g M un):Calls pQ 39 #[O (some ⟨g,0,none⟩),.agg #[I J 14,I J 0,I J 0,I J 5,V ⟨#[]⟩,V ⟨#[]⟩]] w λe w'=>∃A c,e=.returned (.tuple #[U A 0 c,.bool false])∧aN w' (λk=>w.heap.size≤k) 7 (A,c) ([]:List Ev).length (([]:List Ev).flatMap Ev.cells)∧aa ac w w':=by
 have q:=yv h rfl 14 0 0 5 ⟨#[]⟩ ⟨#[]⟩ ⟨by unfold bj;decide,by unfold bj;decide,by unfold bj;decide,by decide,by decide⟩ λh=>absurd rfl h
 have e1:qR un ⟨14,0,0,5,⟨#[]⟩,⟨#[]⟩⟩=([],false):=X0;rw[e1] at q;exact q.mono λe w' ⟨⟨A,c⟩,h1,h2,h3⟩=>⟨A,c,h1,h2,h3⟩
theorem TN(h:aw w g M un):Calls pQ 40 #[O (some ⟨g,0,none⟩),I J 1] w λe w'=>∃A c,e=.returned (U A 1 c)∧aN w' (λk=>w.heap.size≤k) 1 (A,c) ([1]:List Int).length (([1]:List Int).flatMap λi=>[kI i])∧aa ac w w':=by
 have q:=yq h (i:=1) ⟨by decide,by decide⟩;rw[TK] at q;exact q
theorem pu(w:World):Calls pQ 18 #[] w λe w'=>e=.returned (.bool true)∧aa ac w w':=by
 go_enter Tryz.func18,Tryz.ntmps18;show Code.wp pQ (aj 0 (ae Tryz.f18)) _ _ _
 refine aG (k':=1) λK hK=>?_
 conv in bz _=>whnf
 go_wp2;refine aG (k':=2) λK hK=>?_
 conv in bz _=>whnf
 go_wp2_with (first|(go_at_call 38;refine(EX _).mono ?_;rintro e w1 ⟨g,M,rfl,hs,hf,hg⟩;have H1:=h_ hs;have Z1:=h_ hf;have HG:=h_ hg;clear hs hf hg)|fail);refine aG (k':=3) λK hK=>?_
 conv in bz _=>whnf
 go_wp2;refine aG (k':=4) λK hK=>?_
 conv in bz _=>whnf
 go_wp2_with (first|(go_at_call 24;refine(X1 H1.out).mono ?_;rintro e w2 ⟨Aa,ca,rfl,hv,hs,hf⟩;have Yf:=h_ hv;have H2:=h_ hs;have Y2:=h_ hf;have Z2:Hid (aa ac w w2):=vn Z1.out hf HG.out;clear hv hs hf)|fail);refine aG (k':=5) λK hK=>?_
 conv in bz _=>whnf
 go_wp2_with (first|(go_at_call 24;refine(X2 H2.out).mono ?_;rintro e w3 ⟨Ab,cb,rfl,hv,hs,hf⟩;have Yg:=h_ hv;have Yh:=h_ (Yf.out.frm hf λk hk hk2=>by(have:=H1.out.lt k hk2;omega));have H3:=h_ hs;have Z3:Hid (aa ac w w3):=vn Z2.out hf HG.out;clear hv hs hf)|fail);refine aG (k':=6) λK hK=>?_
 conv in bz _=>whnf
 have Y3z:Hid (aa ac w3 w3):=aa.refl _ _;go_wp2_with (first|(go_at_call 20;refine(X3 (H3.out.nix Y3z.out)).mono ?_;rintro e w4 ⟨A4,c4,rfl,hf⟩;have Y4z:Hid (aa ac w3 w4):=Y3z.out.trans hf;clear hf)|fail);refine aG (k':=7) λK hK=>?_
 conv in bz _=>whnf
 go_wp2_with (first|(go_at_call 20;refine(X4 (H3.out.nix Y4z.out)).mono ?_;rintro e w5 ⟨A5,c5,rfl,hf⟩;have Y5z:Hid (aa ac w3 w5):=Y4z.out.trans hf;clear hf)|fail);refine aG (k':=8) λK hK=>?_
 conv in bz _=>whnf
 go_wp2_with (first|(go_at_call 20;refine(X5 (H3.out.nix Y5z.out)).mono ?_;rintro e w6 ⟨A6,c6,rfl,hf⟩;have Y6z:Hid (aa ac w3 w6):=Y5z.out.trans hf;clear hf)|fail);refine aG (k':=9) λK hK=>?_
 conv in bz _=>whnf
 go_wp2_with (first|(go_at_call 20;refine(X8 (H3.out.nix Y6z.out)).mono ?_;rintro e w7 ⟨A7,c7,rfl,hf⟩;have Y7z:Hid (aa ac w3 w7):=Y6z.out.trans hf;clear hf)|fail);refine aG (k':=10) λK hK=>?_
 conv in bz _=>whnf
 go_wp2_with (first|(go_at_call 20;refine(X9 (H3.out.nix Y7z.out)).mono ?_;rintro e w8 ⟨A8,c8,rfl,hf⟩;have Y8z:Hid (aa ac w3 w8):=Y7z.out.trans hf;clear hf)|fail);refine aG (k':=11) λK hK=>?_
 conv in bz _=>whnf
 go_wp2_with (first|(go_at_call 39;refine(Yd (H3.out.nix Y8z.out)).mono ?_;rintro e w9 ⟨Au,cu,rfl,hv,hf⟩;have Yi:=h_ hv;have Y9z:Hid (aa ac w3 w9):=Y8z.out.trans hf;clear hv hf)|fail);refine aG (k':=12) λK hK=>?_
 conv in bz _=>whnf
 go_wp2_with (first|(go_at_call 39;refine(Ye (H3.out.nix Y9z.out)).mono ?_;rintro e TP ⟨Ax,cx,rfl,-,hf⟩;have TQ:=h_ (Yi.out.nix hf);have Y10z:Hid (aa ac w3 TP):=Y9z.out.trans hf;clear hf)|fail);refine aG (k':=13) λK hK=>?_
 conv in bz _=>whnf
 go_wp2_with (first|(go_at_call 40;refine(TN (H3.out.nix Y10z.out)).mono ?_;rintro e pG ⟨Al,cl,rfl,hv,hf⟩;have TR:=h_ (TQ.out.nix hf);have TS:=h_ hv;have Y11z:Hid (aa ac w3 pG):=Y10z.out.trans hf;clear hv hf)|fail);obtain⟨ba,oa,Vm,-,Ah,FE⟩:=(Yh.out.nix Y11z.out).at_ Ev.clen (by decide) (by decide);obtain⟨bb,ob,Vn,-,rI,hcb⟩:=(Yg.out.nix Y11z.out).at_ Ev.clen (by decide) (by decide);obtain⟨bu,ou,Vo,-,N6,yK⟩:=TR.out.at_ Ev.clen (by decide) (by decide);obtain⟨bl,ol,Mj,-,hbl,hcl⟩:=TS.out.at_ (f:=λi=>[kI i]) (λ_=>rfl) (by decide) (by decide);dsimp only at Vm Vn Vo Mj;subst Vm;subst Vn;subst Vo;subst Mj;obtain⟨a0,a1,a2,a3,a4,a5,a6⟩:=Bz (w:=pG) (b:=ba) (off:=oa+0 * 7) (e:=O7) (FE 0 (by decide));obtain⟨b0,b1,b2,b3,b4,b5,b6⟩:=Bz (w:=pG) (b:=bb) (off:=ob+0 * 7) (e:=Jr) (hcb 0 (by decide));obtain⟨u0,u1,u2,u3,u4,u5,u6⟩:=Bz (w:=pG) (b:=bu) (off:=ou+0 * 7) (e:=Jr) (yK 0 (by decide));have l0:=hcl 0 (by decide) 0 _ rfl;simp only[O7,Jr,eS,Rx,xU,xT,Nat.zero_mul,Nat.add_zero] at a0 a1 a2 a3 a4 a5 a6 b0 b1 b2 b3 b4 b5 b6 u0 u1 u2 u3 u4 u5 u6 l0;clear FE hcb yK hcl;refine aG (k':=14) λK hK=>?_
 conv in bz _=>whnf
 go_wp2;refine aG (k':=15) λK hK=>?_
 conv in bz _=>whnf
 go_wp2;simp only[aj,ae,Tryz.f18]
 have KS:Hid (∀W,Calls pQ 41 #[V ⟨#[32,97,32,98]⟩,I J 2] W λe w'=>e=.returned (V ⟨#[97]⟩)∧aa ac W w'):=λW=>by
  have q:=mD ⟨#[32,97,32,98]⟩ (by decide) 2 W;rw[TL] at q;exact q
 go_wp2
 have HC:Hid (∀W,aa ac (pG.alloc (.cells #[I J 3,I J 1,I J 1,I J 0,V ⟨#[117]⟩,V ⟨#[116]⟩,V ⟨#[]⟩] 42)) W→(W.cell? ⟨ba,oa,none⟩=some (I J 1)∧W.cell? ⟨ba,oa+1,none⟩=some (I J 1)∧W.cell? ⟨ba,oa+2,none⟩=some (I J 0)∧W.cell? ⟨ba,oa+3,none⟩=some (I J 0)∧W.cell? ⟨ba,oa+4,none⟩=some (V ⟨#[97,32,98]⟩)∧W.cell? ⟨ba,oa+5,none⟩=some (V ⟨#[]⟩)∧W.cell? ⟨ba,oa+6,none⟩=some (V ⟨#[]⟩))∧(W.cell? ⟨bb,ob,none⟩=some (I J 3)∧W.cell? ⟨bb,ob+1,none⟩=some (I J 1)∧W.cell? ⟨bb,ob+2,none⟩=some (I J 1)∧W.cell? ⟨bb,ob+3,none⟩=some (I J 0)∧W.cell? ⟨bb,ob+4,none⟩=some (V ⟨#[117]⟩)∧W.cell? ⟨bb,ob+5,none⟩=some (V ⟨#[116]⟩)∧W.cell? ⟨bb,ob+6,none⟩=some (V ⟨#[]⟩))∧(W.cell? ⟨bu,ou,none⟩=some (I J 3)∧W.cell? ⟨bu,ou+1,none⟩=some (I J 1)∧W.cell? ⟨bu,ou+2,none⟩=some (I J 1)∧W.cell? ⟨bu,ou+3,none⟩=some (I J 0)∧W.cell? ⟨bu,ou+4,none⟩=some (V ⟨#[117]⟩)∧W.cell? ⟨bu,ou+5,none⟩=some (V ⟨#[116]⟩)∧W.cell? ⟨bu,ou+6,none⟩=some (V ⟨#[]⟩))∧W.cell? ⟨bl,ol,none⟩=some (I J 1)∧(W.cell? ⟨pG.heap.size,0,none⟩=some (I J 3)∧W.cell? ⟨pG.heap.size,1,none⟩=some (I J 1)∧W.cell? ⟨pG.heap.size,2,none⟩=some (I J 1)∧W.cell? ⟨pG.heap.size,3,none⟩=some (I J 0)∧W.cell? ⟨pG.heap.size,4,none⟩=some (V ⟨#[117]⟩)∧W.cell? ⟨pG.heap.size,5,none⟩=some (V ⟨#[116]⟩)∧W.cell? ⟨pG.heap.size,6,none⟩=some (V ⟨#[]⟩))):=λW hW=>by
  have hW2:aa ac pG W:=((fR pG).alloc _).trans hW;exact⟨⟨(hW2.cell (p:=⟨ba,oa,none⟩) Ah id).trans a0,(hW2.cell (p:=⟨ba,oa+1,none⟩) Ah id).trans a1,(hW2.cell (p:=⟨ba,oa+2,none⟩) Ah id).trans a2,(hW2.cell (p:=⟨ba,oa+3,none⟩) Ah id).trans a3,(hW2.cell (p:=⟨ba,oa+4,none⟩) Ah id).trans a4,(hW2.cell (p:=⟨ba,oa+5,none⟩) Ah id).trans a5,(hW2.cell (p:=⟨ba,oa+6,none⟩) Ah id).trans a6⟩,⟨(hW2.cell (p:=⟨bb,ob,none⟩) rI id).trans b0,(hW2.cell (p:=⟨bb,ob+1,none⟩) rI id).trans b1,(hW2.cell (p:=⟨bb,ob+2,none⟩) rI id).trans b2,(hW2.cell (p:=⟨bb,ob+3,none⟩) rI id).trans b3,(hW2.cell (p:=⟨bb,ob+4,none⟩) rI id).trans b4,(hW2.cell (p:=⟨bb,ob+5,none⟩) rI id).trans b5,(hW2.cell (p:=⟨bb,ob+6,none⟩) rI id).trans b6⟩,⟨(hW2.cell (p:=⟨bu,ou,none⟩) N6 id).trans u0,(hW2.cell (p:=⟨bu,ou+1,none⟩) N6 id).trans u1,(hW2.cell (p:=⟨bu,ou+2,none⟩) N6 id).trans u2,(hW2.cell (p:=⟨bu,ou+3,none⟩) N6 id).trans u3,(hW2.cell (p:=⟨bu,ou+4,none⟩) N6 id).trans u4,(hW2.cell (p:=⟨bu,ou+5,none⟩) N6 id).trans u5,(hW2.cell (p:=⟨bu,ou+6,none⟩) N6 id).trans u6⟩,(hW2.cell (p:=⟨bl,ol,none⟩) hbl id).trans l0,ap ((ai.new pG 42 #[I J 3,I J 1,I J 1,I J 0,V ⟨#[117]⟩,V ⟨#[116]⟩,V ⟨#[]⟩]).frm hW id)⟩
 clear a0 a1 a2 a3 a4 a5 a6 b0 b1 b2 b3 b4 b5 b6 u0 u1 u2 u3 u4 u5 u6 l0
 try simp only[List.append_eq,List.cons_append,List.nil_append]
 go_region_held3 (λW=>(W.cell? ⟨ba,oa,none⟩=some (I J 1)∧W.cell? ⟨ba,oa+1,none⟩=some (I J 1)∧W.cell? ⟨ba,oa+2,none⟩=some (I J 0)∧W.cell? ⟨ba,oa+3,none⟩=some (I J 0)∧W.cell? ⟨ba,oa+4,none⟩=some (V ⟨#[97,32,98]⟩)∧W.cell? ⟨ba,oa+5,none⟩=some (V ⟨#[]⟩)∧W.cell? ⟨ba,oa+6,none⟩=some (V ⟨#[]⟩))∧(W.cell? ⟨bb,ob,none⟩=some (I J 3)∧W.cell? ⟨bb,ob+1,none⟩=some (I J 1)∧W.cell? ⟨bb,ob+2,none⟩=some (I J 1)∧W.cell? ⟨bb,ob+3,none⟩=some (I J 0)∧W.cell? ⟨bb,ob+4,none⟩=some (V ⟨#[117]⟩)∧W.cell? ⟨bb,ob+5,none⟩=some (V ⟨#[116]⟩)∧W.cell? ⟨bb,ob+6,none⟩=some (V ⟨#[]⟩))∧(W.cell? ⟨bu,ou,none⟩=some (I J 3)∧W.cell? ⟨bu,ou+1,none⟩=some (I J 1)∧W.cell? ⟨bu,ou+2,none⟩=some (I J 1)∧W.cell? ⟨bu,ou+3,none⟩=some (I J 0)∧W.cell? ⟨bu,ou+4,none⟩=some (V ⟨#[117]⟩)∧W.cell? ⟨bu,ou+5,none⟩=some (V ⟨#[116]⟩)∧W.cell? ⟨bu,ou+6,none⟩=some (V ⟨#[]⟩))∧W.cell? ⟨bl,ol,none⟩=some (I J 1)∧(W.cell? ⟨pG.heap.size,0,none⟩=some (I J 3)∧W.cell? ⟨pG.heap.size,1,none⟩=some (I J 1)∧W.cell? ⟨pG.heap.size,2,none⟩=some (I J 1)∧W.cell? ⟨pG.heap.size,3,none⟩=some (I J 0)∧W.cell? ⟨pG.heap.size,4,none⟩=some (V ⟨#[117]⟩)∧W.cell? ⟨pG.heap.size,5,none⟩=some (V ⟨#[116]⟩)∧W.cell? ⟨pG.heap.size,6,none⟩=some (V ⟨#[]⟩))) ((refine HC.out _ ?_;repeat' (first|with_reducible exact aa.refl _ _|with_reducible exact Vp.out|with_reducible apply aa.drew)))
  (first
   | (go_at_call 41;refine(KS.out _).mono ?_;rintro e yw ⟨rfl,hf⟩;have Vp:Hid (aa ac (pG.alloc (.cells #[I J 3,I J 1,I J 1,I J 0,V ⟨#[117]⟩,V ⟨#[116]⟩,V ⟨#[]⟩] 42)) yw):=(fR _).drew.trans hf;clear hf))
 all_goals
  go_wp2;go_ret;exact⟨rfl,((Z3.out.trans Y11z.out).alloc _).trans Vp.out⟩
end Go.Proofs.YtaecjmiobllhmaaGreat
