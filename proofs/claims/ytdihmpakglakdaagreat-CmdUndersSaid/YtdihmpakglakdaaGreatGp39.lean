/-
  What law 22's first program comes to, in plain words; its walk; what is too large.
-/
import Derived.Test.YtdihmpakglakdaaGreatGp38
import Derived.Deep.RegionHeld3
set_option linter.unusedVariables false
set_option linter.unusedSimpArgs false
set_option maxRecDepth 100000
set_option maxHeartbeats 16000000
namespace Go.Proofs.YtdihmpakglakdaaGreat
open Go.RowKit Go.Lib
def xU:ByteArray:=⟨#[117]⟩
def xT:ByteArray:=⟨#[116]⟩
def xAB:ByteArray:=⟨#[97,32,98]⟩
def xAB2:ByteArray:=⟨#[32,97,32,32,98,32]⟩
def xE1:Ev:=⟨1,1,0,0,xAB,eS,eS⟩
def xE2:Ev:=⟨3,1,1,0,xU,xT,eS⟩
def xS1:St:=⟨0,[⟨1,0,xAB⟩],[],[],[],1,0,0,0⟩
def xS2:St:=⟨0,[⟨1,0,xAB⟩],[⟨1,1,xU,xT⟩],[],[],1,1,0,0⟩
theorem xl1:planP shortS tagS st0 ⟨1,0,0,0,xAB2,eS⟩=([xE1],0):=by decide+kernel
theorem xl1s:doC shortS tagS st0 ⟨1,0,0,0,xAB2,eS⟩=xS1:=by decide+kernel
theorem xl2:planP shortS tagS xS1 ⟨3,0,1,0,xU,xT⟩=([xE2],0):=by decide+kernel
theorem xl2s:doC shortS tagS xS1 ⟨3,0,1,0,xU,xT⟩=xS2:=by decide+kernel
theorem xl3:planP shortS tagS xS2 ⟨3,0,0,0,xU,eS⟩=([],5):=by decide+kernel
theorem xl4:planP shortS tagS xS2 ⟨2,1,0,0,eS,eS⟩=([],220):=by decide+kernel
theorem xl5:planP shortS tagS xS2 ⟨7,1,0,1,eS,eS⟩=([],4):=by decide+kernel
theorem xl6:planP shortS tagS xS2 ⟨5,1,0,0,eS,xT⟩=([],0):=by decide+kernel
theorem xl7:planP shortS tagS xS2 ⟨0,0,0,0,eS,eS⟩=([],1):=by decide+kernel
theorem xl8:undoP xS2 ⟨4,1,0,0,eS,eS⟩=([xE2],true):=by decide+kernel
theorem xl9:undoP xS2 ⟨14,0,0,5,eS,eS⟩=([],false):=by decide+kernel
theorem xl10:underS xS2 1=[1]:=by decide+kernel
theorem xl11:shortS ⟨#[32,97,32,98]⟩ 2=⟨#[97]⟩:=by decide+kernel
theorem xd1{w:World}{g:Nat}{M:Ms}(h:StAt w g M st0):Calls Tryz.prog 29 #[.pointer (some ⟨g,0,none⟩),.agg #[.int .i64 1,.int .i64 0,.int .i64 0,.int .i64 0,.string ⟨#[32,97,32,32,98,32]⟩,.string ⟨#[]⟩]] w fun e w'=>∃ A c,e=.returned (.tuple #[.slice A 1 c,.int .i64 0])∧SlIn w' (fun k=>w.heap.size≤k) 7 (A,c) ([xE1]:List Ev).length (([xE1]:List Ev).flatMap Ev.cells)∧StAt w' g M xS1∧Frm (SF g M) w w':=by
 have q:=Do_any h 1 0 0 0 ⟨#[32,97,32,32,98,32]⟩ ⟨#[]⟩ ⟨by unfold I64;decide,by unfold I64;decide,by unfold I64;decide,by decide,by decide⟩;have e1:planP shortS tagS st0 ⟨1,0,0,0,⟨#[32,97,32,32,98,32]⟩,⟨#[]⟩⟩=([xE1],0):=xl1;have e2:doC shortS tagS st0 ⟨1,0,0,0,⟨#[32,97,32,32,98,32]⟩,⟨#[]⟩⟩=xS1:=xl1s;rw[e1,e2] at q;exact q.mono fun e w' ⟨⟨A,c⟩,h1,h2,h3,h4⟩=>⟨A,c,h1,h2,h3,h4⟩
theorem xd2{w:World}{g:Nat}{M:Ms}(h:StAt w g M xS1):Calls Tryz.prog 29 #[.pointer (some ⟨g,0,none⟩),.agg #[.int .i64 3,.int .i64 0,.int .i64 1,.int .i64 0,.string ⟨#[117]⟩,.string ⟨#[116]⟩]] w fun e w'=>∃ A c,e=.returned (.tuple #[.slice A 1 c,.int .i64 0])∧SlIn w' (fun k=>w.heap.size≤k) 7 (A,c) ([xE2]:List Ev).length (([xE2]:List Ev).flatMap Ev.cells)∧StAt w' g M xS2∧Frm (SF g M) w w':=by
 have q:=Do_any h 3 0 1 0 ⟨#[117]⟩ ⟨#[116]⟩ ⟨by unfold I64;decide,by unfold I64;decide,by unfold I64;decide,by decide,by decide⟩;have e1:planP shortS tagS xS1 ⟨3,0,1,0,⟨#[117]⟩,⟨#[116]⟩⟩=([xE2],0):=xl2;have e2:doC shortS tagS xS1 ⟨3,0,1,0,⟨#[117]⟩,⟨#[116]⟩⟩=xS2:=xl2s;rw[e1,e2] at q;exact q.mono fun e w' ⟨⟨A,c⟩,h1,h2,h3,h4⟩=>⟨A,c,h1,h2,h3,h4⟩
theorem xp3{w:World}{g:Nat}{M:Ms}(h:StAt w g M xS2):Calls Tryz.prog 25 #[.pointer (some ⟨g,0,none⟩),.agg #[.int .i64 3,.int .i64 0,.int .i64 0,.int .i64 0,.string ⟨#[117]⟩,.string ⟨#[]⟩]] w fun e w'=>∃ A c,e=.returned (.tuple #[.slice A 0 c,.int .i64 5])∧Frm Nix w w':=by
 have q:=Plan_any h 3 0 0 0 ⟨#[117]⟩ ⟨#[]⟩ ⟨by unfold I64;decide,by unfold I64;decide,by unfold I64;decide,by decide,by decide⟩;have e1:planP shortS tagS xS2 ⟨3,0,0,0,⟨#[117]⟩,⟨#[]⟩⟩=([],5):=xl3;rw[e1] at q;exact q.mono fun e w' ⟨⟨A,c⟩,h1,h2,h3⟩=>⟨A,c,h1,h3⟩
theorem xp4{w:World}{g:Nat}{M:Ms}(h:StAt w g M xS2):Calls Tryz.prog 25 #[.pointer (some ⟨g,0,none⟩),.agg #[.int .i64 2,.int .i64 1,.int .i64 0,.int .i64 0,.string ⟨#[]⟩,.string ⟨#[]⟩]] w fun e w'=>∃ A c,e=.returned (.tuple #[.slice A 0 c,.int .i64 220])∧Frm Nix w w':=by
 have q:=Plan_any h 2 1 0 0 ⟨#[]⟩ ⟨#[]⟩ ⟨by unfold I64;decide,by unfold I64;decide,by unfold I64;decide,by decide,by decide⟩;have e1:planP shortS tagS xS2 ⟨2,1,0,0,⟨#[]⟩,⟨#[]⟩⟩=([],220):=xl4;rw[e1] at q;exact q.mono fun e w' ⟨⟨A,c⟩,h1,h2,h3⟩=>⟨A,c,h1,h3⟩
theorem xp5{w:World}{g:Nat}{M:Ms}(h:StAt w g M xS2):Calls Tryz.prog 25 #[.pointer (some ⟨g,0,none⟩),.agg #[.int .i64 7,.int .i64 1,.int .i64 0,.int .i64 1,.string ⟨#[]⟩,.string ⟨#[]⟩]] w fun e w'=>∃ A c,e=.returned (.tuple #[.slice A 0 c,.int .i64 4])∧Frm Nix w w':=by
 have q:=Plan_any h 7 1 0 1 ⟨#[]⟩ ⟨#[]⟩ ⟨by unfold I64;decide,by unfold I64;decide,by unfold I64;decide,by decide,by decide⟩;have e1:planP shortS tagS xS2 ⟨7,1,0,1,⟨#[]⟩,⟨#[]⟩⟩=([],4):=xl5;rw[e1] at q;exact q.mono fun e w' ⟨⟨A,c⟩,h1,h2,h3⟩=>⟨A,c,h1,h3⟩
theorem xp6{w:World}{g:Nat}{M:Ms}(h:StAt w g M xS2):Calls Tryz.prog 25 #[.pointer (some ⟨g,0,none⟩),.agg #[.int .i64 5,.int .i64 1,.int .i64 0,.int .i64 0,.string ⟨#[]⟩,.string ⟨#[116]⟩]] w fun e w'=>∃ A c,e=.returned (.tuple #[.slice A 0 c,.int .i64 0])∧Frm Nix w w':=by
 have q:=Plan_any h 5 1 0 0 ⟨#[]⟩ ⟨#[116]⟩ ⟨by unfold I64;decide,by unfold I64;decide,by unfold I64;decide,by decide,by decide⟩;have e1:planP shortS tagS xS2 ⟨5,1,0,0,⟨#[]⟩,⟨#[116]⟩⟩=([],0):=xl6;rw[e1] at q;exact q.mono fun e w' ⟨⟨A,c⟩,h1,h2,h3⟩=>⟨A,c,h1,h3⟩
theorem xp7{w:World}{g:Nat}{M:Ms}(h:StAt w g M xS2):Calls Tryz.prog 25 #[.pointer (some ⟨g,0,none⟩),.agg #[.int .i64 0,.int .i64 0,.int .i64 0,.int .i64 0,.string ⟨#[]⟩,.string ⟨#[]⟩]] w fun e w'=>∃ A c,e=.returned (.tuple #[.slice A 0 c,.int .i64 1])∧Frm Nix w w':=by
 have q:=Plan_any h 0 0 0 0 ⟨#[]⟩ ⟨#[]⟩ ⟨by unfold I64;decide,by unfold I64;decide,by unfold I64;decide,by decide,by decide⟩;have e1:planP shortS tagS xS2 ⟨0,0,0,0,⟨#[]⟩,⟨#[]⟩⟩=([],1):=xl7;rw[e1] at q;exact q.mono fun e w' ⟨⟨A,c⟩,h1,h2,h3⟩=>⟨A,c,h1,h3⟩
theorem xu8{w:World}{g:Nat}{M:Ms}(h:StAt w g M xS2):Calls Tryz.prog 32 #[.pointer (some ⟨g,0,none⟩),.agg #[.int .i64 4,.int .i64 1,.int .i64 0,.int .i64 0,.string ⟨#[]⟩,.string ⟨#[]⟩]] w fun e w'=>∃ A c,e=.returned (.tuple #[.slice A 1 c,.bool true])∧SlIn w' (fun k=>w.heap.size≤k) 7 (A,c) ([xE2]:List Ev).length (([xE2]:List Ev).flatMap Ev.cells)∧Frm Nix w w':=by
 have q:=Undo_any h 4 1 0 0 ⟨#[]⟩ ⟨#[]⟩ ⟨by unfold I64;decide,by unfold I64;decide,by unfold I64;decide,by decide,by decide⟩;have e1:undoP xS2 ⟨4,1,0,0,⟨#[]⟩,⟨#[]⟩⟩=([xE2],true):=xl8;rw[e1] at q;exact q.mono fun e w' ⟨⟨A,c⟩,h1,h2,h3⟩=>⟨A,c,h1,h2,h3⟩
theorem xu9{w:World}{g:Nat}{M:Ms}(h:StAt w g M xS2):Calls Tryz.prog 32 #[.pointer (some ⟨g,0,none⟩),.agg #[.int .i64 14,.int .i64 0,.int .i64 0,.int .i64 5,.string ⟨#[]⟩,.string ⟨#[]⟩]] w fun e w'=>∃ A c,e=.returned (.tuple #[.slice A 0 c,.bool false])∧SlIn w' (fun k=>w.heap.size≤k) 7 (A,c) ([]:List Ev).length (([]:List Ev).flatMap Ev.cells)∧Frm Nix w w':=by
 have q:=Undo_any h 14 0 0 5 ⟨#[]⟩ ⟨#[]⟩ ⟨by unfold I64;decide,by unfold I64;decide,by unfold I64;decide,by decide,by decide⟩;have e1:undoP xS2 ⟨14,0,0,5,⟨#[]⟩,⟨#[]⟩⟩=([],false):=xl9;rw[e1] at q;exact q.mono fun e w' ⟨⟨A,c⟩,h1,h2,h3⟩=>⟨A,c,h1,h2,h3⟩
theorem xn10{w:World}{g:Nat}{M:Ms}(h:StAt w g M xS2):Calls Tryz.prog 36 #[.pointer (some ⟨g,0,none⟩),.int .i64 1] w fun e w'=>∃ A c,e=.returned (.slice A 1 c)∧SlIn w' (fun k=>w.heap.size≤k) 1 (A,c) ([1]:List Int).length (([1]:List Int).flatMap fun i=>[kI i])∧Frm Nix w w':=by
 have q:=Under_any h (i:=1) ⟨by decide,by decide⟩;rw[xl10] at q;exact q
theorem lives22_any(w:World):Calls Tryz.prog 23 #[] w fun e w'=>e=.returned (.bool true)∧Frm Nix w w':=by
 go_enter Tryz.func23,Tryz.ntmps23;show Code.wp Tryz.prog (peel 0 (bodyOf Tryz.f23)) _ _ _
 refine peelK (k':=1) fun K hK=>?_
 conv in hdC _=>whnf
 go_wp2;refine peelK (k':=2) fun K hK=>?_
 conv in hdC _=>whnf
 go_wp2_with (first | (go_at_call 50;refine(New_any _).mono ?_;rintro e w1 ⟨g,M,rfl,hs,hf,hg⟩;have H1:=h_ hs;have Z1:=h_ hf;have HG:=h_ hg;clear hs hf hg) | fail);refine peelK (k':=3) fun K hK=>?_
 conv in hdC _=>whnf
 go_wp2;refine peelK (k':=4) fun K hK=>?_
 conv in hdC _=>whnf
 go_wp2_with (first | (go_at_call 29;refine(xd1 H1.out).mono ?_;rintro e w2 ⟨Aa,ca,rfl,hv,hs,hf⟩;have SA2:=h_ hv;have H2:=h_ hs;have Y2:=h_ hf;have Z2:Hid (Frm Nix w w2):=frm_own Z1.out hf HG.out;clear hv hs hf) | fail);refine peelK (k':=5) fun K hK=>?_
 conv in hdC _=>whnf
 go_wp2_with (first | (go_at_call 29;refine(xd2 H2.out).mono ?_;rintro e w3 ⟨Ab,cb,rfl,hv,hs,hf⟩;have SB3:=h_ hv;have SA3:=h_ (SA2.out.frm hf fun k hk hk2=>by(have:=H1.out.lt k hk2;omega));have H3:=h_ hs;have Z3:Hid (Frm Nix w w3):=frm_own Z2.out hf HG.out;clear hv hs hf) | fail);refine peelK (k':=6) fun K hK=>?_
 conv in hdC _=>whnf
 have Y3z:Hid (Frm Nix w3 w3):=Frm.refl _ _;go_wp2_with (first | (go_at_call 25;refine(xp3 (H3.out.nix Y3z.out)).mono ?_;rintro e w4 ⟨A4,c4,rfl,hf⟩;have Y4z:Hid (Frm Nix w3 w4):=Y3z.out.trans hf;clear hf) | fail);refine peelK (k':=7) fun K hK=>?_
 conv in hdC _=>whnf
 go_wp2_with (first | (go_at_call 25;refine(xp4 (H3.out.nix Y4z.out)).mono ?_;rintro e w5 ⟨A5,c5,rfl,hf⟩;have Y5z:Hid (Frm Nix w3 w5):=Y4z.out.trans hf;clear hf) | fail);refine peelK (k':=8) fun K hK=>?_
 conv in hdC _=>whnf
 go_wp2_with (first | (go_at_call 25;refine(xp5 (H3.out.nix Y5z.out)).mono ?_;rintro e w6 ⟨A6,c6,rfl,hf⟩;have Y6z:Hid (Frm Nix w3 w6):=Y5z.out.trans hf;clear hf) | fail);refine peelK (k':=9) fun K hK=>?_
 conv in hdC _=>whnf
 go_wp2_with (first | (go_at_call 25;refine(xp6 (H3.out.nix Y6z.out)).mono ?_;rintro e w7 ⟨A7,c7,rfl,hf⟩;have Y7z:Hid (Frm Nix w3 w7):=Y6z.out.trans hf;clear hf) | fail);refine peelK (k':=10) fun K hK=>?_
 conv in hdC _=>whnf
 go_wp2_with (first | (go_at_call 25;refine(xp7 (H3.out.nix Y7z.out)).mono ?_;rintro e w8 ⟨A8,c8,rfl,hf⟩;have Y8z:Hid (Frm Nix w3 w8):=Y7z.out.trans hf;clear hf) | fail);refine peelK (k':=11) fun K hK=>?_
 conv in hdC _=>whnf
 go_wp2_with (first | (go_at_call 32;refine(xu8 (H3.out.nix Y8z.out)).mono ?_;rintro e w9 ⟨Au,cu,rfl,hv,hf⟩;have SU9:=h_ hv;have Y9z:Hid (Frm Nix w3 w9):=Y8z.out.trans hf;clear hv hf) | fail);refine peelK (k':=12) fun K hK=>?_
 conv in hdC _=>whnf
 go_wp2_with (first | (go_at_call 32;refine(xu9 (H3.out.nix Y9z.out)).mono ?_;rintro e w10 ⟨Ax,cx,rfl,-,hf⟩;have SU10:=h_ (SU9.out.nix hf);have Y10z:Hid (Frm Nix w3 w10):=Y9z.out.trans hf;clear hf) | fail);refine peelK (k':=13) fun K hK=>?_
 conv in hdC _=>whnf
 go_wp2_with (first | (go_at_call 36;refine(xn10 (H3.out.nix Y10z.out)).mono ?_;rintro e w11 ⟨Al,cl,rfl,hv,hf⟩;have SU11:=h_ (SU10.out.nix hf);have SL11:=h_ hv;have Y11z:Hid (Frm Nix w3 w11):=Y10z.out.trans hf;clear hv hf) | fail);obtain⟨ba,oa,hAa,-,hba,hca⟩:=(SA3.out.nix Y11z.out).at_ Ev.clen (by decide) (by decide);obtain⟨bb,ob,hAb,-,hbb,hcb⟩:=(SB3.out.nix Y11z.out).at_ Ev.clen (by decide) (by decide);obtain⟨bu,ou,hAu,-,hbu,hcu⟩:=SU11.out.at_ Ev.clen (by decide) (by decide);obtain⟨bl,ol,hAl,-,hbl,hcl⟩:=SL11.out.at_ (f:=fun i=>[kI i]) (fun _=>rfl) (by decide) (by decide);dsimp only at hAa hAb hAu hAl;subst hAa;subst hAb;subst hAu;subst hAl;obtain⟨a0,a1,a2,a3,a4,a5,a6⟩:=evc7 (w:=w11) (b:=ba) (off:=oa+0 * 7) (e:=xE1) (hca 0 (by decide));obtain⟨b0,b1,b2,b3,b4,b5,b6⟩:=evc7 (w:=w11) (b:=bb) (off:=ob+0 * 7) (e:=xE2) (hcb 0 (by decide));obtain⟨u0,u1,u2,u3,u4,u5,u6⟩:=evc7 (w:=w11) (b:=bu) (off:=ou+0 * 7) (e:=xE2) (hcu 0 (by decide));have l0:=hcl 0 (by decide) 0 _ rfl;simp only[xE1,xE2,eS,xAB,xU,xT,Nat.zero_mul,Nat.add_zero] at a0 a1 a2 a3 a4 a5 a6 b0 b1 b2 b3 b4 b5 b6 u0 u1 u2 u3 u4 u5 u6 l0;clear hca hcb hcu hcl;refine peelK (k':=14) fun K hK=>?_
 conv in hdC _=>whnf
 go_wp2;refine peelK (k':=15) fun K hK=>?_
 conv in hdC _=>whnf
 go_wp2;simp only[peel,bodyOf,Tryz.f23]
 have KS:Hid (∀ W,Calls Tryz.prog 34 #[.string ⟨#[32,97,32,98]⟩,.int .i64 2] W fun e w'=>e=.returned (.string ⟨#[97]⟩)∧Frm Nix W w'):=fun W=>by
  have q:=Short_any ⟨#[32,97,32,98]⟩ (by decide) 2 W;rw[xl11] at q;exact q
 go_wp2
 have HC:Hid (∀ W,Frm Nix (w11.alloc (.cells #[.int .i64 3,.int .i64 1,.int .i64 1,.int .i64 0,.string ⟨#[117]⟩,.string ⟨#[116]⟩,.string ⟨#[]⟩] 43)) W→(W.cell? ⟨ba,oa,none⟩=some (.int .i64 1)∧W.cell? ⟨ba,oa+1,none⟩=some (.int .i64 1)∧W.cell? ⟨ba,oa+2,none⟩=some (.int .i64 0)∧W.cell? ⟨ba,oa+3,none⟩=some (.int .i64 0)∧W.cell? ⟨ba,oa+4,none⟩=some (.string ⟨#[97,32,98]⟩)∧W.cell? ⟨ba,oa+5,none⟩=some (.string ⟨#[]⟩)∧W.cell? ⟨ba,oa+6,none⟩=some (.string ⟨#[]⟩))∧(W.cell? ⟨bb,ob,none⟩=some (.int .i64 3)∧W.cell? ⟨bb,ob+1,none⟩=some (.int .i64 1)∧W.cell? ⟨bb,ob+2,none⟩=some (.int .i64 1)∧W.cell? ⟨bb,ob+3,none⟩=some (.int .i64 0)∧W.cell? ⟨bb,ob+4,none⟩=some (.string ⟨#[117]⟩)∧W.cell? ⟨bb,ob+5,none⟩=some (.string ⟨#[116]⟩)∧W.cell? ⟨bb,ob+6,none⟩=some (.string ⟨#[]⟩))∧(W.cell? ⟨bu,ou,none⟩=some (.int .i64 3)∧W.cell? ⟨bu,ou+1,none⟩=some (.int .i64 1)∧W.cell? ⟨bu,ou+2,none⟩=some (.int .i64 1)∧W.cell? ⟨bu,ou+3,none⟩=some (.int .i64 0)∧W.cell? ⟨bu,ou+4,none⟩=some (.string ⟨#[117]⟩)∧W.cell? ⟨bu,ou+5,none⟩=some (.string ⟨#[116]⟩)∧W.cell? ⟨bu,ou+6,none⟩=some (.string ⟨#[]⟩))∧W.cell? ⟨bl,ol,none⟩=some (.int .i64 1)∧(W.cell? ⟨w11.heap.size,0,none⟩=some (.int .i64 3)∧W.cell? ⟨w11.heap.size,1,none⟩=some (.int .i64 1)∧W.cell? ⟨w11.heap.size,2,none⟩=some (.int .i64 1)∧W.cell? ⟨w11.heap.size,3,none⟩=some (.int .i64 0)∧W.cell? ⟨w11.heap.size,4,none⟩=some (.string ⟨#[117]⟩)∧W.cell? ⟨w11.heap.size,5,none⟩=some (.string ⟨#[116]⟩)∧W.cell? ⟨w11.heap.size,6,none⟩=some (.string ⟨#[]⟩))):=fun W hW=>by
  have hW2:Frm Nix w11 W:=((fR w11).alloc _).trans hW;exact⟨⟨(hW2.cell (p:=⟨ba,oa,none⟩) hba id).trans a0,(hW2.cell (p:=⟨ba,oa+1,none⟩) hba id).trans a1,(hW2.cell (p:=⟨ba,oa+2,none⟩) hba id).trans a2,(hW2.cell (p:=⟨ba,oa+3,none⟩) hba id).trans a3,(hW2.cell (p:=⟨ba,oa+4,none⟩) hba id).trans a4,(hW2.cell (p:=⟨ba,oa+5,none⟩) hba id).trans a5,(hW2.cell (p:=⟨ba,oa+6,none⟩) hba id).trans a6⟩,⟨(hW2.cell (p:=⟨bb,ob,none⟩) hbb id).trans b0,(hW2.cell (p:=⟨bb,ob+1,none⟩) hbb id).trans b1,(hW2.cell (p:=⟨bb,ob+2,none⟩) hbb id).trans b2,(hW2.cell (p:=⟨bb,ob+3,none⟩) hbb id).trans b3,(hW2.cell (p:=⟨bb,ob+4,none⟩) hbb id).trans b4,(hW2.cell (p:=⟨bb,ob+5,none⟩) hbb id).trans b5,(hW2.cell (p:=⟨bb,ob+6,none⟩) hbb id).trans b6⟩,⟨(hW2.cell (p:=⟨bu,ou,none⟩) hbu id).trans u0,(hW2.cell (p:=⟨bu,ou+1,none⟩) hbu id).trans u1,(hW2.cell (p:=⟨bu,ou+2,none⟩) hbu id).trans u2,(hW2.cell (p:=⟨bu,ou+3,none⟩) hbu id).trans u3,(hW2.cell (p:=⟨bu,ou+4,none⟩) hbu id).trans u4,(hW2.cell (p:=⟨bu,ou+5,none⟩) hbu id).trans u5,(hW2.cell (p:=⟨bu,ou+6,none⟩) hbu id).trans u6⟩,(hW2.cell (p:=⟨bl,ol,none⟩) hbl id).trans l0,blk7 ((Blk.new w11 43 #[.int .i64 3,.int .i64 1,.int .i64 1,.int .i64 0,.string ⟨#[117]⟩,.string ⟨#[116]⟩,.string ⟨#[]⟩]).frm hW id)⟩
 clear a0 a1 a2 a3 a4 a5 a6 b0 b1 b2 b3 b4 b5 b6 u0 u1 u2 u3 u4 u5 u6 l0
 try simp only[List.append_eq,List.cons_append,List.nil_append]
 go_region_held3 (fun W=>(W.cell? ⟨ba,oa,none⟩=some (.int .i64 1)∧W.cell? ⟨ba,oa+1,none⟩=some (.int .i64 1)∧W.cell? ⟨ba,oa+2,none⟩=some (.int .i64 0)∧W.cell? ⟨ba,oa+3,none⟩=some (.int .i64 0)∧W.cell? ⟨ba,oa+4,none⟩=some (.string ⟨#[97,32,98]⟩)∧W.cell? ⟨ba,oa+5,none⟩=some (.string ⟨#[]⟩)∧W.cell? ⟨ba,oa+6,none⟩=some (.string ⟨#[]⟩))∧(W.cell? ⟨bb,ob,none⟩=some (.int .i64 3)∧W.cell? ⟨bb,ob+1,none⟩=some (.int .i64 1)∧W.cell? ⟨bb,ob+2,none⟩=some (.int .i64 1)∧W.cell? ⟨bb,ob+3,none⟩=some (.int .i64 0)∧W.cell? ⟨bb,ob+4,none⟩=some (.string ⟨#[117]⟩)∧W.cell? ⟨bb,ob+5,none⟩=some (.string ⟨#[116]⟩)∧W.cell? ⟨bb,ob+6,none⟩=some (.string ⟨#[]⟩))∧(W.cell? ⟨bu,ou,none⟩=some (.int .i64 3)∧W.cell? ⟨bu,ou+1,none⟩=some (.int .i64 1)∧W.cell? ⟨bu,ou+2,none⟩=some (.int .i64 1)∧W.cell? ⟨bu,ou+3,none⟩=some (.int .i64 0)∧W.cell? ⟨bu,ou+4,none⟩=some (.string ⟨#[117]⟩)∧W.cell? ⟨bu,ou+5,none⟩=some (.string ⟨#[116]⟩)∧W.cell? ⟨bu,ou+6,none⟩=some (.string ⟨#[]⟩))∧W.cell? ⟨bl,ol,none⟩=some (.int .i64 1)∧(W.cell? ⟨w11.heap.size,0,none⟩=some (.int .i64 3)∧W.cell? ⟨w11.heap.size,1,none⟩=some (.int .i64 1)∧W.cell? ⟨w11.heap.size,2,none⟩=some (.int .i64 1)∧W.cell? ⟨w11.heap.size,3,none⟩=some (.int .i64 0)∧W.cell? ⟨w11.heap.size,4,none⟩=some (.string ⟨#[117]⟩)∧W.cell? ⟨w11.heap.size,5,none⟩=some (.string ⟨#[116]⟩)∧W.cell? ⟨w11.heap.size,6,none⟩=some (.string ⟨#[]⟩))) ((refine HC.out _ ?_;repeat' (first | with_reducible exact Frm.refl _ _ | with_reducible exact Y12.out | with_reducible apply Frm.drew)))
  (first
   | (go_at_call 34;refine(KS.out _).mono ?_;rintro e w12 ⟨rfl,hf⟩;have Y12:Hid (Frm Nix (w11.alloc (.cells #[.int .i64 3,.int .i64 1,.int .i64 1,.int .i64 0,.string ⟨#[117]⟩,.string ⟨#[116]⟩,.string ⟨#[]⟩] 43)) w12):=(fR _).drew.trans hf;clear hf))
 all_goals
  go_wp2;go_ret;exact⟨rfl,((Z3.out.trans Y11z.out).alloc _).trans Y12.out⟩
end Go.Proofs.YtdihmpakglakdaaGreat
