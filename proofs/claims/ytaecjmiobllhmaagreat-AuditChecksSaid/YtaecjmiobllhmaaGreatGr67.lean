/- Words. -/
import Derived.Test.YtaecjmiobllhmaaGreatGr66
set_option linter.unusedVariables false
set_option linter.unusedSimpArgs false
set_option maxRecDepth 100000
set_option maxHeartbeats 16000000
namespace Go.Proofs.YtaecjmiobllhmaaGreat
open Go.Value renaming int→I,string→V,slice→U,pointer→O
open Go.IntKind renaming i64→J
open Tryz renaming prog→pQ
open Go.RowKit Go.Lib
variable {w:World}{fo fe it se:Sl}{ts:List (Sl×aR)}{x:St}{G:Nat→Prop}{a b n:Int}{s t u:ByteArray}
theorem tJ{W:World}{g:Nat}{tmps:Array Value}{a0 a1 a2 a3 a4 a5 a6 a7 a8:Value}(hb:aj W g 36 #[a0,a1,a2,a3,a4,a5,a6,a7,a8])(h2:tmps.getD 4 undef=O (some ⟨g,0,none⟩)):
  (results Tryz.f31 tmps).run pQ W=.ok (.agg #[a0,a1,a2,a3,a4,a5,a6,a7,a8]) W:=by
 obtain⟨c0,c1,c2,c3,c4,c5,c6,c7,c8⟩:=aA hb;have h2':tmps[4]?.getD undef=O (some ⟨g,0,none⟩):=by simpa using h2
 simp[results,Tryz.results31,h2',go_sem,c0,c1,c2,c3,c4,c5,c6,c7,c8]
theorem DD(hS:aY w G fo fe it se ts x)(hsm:aP x):
  Calls pQ 31 #[cC fo fe it se x,bQ ⟨1,a,b,n,s,t,u⟩] w λr w'=>∃(fo':Sl),r=.returned (cC fo' fe it se {x with fols:=(cA bh.id ⟨a,b,s⟩ x.fols),tFol:=max x.tFol a})∧aY w' (λk=>G k∨w.heap.size≤k) fo' fe it se ts {x with fols:=(cA bh.id ⟨a,b,s⟩ x.fols),tFol:=max x.tFol a}∧aa ag w w':=by
 obtain⟨w0,hw0,hf0,hb1,hb2,hb3⟩:=gP w fo fe it se x 1 a b n s t u;have cm:=hsm.fols;have gG:=h_ hS;have HS:=h_ (hS.nix hf0);have bT:=h_ hb1;have im:=h_ hb2;have og:=h_ hb3;have bI:=h_ hf0;have HW:=h_ hw0;obtain⟨p,hp⟩:∃p,rN bh.id a x.fols=p:=⟨_,rfl⟩;have oh:p≤x.fols.length:=by rw[←hp];exact vq
 have yb:Hid (∀(j:Nat) (hj:j<x.fols.length),j<p→bh.id x.fols[j]<a):=λj hj h=>vr (by rw[hp];exact h) hj
 have Ep:Hid (∀hj:p<x.fols.length,¬bh.id x.fols[p]<a):=λhj=>by
  have:=@vu _ bh.id a x.fols (by rw[hp];exact hj);simp only[hp] at this;exact this
 have yh:Hid ((cA bh.id ⟨a,b,s⟩ x.fols)=x.fols.take p++(⟨a,b,s⟩:bh)::x.fols.drop p):=by
  have:=@rH _ bh.id (⟨a,b,s⟩:bh) x.fols;unfold Hid;rw[this];have e:rN bh.id (bh.id (⟨a,b,s⟩:bh)) x.fols=p:=hp;rw[e]
 have HDn:Hid ((cA bh.id ⟨a,b,s⟩ x.fols).length=p+1+(x.fols.length-p)):=by unfold Hid;rw[yh.out];simp;omega
 clear hS hsm hf0 hb1 hb2 hb3 hw0 hp;unfold cC bQ;dsimp only;obtain⟨A,c⟩:=fo;dsimp only at HS gG bT HW ⊢;go_enter Tryz.func31,Tryz.ntmps31;show Code.wp pQ (ai 0 (ae Tryz.f31)) _ _ _
 refine aC (k':=1) λK hK=>?_
 conv in aD _=>whnf
 go_wp2;rw[←HW.out];refine aC (k':=2) λK hK=>?_
 conv in aD _=>whnf
 go_wp2;obtain⟨e0,e1,e2,e3,e4,e5,e6⟩:=az im.out;obtain⟨x0,x1,x2,x3,x4,x5,x6,x7,x8⟩:=aA bT.out;refine aC (k':=3) λK hK=>?_
 conv in aD _=>whnf
 go_wp2
 go_loopw [5] (λkv wr=>∃k:Nat,k≤p∧kv=I J k∧aa ag w0 wr) (λkv _=>x.fols.length-(intOf kv).toNat)
 case atStart=>exact⟨0,by omega,rfl,aa.refl _ _⟩
 case round=>
  obtain⟨k,hk,rfl,hf⟩:=hrel;have HF:=h_ hf;clear x0 x1 x2 x3 x4 x5 x6 x7 x8 e0 e1 e2 e3 e4 e5 e6 hf;obtain⟨e0,e1,e2,e3,e4,e5,e6⟩:=az (im.out.frm HF.out id);obtain⟨x0,x1,x2,x3,x4,x5,x6,x7,x8⟩:=aA (bT.out.frm HF.out id)
  by_cases hlt:k<p
  ·have cQ:k<x.fols.length:=by omega
   obtain⟨g,off,hA,-,hbl,hcell⟩:=(HS.out.fols.nix HF.out).at_ bh.clen (by decide) (by omega);dsimp only at hA;subst hA;have p0:=hcell k cQ 0 _ rfl;rw[Nat.add_zero] at p0;have hid:=yb.out k cQ hlt;obtain⟨q,hq⟩:∃q,x.fols[k]=q:=⟨_,rfl⟩;rw[hq] at p0 hid;clear hcell hq;go_wp2;go_quiet (fail);go_wp2;go_roundw
   case rel=>exact⟨k+1,by omega,by go_num,HF.out.drewN _⟩
   case measure=>simp[intOf];omega
  ·obtain rfl:k=p:=by omega
   by_cases hend:k<x.fols.length
   case' neg=>
    go_wp2;go_quiet (fail)
   case' pos=>
    obtain⟨g,off,hA,-,hbl,hcell⟩:=(HS.out.fols.nix HF.out).at_ bh.clen (by decide) (by omega);dsimp only at hA;subst hA;have p0:=hcell k hend 0 _ rfl;rw[Nat.add_zero] at p0;have hid:=Ep.out hend;obtain⟨q,hq⟩:∃q,x.fols[k]=q:=⟨_,rfl⟩;rw[hq] at p0 hid;clear hcell hq;go_wp2;go_quiet (fail);generalize (some ⟨g,off,none⟩:Option Addr)=A at *
   all_goals
    obtain⟨wq,zA⟩:∃wq,wq=wr.drewN nq:=⟨_,rfl⟩;rw[←zA];have uJ:aa ag w0 wq:=by rw[zA];exact HF.out.drewN _
    have uY:=h_ uJ;clear zA x0 x1 x2 x3 x4 x5 x6 x7 x8 e0 e1 e2 e3 e4 e5 e6;have hs1:=(HS.out.fols).nix uJ;obtain⟨sv,rA,rc,wa,Gs,iJ,ol⟩:=tG tu (p:=k) hs1 (zx x.fols) (by exact cm) (by exact oh) (by omega);have fa:=ol.frm;obtain⟨⟨v11,zQ,v12,zR,B1,d1,Et,a1,a2,a3,a4,a5,a6⟩,⟨v21,xc,v22,zS,B2,d2,Eu,b1,b2,b3,b4,b5,b6⟩,⟨v31,zT,v32,zU,B3,d3,Ew,c1,c2,c3,c4,c5,c6⟩⟩:=rI tu (rc:=rc) (ys:=[I J a,I J b,V s]) (hs1.nix fa) ol.rd rfl (zx x.fols) (by intro z hz;simp at hz;rcases hz with rfl|rfl|rfl<;>rfl) (by exact cm) (by exact oh) (by omega);have ik:=bT.out.frm uJ id;have pn:=im.out.frm uJ id;have cx:∀{W:World},aa ag wq W→W.cell? ⟨w.heap.size,1,none⟩=some (U A x.fols.length c):=λhW=>((ik.frm hW id).cell 1).trans rfl
    have x1:=cx (fR wq);have m1:=cx ((fR wq).alloc (.cells #[] 79));have sF:=h_ (And.intro a5 (And.intro a6 (And.intro b5 (And.intro b6 (And.intro c5 c6)))));have bo:=h_ a4;have gF:=h_ b4;have nG:=h_ c4;have ug:=h_ fa;have FB:(0:Int)≤(k:Int):=Int.natCast_nonneg _;have zw:=hs1.cap;have hmx:=hs1.max;dsimp only at zw hmx;have FC:=Int.ofNat_le.2 (Nat.le_trans (show k≤_ by exact oh) zw);have FD:(k:Int)≤(x.fols.length:Int):=by omega
    clear cx a4 b4 c4 a5 a6 b5 b6 c5 c6 fa ik pn ol hs1 hlt;skip;have DF:k≤x.fols.length:=oh;skip;have MU:=h_ Gs;clear Gs;go_wp2_with (first|(refine jL tu _ _ rfl rfl rfl rfl DF MU.out ?_)|(at_builtin;refine aq iJ rfl _ _ rfl rfl rfl ?_));refine MO (bs:=w.heap.size) (bT.out.frm (uY.out.trans ug.out) id) rfl (im.out.frm (uY.out.trans ug.out) id) (show k≤x.fols.length from oh) zw hmx a1 a2 a3 bo.out sF.out.1 sF.out.2.1 b1 b2 b3 gF.out sF.out.2.2.1 sF.out.2.2.2.1 c1 c2 c3 nG.out sF.out.2.2.2.2.1 sF.out.2.2.2.2.2 (λ_ _ _ _ _ h=>h) ?_;rintro wc A' c' z0 z5 yf Bt hr;have HR:=h_ hr;obtain⟨wd,hwd⟩:∃wd,wd=wc.setCell ⟨w.heap.size,1,none⟩ (U A' (k+1+(x.fols.length-k)) c'):=⟨_,rfl⟩;rw[←hwd];clear a1 a2 a3 b1 b2 b3 c1 c2 c3 iJ sF bo gF nG hr;have fC:aa ag w0 wc:=(uY.out.trans ug.out).trans HR.out.frm;have rJ:aj wd w.heap.size 36 #[I J x.clock,U A' (k+1+(x.fols.length-k)) c',U fe.1 x.fees.length fe.2,U it.1 x.itms.length it.2,U se.1 x.seas.length se.2,I J x.tFol,I J x.tFee,I J x.tItm,I J x.tSea]:=by rw[hwd];exact((bT.out.frm fC id).set_ 1 _)
    have fd:aa (λk=>k=w.heap.size) wc wd:=by rw[hwd];exact(aa.refl (λk=>k=w.heap.size) wc).setCell (.inl rfl) _
    have l5:aj wd (w.heap.size+1) 42 _:=(im.out.frm fC id).frm fd (by simp);obtain⟨z0,z1,z2,z3,z4,z5,z6,z7,z8⟩:=aA rJ;obtain⟨e0,e1,e2,e3,e4,e5,e6⟩:=az l5;have g0:=rJ.frozen 5;have qy:=h_ rJ;have ul:=h_ fd;have Iw:=h_ fC;clear rJ fd fC l5 hwd;go_wp2_with (go_at_call 80;refine(tF _ _ _).mono ?_;rintro r w' ⟨rfl,rfl⟩);obtain⟨wf,qz⟩:∃wf,wf=wd.setCell ⟨w.heap.size,5,none⟩ (I J (max x.tFol a)):=⟨_,rfl⟩;rw[←qz];have uU:aj wf w.heap.size 36 #[I J x.clock,U A' (k+1+(x.fols.length-k)) c',U fe.1 x.fees.length fe.2,U it.1 x.itms.length it.2,U se.1 x.seas.length se.2,I J (max x.tFol a),I J x.tFee,I J x.tItm,I J x.tSea]:=by rw[qz];exact(qy.out.set_ 5 _)
    have ff:aa (λk=>k=w.heap.size) wd wf:=by rw[qz];exact(aa.refl (λk=>k=w.heap.size) wd).setCell (.inl rfl) _
    have hb4:aj wf (w.heap.size+1+1) 36 #[I J 0,U none 0 0,U none 0 0,U none 0 0,U none 0 0,I J 0,I J 0,I J 0,I J 0]:=((og.out.frm Iw.out id).frm ul.out (by simp)).frm ff (by simp);clear z0 z1 z2 z3 z4 z5 z6 z7 z8 e0 e1 e2 e3 e4 e5 e6 g0;obtain⟨z0,z1,z2,z3,z4,z5,z6,z7,z8⟩:=aA uU;obtain⟨y0,y1,y2,y3,y4,y5,y6,y7,y8⟩:=aA hb4;have g0:=hb4.frozen 0;have g1:=hb4.frozen 1;have g2:=hb4.frozen 2;have g3:=hb4.frozen 3;have g4:=hb4.frozen 4;have g5:=hb4.frozen 5;have g6:=hb4.frozen 6;have g7:=hb4.frozen 7;have g8:=hb4.frozen 8;obtain⟨we,gq⟩:∃we,we=wf.setCells (w.heap.size+1+1) 0 [I J x.clock,U A' (k+1+(x.fols.length-k)) c',U fe.1 x.fees.length fe.2,U it.1 x.itms.length it.2,U se.1 x.seas.length se.2,I J (max x.tFol a),I J x.tFee,I J x.tItm,I J x.tSea]:=⟨_,rfl⟩
    have hbg:aj we (w.heap.size+1+1) 36 #[I J x.clock,U A' (k+1+(x.fols.length-k)) c',U fe.1 x.fees.length fe.2,U it.1 x.itms.length it.2,U se.1 x.seas.length se.2,I J (max x.tFol a),I J x.tFee,I J x.tItm,I J x.tSea]:=by
     have:=aj.putL [I J x.clock,U A' (k+1+(x.fols.length-k)) c',U fe.1 x.fees.length fe.2,U it.1 x.itms.length it.2,U se.1 x.seas.length se.2,I J (max x.tFol a),I J x.tFee,I J x.tItm,I J x.tSea] 0 hb4;rw[kK] at this;rw[gq];exact this
    have fg:aa (λk=>k=w.heap.size+1+1) wf we:=by rw[gq];exact aa.setCells _ 0 (aa.refl _ _) (.inl rfl)
    have DG:aa (λk=>k=w.heap.size∨k=w.heap.size+1+1) wc we:=((ul.out.mono λk hk=>.inl hk).trans (ff.mono λk hk=>.inl hk)).trans (fg.mono λk hk=>.inr hk);have hsz:=(bI.out.trans (uY.out.trans ug.out)).size;have hL:=og.out.frm (uY.out.trans ug.out) id |>.lt
    have hF:aa ag w we:=((bI.out.trans Iw.out)).next DG (λk hk=>.inr (by rcases hk with hk|hk<;>omega))
    have cL:aF we (λk=>wa.heap.size≤k) 3 (A',c') (k+1+(x.fols.length-k)) ((x.fols.flatMap bh.cells).take (k * 3)++[I J a,I J b,V s]++(x.fols.flatMap bh.cells).drop (k * 3)):=HR.out.sl.frm DG λk hk e=>by rcases e with e|e<;>omega
    have FH:Hid (aF we (λk=>w.heap.size≤k) 3 (A',c') (cA bh.id ⟨a,b,s⟩ x.fols).length ((cA bh.id ⟨a,b,s⟩ x.fols).flatMap bh.cells)):=by
     have e1:=gy bh.clen x.fols k;have e2:=mn bh.clen x.fols k;have e3:[I J a,I J b,V s]=bh.cells ⟨a,b,s⟩:=rfl
     (try simp only at cL)
     rw[e1,e2,e3,List.append_assoc,←List.flatMap_cons,←List.flatMap_append,←yh.out,←HDn.out] at cL;exact cL.mono λk hk=>Nat.le_trans hsz hk
    have bK:=h_ hF;have lS:=h_ hbg;clear uU ff hb4 hF DG cL hsz hbg fg qz;go_wp2
    all_goals
     simp only[ai,ae,Tryz.f31];go_wp2
     all_goals
      simp only[World.setCells] at gq;rw[←gq];refine bodyPost_ret (tJ lS.out rfl) rfl ?_;refine⟨(A',c'),?_,⟨FH.out.mono λk hk=>.inr hk,((gG.out.nix bK.out).fees).mono λk hk=>.inl hk,((gG.out.nix bK.out).itms).mono λk hk=>.inl hk,gG.out.same,((gG.out.nix bK.out).seas).mono λk hk=>.inl hk⟩,bK.out⟩;rw[HDn.out]
theorem DI(hS:aY w G fo fe it se ts x)(hsm:aP x):
  Calls pQ 31 #[cC fo fe it se x,bQ ⟨3,a,b,n,s,t,u⟩] w λr w'=>∃(fe':Sl),r=.returned (cC fo fe' it se {x with fees:=(cA aX.id ⟨a,b,s,t⟩ x.fees),tFee:=max x.tFee a})∧aY w' (λk=>G k∨w.heap.size≤k) fo fe' it se ts {x with fees:=(cA aX.id ⟨a,b,s,t⟩ x.fees),tFee:=max x.tFee a}∧aa ag w w':=by
 obtain⟨w0,hw0,hf0,hb1,hb2,hb3⟩:=gP w fo fe it se x 3 a b n s t u;have cm:=hsm.fees;have gG:=h_ hS;have HS:=h_ (hS.nix hf0);have bT:=h_ hb1;have im:=h_ hb2;have og:=h_ hb3;have bI:=h_ hf0;have HW:=h_ hw0;obtain⟨p,hp⟩:∃p,rN aX.id a x.fees=p:=⟨_,rfl⟩;have oh:p≤x.fees.length:=by rw[←hp];exact vq
 have yb:Hid (∀(j:Nat) (hj:j<x.fees.length),j<p→aX.id x.fees[j]<a):=λj hj h=>vr (by rw[hp];exact h) hj
 have Ep:Hid (∀hj:p<x.fees.length,¬aX.id x.fees[p]<a):=λhj=>by
  have:=@vu _ aX.id a x.fees (by rw[hp];exact hj);simp only[hp] at this;exact this
 have yh:Hid ((cA aX.id ⟨a,b,s,t⟩ x.fees)=x.fees.take p++(⟨a,b,s,t⟩:aX)::x.fees.drop p):=by
  have:=@rH _ aX.id (⟨a,b,s,t⟩:aX) x.fees;unfold Hid;rw[this];have e:rN aX.id (aX.id (⟨a,b,s,t⟩:aX)) x.fees=p:=hp;rw[e]
 have HDn:Hid ((cA aX.id ⟨a,b,s,t⟩ x.fees).length=p+1+(x.fees.length-p)):=by unfold Hid;rw[yh.out];simp;omega
 clear hS hsm hf0 hb1 hb2 hb3 hw0 hp;unfold cC bQ;dsimp only;obtain⟨A,c⟩:=fe;dsimp only at HS gG bT HW ⊢;go_enter Tryz.func31,Tryz.ntmps31;show Code.wp pQ (ai 0 (ae Tryz.f31)) _ _ _
 refine aC (k':=1) λK hK=>?_
 conv in aD _=>whnf
 go_wp2;rw[←HW.out];refine aC (k':=2) λK hK=>?_
 conv in aD _=>whnf
 go_wp2;obtain⟨e0,e1,e2,e3,e4,e5,e6⟩:=az im.out;obtain⟨x0,x1,x2,x3,x4,x5,x6,x7,x8⟩:=aA bT.out;refine aC (k':=3) λK hK=>?_
 conv in aD _=>whnf
 go_wp2
 go_loopw [5] (λkv wr=>∃k:Nat,k≤p∧kv=I J k∧aa ag w0 wr) (λkv _=>x.fees.length-(intOf kv).toNat)
 case atStart=>exact⟨0,by omega,rfl,aa.refl _ _⟩
 case round=>
  obtain⟨k,hk,rfl,hf⟩:=hrel;have HF:=h_ hf;clear x0 x1 x2 x3 x4 x5 x6 x7 x8 e0 e1 e2 e3 e4 e5 e6 hf;obtain⟨e0,e1,e2,e3,e4,e5,e6⟩:=az (im.out.frm HF.out id);obtain⟨x0,x1,x2,x3,x4,x5,x6,x7,x8⟩:=aA (bT.out.frm HF.out id)
  by_cases hlt:k<p
  ·have cQ:k<x.fees.length:=by omega
   obtain⟨g,off,hA,-,hbl,hcell⟩:=(HS.out.fees.nix HF.out).at_ aX.clen (by decide) (by omega);dsimp only at hA;subst hA;have p0:=hcell k cQ 0 _ rfl;rw[Nat.add_zero] at p0;have hid:=yb.out k cQ hlt;obtain⟨q,hq⟩:∃q,x.fees[k]=q:=⟨_,rfl⟩;rw[hq] at p0 hid;clear hcell hq;go_wp2;go_quiet (fail);go_wp2;go_roundw
   case rel=>exact⟨k+1,by omega,by go_num,HF.out.drewN _⟩
   case measure=>simp[intOf];omega
  ·obtain rfl:k=p:=by omega
   by_cases hend:k<x.fees.length
   case' neg=>
    go_wp2;go_quiet (fail)
   case' pos=>
    obtain⟨g,off,hA,-,hbl,hcell⟩:=(HS.out.fees.nix HF.out).at_ aX.clen (by decide) (by omega);dsimp only at hA;subst hA;have p0:=hcell k hend 0 _ rfl;rw[Nat.add_zero] at p0;have hid:=Ep.out hend;obtain⟨q,hq⟩:∃q,x.fees[k]=q:=⟨_,rfl⟩;rw[hq] at p0 hid;clear hcell hq;go_wp2;go_quiet (fail);generalize (some ⟨g,off,none⟩:Option Addr)=A at *
   all_goals
    obtain⟨wq,zA⟩:∃wq,wq=wr.drewN nq:=⟨_,rfl⟩;rw[←zA];have uJ:aa ag w0 wq:=by rw[zA];exact HF.out.drewN _
    have uY:=h_ uJ;clear zA x0 x1 x2 x3 x4 x5 x6 x7 x8 e0 e1 e2 e3 e4 e5 e6;have hs1:=(HS.out.fees).nix uJ;obtain⟨sv,rA,rc,wa,Gs,iJ,ol⟩:=tG qw (p:=k) hs1 (tI x.fees) (by exact cm) (by exact oh) (by omega);have fa:=ol.frm;obtain⟨⟨v11,zQ,v12,zR,B1,d1,Et,a1,a2,a3,a4,a5,a6⟩,⟨v21,xc,v22,zS,B2,d2,Eu,b1,b2,b3,b4,b5,b6⟩,⟨v31,zT,v32,zU,B3,d3,Ew,c1,c2,c3,c4,c5,c6⟩⟩:=rI qw (rc:=rc) (ys:=[I J a,I J b,V s,V t]) (hs1.nix fa) ol.rd rfl (tI x.fees) (by intro z hz;simp at hz;rcases hz with rfl|rfl|rfl|rfl<;>rfl) (by exact cm) (by exact oh) (by omega);have ik:=bT.out.frm uJ id;have pn:=im.out.frm uJ id;have cx:∀{W:World},aa ag wq W→W.cell? ⟨w.heap.size,2,none⟩=some (U A x.fees.length c):=λhW=>((ik.frm hW id).cell 2).trans rfl
    have x2:=cx (fR wq);have m2:=cx ((fR wq).alloc (.cells #[] 64));have sF:=h_ (And.intro a5 (And.intro a6 (And.intro b5 (And.intro b6 (And.intro c5 c6)))));have bo:=h_ a4;have gF:=h_ b4;have nG:=h_ c4;have ug:=h_ fa;have FB:(0:Int)≤(k:Int):=Int.natCast_nonneg _;have zw:=hs1.cap;have hmx:=hs1.max;dsimp only at zw hmx;have FC:=Int.ofNat_le.2 (Nat.le_trans (show k≤_ by exact oh) zw);have FD:(k:Int)≤(x.fees.length:Int):=by omega
    clear cx a4 b4 c4 a5 a6 b5 b6 c5 c6 fa ik pn ol hs1 hlt;skip;have DF:k≤x.fees.length:=oh;skip;have MU:=h_ Gs;clear Gs;go_wp2_with (first|(refine jL qw _ _ rfl rfl rfl rfl DF MU.out ?_)|(at_builtin;refine aq iJ rfl _ _ rfl rfl rfl ?_));refine MP (bs:=w.heap.size) (bT.out.frm (uY.out.trans ug.out) id) rfl (im.out.frm (uY.out.trans ug.out) id) (show k≤x.fees.length from oh) zw hmx a1 a2 a3 bo.out sF.out.1 sF.out.2.1 b1 b2 b3 gF.out sF.out.2.2.1 sF.out.2.2.2.1 c1 c2 c3 nG.out sF.out.2.2.2.2.1 sF.out.2.2.2.2.2 (λ_ _ _ _ _ h=>h) ?_;rintro wc A' c' z0 z5 yf Bt hr;have HR:=h_ hr;obtain⟨wd,hwd⟩:∃wd,wd=wc.setCell ⟨w.heap.size,2,none⟩ (U A' (k+1+(x.fees.length-k)) c'):=⟨_,rfl⟩;rw[←hwd];clear a1 a2 a3 b1 b2 b3 c1 c2 c3 iJ sF bo gF nG hr;have fC:aa ag w0 wc:=(uY.out.trans ug.out).trans HR.out.frm;have rJ:aj wd w.heap.size 36 #[I J x.clock,U fo.1 x.fols.length fo.2,U A' (k+1+(x.fees.length-k)) c',U it.1 x.itms.length it.2,U se.1 x.seas.length se.2,I J x.tFol,I J x.tFee,I J x.tItm,I J x.tSea]:=by rw[hwd];exact((bT.out.frm fC id).set_ 2 _)
    have fd:aa (λk=>k=w.heap.size) wc wd:=by rw[hwd];exact(aa.refl (λk=>k=w.heap.size) wc).setCell (.inl rfl) _
    have l5:aj wd (w.heap.size+1) 42 _:=(im.out.frm fC id).frm fd (by simp);obtain⟨z0,z1,z2,z3,z4,z5,z6,z7,z8⟩:=aA rJ;obtain⟨e0,e1,e2,e3,e4,e5,e6⟩:=az l5;have g0:=rJ.frozen 6;have qy:=h_ rJ;have ul:=h_ fd;have Iw:=h_ fC;clear rJ fd fC l5 hwd;go_wp2_with (go_at_call 80;refine(tF _ _ _).mono ?_;rintro r w' ⟨rfl,rfl⟩);obtain⟨wf,qz⟩:∃wf,wf=wd.setCell ⟨w.heap.size,6,none⟩ (I J (max x.tFee a)):=⟨_,rfl⟩;rw[←qz];have uU:aj wf w.heap.size 36 #[I J x.clock,U fo.1 x.fols.length fo.2,U A' (k+1+(x.fees.length-k)) c',U it.1 x.itms.length it.2,U se.1 x.seas.length se.2,I J x.tFol,I J (max x.tFee a),I J x.tItm,I J x.tSea]:=by rw[qz];exact(qy.out.set_ 6 _)
    have ff:aa (λk=>k=w.heap.size) wd wf:=by rw[qz];exact(aa.refl (λk=>k=w.heap.size) wd).setCell (.inl rfl) _
    have hb4:aj wf (w.heap.size+1+1) 36 #[I J 0,U none 0 0,U none 0 0,U none 0 0,U none 0 0,I J 0,I J 0,I J 0,I J 0]:=((og.out.frm Iw.out id).frm ul.out (by simp)).frm ff (by simp);clear z0 z1 z2 z3 z4 z5 z6 z7 z8 e0 e1 e2 e3 e4 e5 e6 g0;obtain⟨z0,z1,z2,z3,z4,z5,z6,z7,z8⟩:=aA uU;obtain⟨y0,y1,y2,y3,y4,y5,y6,y7,y8⟩:=aA hb4;have g0:=hb4.frozen 0;have g1:=hb4.frozen 1;have g2:=hb4.frozen 2;have g3:=hb4.frozen 3;have g4:=hb4.frozen 4;have g5:=hb4.frozen 5;have g6:=hb4.frozen 6;have g7:=hb4.frozen 7;have g8:=hb4.frozen 8;obtain⟨we,gq⟩:∃we,we=wf.setCells (w.heap.size+1+1) 0 [I J x.clock,U fo.1 x.fols.length fo.2,U A' (k+1+(x.fees.length-k)) c',U it.1 x.itms.length it.2,U se.1 x.seas.length se.2,I J x.tFol,I J (max x.tFee a),I J x.tItm,I J x.tSea]:=⟨_,rfl⟩
    have hbg:aj we (w.heap.size+1+1) 36 #[I J x.clock,U fo.1 x.fols.length fo.2,U A' (k+1+(x.fees.length-k)) c',U it.1 x.itms.length it.2,U se.1 x.seas.length se.2,I J x.tFol,I J (max x.tFee a),I J x.tItm,I J x.tSea]:=by
     have:=aj.putL [I J x.clock,U fo.1 x.fols.length fo.2,U A' (k+1+(x.fees.length-k)) c',U it.1 x.itms.length it.2,U se.1 x.seas.length se.2,I J x.tFol,I J (max x.tFee a),I J x.tItm,I J x.tSea] 0 hb4;rw[kK] at this;rw[gq];exact this
    have fg:aa (λk=>k=w.heap.size+1+1) wf we:=by rw[gq];exact aa.setCells _ 0 (aa.refl _ _) (.inl rfl)
    have DG:aa (λk=>k=w.heap.size∨k=w.heap.size+1+1) wc we:=((ul.out.mono λk hk=>.inl hk).trans (ff.mono λk hk=>.inl hk)).trans (fg.mono λk hk=>.inr hk);have hsz:=(bI.out.trans (uY.out.trans ug.out)).size;have hL:=og.out.frm (uY.out.trans ug.out) id |>.lt
    have hF:aa ag w we:=((bI.out.trans Iw.out)).next DG (λk hk=>.inr (by rcases hk with hk|hk<;>omega))
    have cL:aF we (λk=>wa.heap.size≤k) 4 (A',c') (k+1+(x.fees.length-k)) ((x.fees.flatMap aX.cells).take (k * 4)++[I J a,I J b,V s,V t]++(x.fees.flatMap aX.cells).drop (k * 4)):=HR.out.sl.frm DG λk hk e=>by rcases e with e|e<;>omega
    have FH:Hid (aF we (λk=>w.heap.size≤k) 4 (A',c') (cA aX.id ⟨a,b,s,t⟩ x.fees).length ((cA aX.id ⟨a,b,s,t⟩ x.fees).flatMap aX.cells)):=by
     have e1:=gy aX.clen x.fees k;have e2:=mn aX.clen x.fees k;have e3:[I J a,I J b,V s,V t]=aX.cells ⟨a,b,s,t⟩:=rfl
     (try simp only at cL)
     rw[e1,e2,e3,List.append_assoc,←List.flatMap_cons,←List.flatMap_append,←yh.out,←HDn.out] at cL;exact cL.mono λk hk=>Nat.le_trans hsz hk
    have bK:=h_ hF;have lS:=h_ hbg;clear uU ff hb4 hF DG cL hsz hbg fg qz;go_wp2
    all_goals
     simp only[ai,ae,Tryz.f31];go_wp2
     all_goals
      simp only[World.setCells] at gq;rw[←gq];refine bodyPost_ret (tJ lS.out rfl) rfl ?_;refine⟨(A',c'),?_,⟨((gG.out.nix bK.out).fols).mono λk hk=>.inl hk,FH.out.mono λk hk=>.inr hk,((gG.out.nix bK.out).itms).mono λk hk=>.inl hk,gG.out.same,((gG.out.nix bK.out).seas).mono λk hk=>.inl hk⟩,bK.out⟩;rw[HDn.out]
theorem BR(hS:aY w G fo fe it se ts x)(hsm:aP x):
  Calls pQ 31 #[cC fo fe it se x,bQ ⟨11,a,b,n,s,t,u⟩] w λr w'=>∃(se':Sl),r=.returned (cC fo fe it se' {x with seas:=(cA ce.id ⟨a,s,t⟩ x.seas),tSea:=max x.tSea a})∧aY w' (λk=>G k∨w.heap.size≤k) fo fe it se' ts {x with seas:=(cA ce.id ⟨a,s,t⟩ x.seas),tSea:=max x.tSea a}∧aa ag w w':=by
 obtain⟨w0,hw0,hf0,hb1,hb2,hb3⟩:=gP w fo fe it se x 11 a b n s t u;have cm:=hsm.seas;have gG:=h_ hS;have HS:=h_ (hS.nix hf0);have bT:=h_ hb1;have im:=h_ hb2;have og:=h_ hb3;have bI:=h_ hf0;have HW:=h_ hw0;obtain⟨p,hp⟩:∃p,rN ce.id a x.seas=p:=⟨_,rfl⟩;have oh:p≤x.seas.length:=by rw[←hp];exact vq
 have yb:Hid (∀(j:Nat) (hj:j<x.seas.length),j<p→ce.id x.seas[j]<a):=λj hj h=>vr (by rw[hp];exact h) hj
 have Ep:Hid (∀hj:p<x.seas.length,¬ce.id x.seas[p]<a):=λhj=>by
  have:=@vu _ ce.id a x.seas (by rw[hp];exact hj);simp only[hp] at this;exact this
 have yh:Hid ((cA ce.id ⟨a,s,t⟩ x.seas)=x.seas.take p++(⟨a,s,t⟩:ce)::x.seas.drop p):=by
  have:=@rH _ ce.id (⟨a,s,t⟩:ce) x.seas;unfold Hid;rw[this];have e:rN ce.id (ce.id (⟨a,s,t⟩:ce)) x.seas=p:=hp;rw[e]
 have HDn:Hid ((cA ce.id ⟨a,s,t⟩ x.seas).length=p+1+(x.seas.length-p)):=by unfold Hid;rw[yh.out];simp;omega
 clear hS hsm hf0 hb1 hb2 hb3 hw0 hp;unfold cC bQ;dsimp only;obtain⟨A,c⟩:=se;dsimp only at HS gG bT HW ⊢;go_enter Tryz.func31,Tryz.ntmps31;show Code.wp pQ (ai 0 (ae Tryz.f31)) _ _ _
 refine aC (k':=1) λK hK=>?_
 conv in aD _=>whnf
 go_wp2;rw[←HW.out];refine aC (k':=2) λK hK=>?_
 conv in aD _=>whnf
 go_wp2;obtain⟨e0,e1,e2,e3,e4,e5,e6⟩:=az im.out;obtain⟨x0,x1,x2,x3,x4,x5,x6,x7,x8⟩:=aA bT.out;refine aC (k':=3) λK hK=>?_
 conv in aD _=>whnf
 go_wp2
 go_loopw [5] (λkv wr=>∃k:Nat,k≤p∧kv=I J k∧aa ag w0 wr) (λkv _=>x.seas.length-(intOf kv).toNat)
 case atStart=>exact⟨0,by omega,rfl,aa.refl _ _⟩
 case round=>
  obtain⟨k,hk,rfl,hf⟩:=hrel;have HF:=h_ hf;clear x0 x1 x2 x3 x4 x5 x6 x7 x8 e0 e1 e2 e3 e4 e5 e6 hf;obtain⟨e0,e1,e2,e3,e4,e5,e6⟩:=az (im.out.frm HF.out id);obtain⟨x0,x1,x2,x3,x4,x5,x6,x7,x8⟩:=aA (bT.out.frm HF.out id)
  by_cases hlt:k<p
  ·have cQ:k<x.seas.length:=by omega
   obtain⟨g,off,hA,-,hbl,hcell⟩:=(HS.out.seas.nix HF.out).at_ ce.clen (by decide) (by omega);dsimp only at hA;subst hA;have p0:=hcell k cQ 0 _ rfl;rw[Nat.add_zero] at p0;have hid:=yb.out k cQ hlt;obtain⟨q,hq⟩:∃q,x.seas[k]=q:=⟨_,rfl⟩;rw[hq] at p0 hid;clear hcell hq;go_wp2;go_quiet (fail);go_wp2;go_roundw
   case rel=>exact⟨k+1,by omega,by go_num,HF.out.drewN _⟩
   case measure=>simp[intOf];omega
  ·obtain rfl:k=p:=by omega
   by_cases hend:k<x.seas.length
   case' neg=>
    go_wp2;go_quiet (fail)
   case' pos=>
    obtain⟨g,off,hA,-,hbl,hcell⟩:=(HS.out.seas.nix HF.out).at_ ce.clen (by decide) (by omega);dsimp only at hA;subst hA;have p0:=hcell k hend 0 _ rfl;rw[Nat.add_zero] at p0;have hid:=Ep.out hend;obtain⟨q,hq⟩:∃q,x.seas[k]=q:=⟨_,rfl⟩;rw[hq] at p0 hid;clear hcell hq;go_wp2;go_quiet (fail);generalize (some ⟨g,off,none⟩:Option Addr)=A at *
   all_goals
    obtain⟨wq,zA⟩:∃wq,wq=wr.drewN nq:=⟨_,rfl⟩;rw[←zA];have uJ:aa ag w0 wq:=by rw[zA];exact HF.out.drewN _
    have uY:=h_ uJ;clear zA x0 x1 x2 x3 x4 x5 x6 x7 x8 e0 e1 e2 e3 e4 e5 e6;have hs1:=(HS.out.seas).nix uJ;obtain⟨sv,rA,rc,wa,Gs,iJ,ol⟩:=tG tz (p:=k) hs1 (zy x.seas) (by exact cm) (by exact oh) (by omega);have fa:=ol.frm;obtain⟨⟨v11,zQ,v12,zR,B1,d1,Et,a1,a2,a3,a4,a5,a6⟩,⟨v21,xc,v22,zS,B2,d2,Eu,b1,b2,b3,b4,b5,b6⟩,⟨v31,zT,v32,zU,B3,d3,Ew,c1,c2,c3,c4,c5,c6⟩⟩:=rI tz (rc:=rc) (ys:=[I J a,V s,V t]) (hs1.nix fa) ol.rd rfl (zy x.seas) (by intro z hz;simp at hz;rcases hz with rfl|rfl|rfl<;>rfl) (by exact cm) (by exact oh) (by omega);have ik:=bT.out.frm uJ id;have pn:=im.out.frm uJ id;have cx:∀{W:World},aa ag wq W→W.cell? ⟨w.heap.size,4,none⟩=some (U A x.seas.length c):=λhW=>((ik.frm hW id).cell 4).trans rfl
    have x4:=cx (fR wq);have m4:=cx ((fR wq).alloc (.cells #[] 84));have sF:=h_ (And.intro a5 (And.intro a6 (And.intro b5 (And.intro b6 (And.intro c5 c6)))));have bo:=h_ a4;have gF:=h_ b4;have nG:=h_ c4;have ug:=h_ fa;have FB:(0:Int)≤(k:Int):=Int.natCast_nonneg _;have zw:=hs1.cap;have hmx:=hs1.max;dsimp only at zw hmx;have FC:=Int.ofNat_le.2 (Nat.le_trans (show k≤_ by exact oh) zw);have FD:(k:Int)≤(x.seas.length:Int):=by omega
    clear cx a4 b4 c4 a5 a6 b5 b6 c5 c6 fa ik pn ol hs1 hlt;skip;have DF:k≤x.seas.length:=oh;skip;have MU:=h_ Gs;clear Gs;go_wp2_with (first|(refine jL tz _ _ rfl rfl rfl rfl DF MU.out ?_)|(at_builtin;refine aq iJ rfl _ _ rfl rfl rfl ?_));refine Ka (bs:=w.heap.size) (bT.out.frm (uY.out.trans ug.out) id) rfl (im.out.frm (uY.out.trans ug.out) id) (show k≤x.seas.length from oh) zw hmx a1 a2 a3 bo.out sF.out.1 sF.out.2.1 b1 b2 b3 gF.out sF.out.2.2.1 sF.out.2.2.2.1 c1 c2 c3 nG.out sF.out.2.2.2.2.1 sF.out.2.2.2.2.2 (λ_ _ _ _ _ h=>h) ?_;rintro wc A' c' z0 z5 yf Bt hr;have HR:=h_ hr;obtain⟨wd,hwd⟩:∃wd,wd=wc.setCell ⟨w.heap.size,4,none⟩ (U A' (k+1+(x.seas.length-k)) c'):=⟨_,rfl⟩;rw[←hwd];clear a1 a2 a3 b1 b2 b3 c1 c2 c3 iJ sF bo gF nG hr;have fC:aa ag w0 wc:=(uY.out.trans ug.out).trans HR.out.frm;have rJ:aj wd w.heap.size 36 #[I J x.clock,U fo.1 x.fols.length fo.2,U fe.1 x.fees.length fe.2,U it.1 x.itms.length it.2,U A' (k+1+(x.seas.length-k)) c',I J x.tFol,I J x.tFee,I J x.tItm,I J x.tSea]:=by rw[hwd];exact((bT.out.frm fC id).set_ 4 _)
    have fd:aa (λk=>k=w.heap.size) wc wd:=by rw[hwd];exact(aa.refl (λk=>k=w.heap.size) wc).setCell (.inl rfl) _
    have l5:aj wd (w.heap.size+1) 42 _:=(im.out.frm fC id).frm fd (by simp);obtain⟨z0,z1,z2,z3,z4,z5,z6,z7,z8⟩:=aA rJ;obtain⟨e0,e1,e2,e3,e4,e5,e6⟩:=az l5;have g0:=rJ.frozen 8;have qy:=h_ rJ;have ul:=h_ fd;have Iw:=h_ fC;clear rJ fd fC l5 hwd;go_wp2_with (go_at_call 80;refine(tF _ _ _).mono ?_;rintro r w' ⟨rfl,rfl⟩);obtain⟨wf,qz⟩:∃wf,wf=wd.setCell ⟨w.heap.size,8,none⟩ (I J (max x.tSea a)):=⟨_,rfl⟩;rw[←qz];have uU:aj wf w.heap.size 36 #[I J x.clock,U fo.1 x.fols.length fo.2,U fe.1 x.fees.length fe.2,U it.1 x.itms.length it.2,U A' (k+1+(x.seas.length-k)) c',I J x.tFol,I J x.tFee,I J x.tItm,I J (max x.tSea a)]:=by rw[qz];exact(qy.out.set_ 8 _)
    have ff:aa (λk=>k=w.heap.size) wd wf:=by rw[qz];exact(aa.refl (λk=>k=w.heap.size) wd).setCell (.inl rfl) _
    have hb4:aj wf (w.heap.size+1+1) 36 #[I J 0,U none 0 0,U none 0 0,U none 0 0,U none 0 0,I J 0,I J 0,I J 0,I J 0]:=((og.out.frm Iw.out id).frm ul.out (by simp)).frm ff (by simp);clear z0 z1 z2 z3 z4 z5 z6 z7 z8 e0 e1 e2 e3 e4 e5 e6 g0;obtain⟨z0,z1,z2,z3,z4,z5,z6,z7,z8⟩:=aA uU;obtain⟨y0,y1,y2,y3,y4,y5,y6,y7,y8⟩:=aA hb4;have g0:=hb4.frozen 0;have g1:=hb4.frozen 1;have g2:=hb4.frozen 2;have g3:=hb4.frozen 3;have g4:=hb4.frozen 4;have g5:=hb4.frozen 5;have g6:=hb4.frozen 6;have g7:=hb4.frozen 7;have g8:=hb4.frozen 8;obtain⟨we,gq⟩:∃we,we=wf.setCells (w.heap.size+1+1) 0 [I J x.clock,U fo.1 x.fols.length fo.2,U fe.1 x.fees.length fe.2,U it.1 x.itms.length it.2,U A' (k+1+(x.seas.length-k)) c',I J x.tFol,I J x.tFee,I J x.tItm,I J (max x.tSea a)]:=⟨_,rfl⟩
    have hbg:aj we (w.heap.size+1+1) 36 #[I J x.clock,U fo.1 x.fols.length fo.2,U fe.1 x.fees.length fe.2,U it.1 x.itms.length it.2,U A' (k+1+(x.seas.length-k)) c',I J x.tFol,I J x.tFee,I J x.tItm,I J (max x.tSea a)]:=by
     have:=aj.putL [I J x.clock,U fo.1 x.fols.length fo.2,U fe.1 x.fees.length fe.2,U it.1 x.itms.length it.2,U A' (k+1+(x.seas.length-k)) c',I J x.tFol,I J x.tFee,I J x.tItm,I J (max x.tSea a)] 0 hb4;rw[kK] at this;rw[gq];exact this
    have fg:aa (λk=>k=w.heap.size+1+1) wf we:=by rw[gq];exact aa.setCells _ 0 (aa.refl _ _) (.inl rfl)
    have DG:aa (λk=>k=w.heap.size∨k=w.heap.size+1+1) wc we:=((ul.out.mono λk hk=>.inl hk).trans (ff.mono λk hk=>.inl hk)).trans (fg.mono λk hk=>.inr hk);have hsz:=(bI.out.trans (uY.out.trans ug.out)).size;have hL:=og.out.frm (uY.out.trans ug.out) id |>.lt
    have hF:aa ag w we:=((bI.out.trans Iw.out)).next DG (λk hk=>.inr (by rcases hk with hk|hk<;>omega))
    have cL:aF we (λk=>wa.heap.size≤k) 3 (A',c') (k+1+(x.seas.length-k)) ((x.seas.flatMap ce.cells).take (k * 3)++[I J a,V s,V t]++(x.seas.flatMap ce.cells).drop (k * 3)):=HR.out.sl.frm DG λk hk e=>by rcases e with e|e<;>omega
    have FH:Hid (aF we (λk=>w.heap.size≤k) 3 (A',c') (cA ce.id ⟨a,s,t⟩ x.seas).length ((cA ce.id ⟨a,s,t⟩ x.seas).flatMap ce.cells)):=by
     have e1:=gy ce.clen x.seas k;have e2:=mn ce.clen x.seas k;have e3:[I J a,V s,V t]=ce.cells ⟨a,s,t⟩:=rfl
     (try simp only at cL)
     rw[e1,e2,e3,List.append_assoc,←List.flatMap_cons,←List.flatMap_append,←yh.out,←HDn.out] at cL;exact cL.mono λk hk=>Nat.le_trans hsz hk
    have bK:=h_ hF;have lS:=h_ hbg;clear uU ff hb4 hF DG cL hsz hbg fg qz;go_wp2
    all_goals
     simp only[ai,ae,Tryz.f31];go_wp2
     all_goals
      simp only[World.setCells] at gq;rw[←gq];refine bodyPost_ret (tJ lS.out rfl) rfl ?_;refine⟨(A',c'),?_,⟨((gG.out.nix bK.out).fols).mono λk hk=>.inl hk,((gG.out.nix bK.out).fees).mono λk hk=>.inl hk,((gG.out.nix bK.out).itms).mono λk hk=>.inl hk,gG.out.same,FH.out.mono λk hk=>.inr hk⟩,bK.out⟩;rw[HDn.out]
theorem DJ(hS:aY w G fo fe it se ts x)(hsm:aP x):
  Calls pQ 31 #[cC fo fe it se x,bQ ⟨7,a,b,n,s,t,u⟩] w λr w'=>∃(it':Sl) (ts':List (Sl×aR)),r=.returned (cC fo fe it' se {x with itms:=(cA aR.id ⟨a,b,n,s,t,u,false,false,[]⟩ x.itms),tItm:=max x.tItm a})∧aY w' (λk=>G k∨w.heap.size≤k) fo fe it' se ts' {x with itms:=(cA aR.id ⟨a,b,n,s,t,u,false,false,[]⟩ x.itms),tItm:=max x.tItm a}∧aa ag w w':=by
 obtain⟨w0,hw0,hf0,hb1,hb2,hb3⟩:=gP w fo fe it se x 7 a b n s t u;have cm:=hsm.itms;have gG:=h_ hS;have HS:=h_ (hS.nix hf0);have bT:=h_ hb1;have im:=h_ hb2;have og:=h_ hb3;have bI:=h_ hf0;have HW:=h_ hw0;obtain⟨p,hp⟩:∃p,rN aR.id a x.itms=p:=⟨_,rfl⟩;have oh:p≤x.itms.length:=by rw[←hp];exact vq
 have yb:Hid (∀(j:Nat) (hj:j<x.itms.length),j<p→aR.id x.itms[j]<a):=λj hj h=>vr (by rw[hp];exact h) hj
 have Ep:Hid (∀hj:p<x.itms.length,¬aR.id x.itms[p]<a):=λhj=>by
  have:=@vu _ aR.id a x.itms (by rw[hp];exact hj);simp only[hp] at this;exact this
 have yh:Hid ((cA aR.id ⟨a,b,n,s,t,u,false,false,[]⟩ x.itms)=x.itms.take p++(⟨a,b,n,s,t,u,false,false,[]⟩:aR)::x.itms.drop p):=by
  have:=@rH _ aR.id (⟨a,b,n,s,t,u,false,false,[]⟩:aR) x.itms;unfold Hid;rw[this];have e:rN aR.id (aR.id (⟨a,b,n,s,t,u,false,false,[]⟩:aR)) x.itms=p:=hp;rw[e]
 have HDn:Hid ((cA aR.id ⟨a,b,n,s,t,u,false,false,[]⟩ x.itms).length=p+1+(x.itms.length-p)):=by unfold Hid;rw[yh.out];simp;omega
 clear hS hsm hf0 hb1 hb2 hb3 hw0 hp;unfold cC bQ;dsimp only;obtain⟨A,c⟩:=it;dsimp only at HS gG bT HW ⊢;have hlen:ts.length=x.itms.length:=gG.out.len
 have Er:Hid ((ts.take p++((none,0),(⟨a,b,n,s,t,u,false,false,[]⟩:aR))::ts.drop p).map (·.2)=cA aR.id ⟨a,b,n,s,t,u,false,false,[]⟩ x.itms):=by
  unfold Hid;rw[yh.out,List.map_append,List.map_cons,List.map_take,List.map_drop,gG.out.same]
 go_enter Tryz.func31,Tryz.ntmps31;show Code.wp pQ (ai 0 (ae Tryz.f31)) _ _ _
 refine aC (k':=1) λK hK=>?_
 conv in aD _=>whnf
 go_wp2;rw[←HW.out];refine aC (k':=2) λK hK=>?_
 conv in aD _=>whnf
 go_wp2;obtain⟨e0,e1,e2,e3,e4,e5,e6⟩:=az im.out;obtain⟨x0,x1,x2,x3,x4,x5,x6,x7,x8⟩:=aA bT.out;refine aC (k':=3) λK hK=>?_
 conv in aD _=>whnf
 go_wp2
 go_loopw [5] (λkv wr=>∃k:Nat,k≤p∧kv=I J k∧aa ag w0 wr) (λkv _=>x.itms.length-(intOf kv).toNat)
 case atStart=>exact⟨0,by omega,rfl,aa.refl _ _⟩
 case round=>
  obtain⟨k,hk,rfl,hf⟩:=hrel;have HF:=h_ hf;clear x0 x1 x2 x3 x4 x5 x6 x7 x8 e0 e1 e2 e3 e4 e5 e6 hf;obtain⟨e0,e1,e2,e3,e4,e5,e6⟩:=az (im.out.frm HF.out id);obtain⟨x0,x1,x2,x3,x4,x5,x6,x7,x8⟩:=aA (bT.out.frm HF.out id)
  by_cases hlt:k<p
  ·have cQ:k<x.itms.length:=by omega
   obtain⟨mG,uj⟩:=py HS.out cQ;obtain⟨g,off,hA,-,hbl,hcell⟩:=(HS.out.itms.row.nix HF.out).at_ bN (by decide) (by omega);dsimp only at hA;subst hA;have p0:=hcell k mG 0 _ rfl;rw[Nat.add_zero] at p0;have hid:=yb.out k cQ hlt;rw[←uj] at hid;obtain⟨q,hq⟩:∃q,ts[k]=q:=⟨_,rfl⟩;rw[hq] at p0 hid;clear hcell hq uj;go_wp2;go_quiet (fail);go_wp2;go_roundw
   case rel=>exact⟨k+1,by omega,by go_num,HF.out.drewN _⟩
   case measure=>simp[intOf];omega
  ·obtain rfl:k=p:=by omega
   by_cases hend:k<x.itms.length
   case' neg=>
    go_wp2;go_quiet (fail)
   case' pos=>
    obtain⟨mG,uj⟩:=py HS.out hend;obtain⟨g,off,hA,-,hbl,hcell⟩:=(HS.out.itms.row.nix HF.out).at_ bN (by decide) (by omega);dsimp only at hA;subst hA;have p0:=hcell k mG 0 _ rfl;rw[Nat.add_zero] at p0;have hid:=Ep.out hend;rw[←uj] at hid;obtain⟨q,hq⟩:∃q,ts[k]=q:=⟨_,rfl⟩;rw[hq] at p0 hid;clear hcell hq uj;go_wp2;go_quiet (fail);generalize (some ⟨g,off,none⟩:Option Addr)=A at *
   all_goals
    obtain⟨wq,zA⟩:∃wq,wq=wr.drewN nq:=⟨_,rfl⟩;rw[←zA];have uJ:aa ag w0 wq:=by rw[zA];exact HF.out.drewN _
    have uY:=h_ uJ;clear zA x0 x1 x2 x3 x4 x5 x6 x7 x8 e0 e1 e2 e3 e4 e5 e6;have hs1:=(HS.out.itms.row).nix uJ;obtain⟨sv,rA,rc,wa,Gs,iJ,ol⟩:=tG px (p:=k) hs1 (tH ts) (by rw[hlen];exact cm) (by rw[hlen];exact oh) (by omega);have fa:=ol.frm;obtain⟨⟨v11,zQ,v12,zR,B1,d1,Et,a1,a2,a3,a4,a5,a6⟩,⟨v21,xc,v22,zS,B2,d2,Eu,b1,b2,b3,b4,b5,b6⟩,⟨v31,zT,v32,zU,B3,d3,Ew,c1,c2,c3,c4,c5,c6⟩⟩:=rI px (rc:=rc) (ys:=[I J a,I J b,I J n,V s,V t,V u,.bool false,.bool false,U none 0 0]) (hs1.nix fa) ol.rd rfl (tH ts) (by intro z hz;simp at hz;rcases hz with rfl|rfl|rfl|rfl|rfl|rfl|rfl|rfl<;>rfl) (by rw[hlen];exact cm) (by rw[hlen];exact oh) (by omega);have ik:=bT.out.frm uJ id;have pn:=im.out.frm uJ id;have cx:∀{W:World},aa ag wq W→W.cell? ⟨w.heap.size,3,none⟩=some (U A x.itms.length c):=λhW=>((ik.frm hW id).cell 3).trans rfl
    have x3:=cx (fR wq);have m3:=cx ((fR wq).alloc (.cells #[] 82));have sF:=h_ (And.intro a5 (And.intro a6 (And.intro b5 (And.intro b6 (And.intro c5 c6)))));have bo:=h_ a4;have gF:=h_ b4;have nG:=h_ c4;have ug:=h_ fa;have FB:(0:Int)≤(k:Int):=Int.natCast_nonneg _;have zw:=hs1.cap;have hmx:=hs1.max;dsimp only at zw hmx;have FC:=Int.ofNat_le.2 (Nat.le_trans (show k≤_ by rw[hlen];exact oh) zw);have FD:(k:Int)≤(x.itms.length:Int):=by omega
    clear cx a4 b4 c4 a5 a6 b5 b6 c5 c6 fa ik pn ol hs1 hlt;rw[hlen] at iJ a3 b3 c3 bo gF nG;have DF:k≤x.itms.length:=oh;rw[hlen] at Gs;have MU:=h_ Gs;clear Gs;go_wp2_with (first|(refine jL px _ _ rfl rfl rfl rfl DF MU.out ?_)|(at_builtin;refine aq iJ rfl _ _ rfl rfl rfl ?_));refine MQ (bs:=w.heap.size) (bT.out.frm (uY.out.trans ug.out) id) rfl (im.out.frm (uY.out.trans ug.out) id) (show k≤x.itms.length from oh) (by rw[←hlen];exact zw) hmx a1 a2 a3 bo.out sF.out.1 sF.out.2.1 b1 b2 b3 gF.out sF.out.2.2.1 sF.out.2.2.2.1 c1 c2 c3 nG.out sF.out.2.2.2.2.1 sF.out.2.2.2.2.2 (λ_ _ _ _ _ h=>h) ?_;rintro wc A' c' z0 z5 yf Bt hr;have HR:=h_ hr;obtain⟨wd,hwd⟩:∃wd,wd=wc.setCell ⟨w.heap.size,3,none⟩ (U A' (k+1+(x.itms.length-k)) c'):=⟨_,rfl⟩;rw[←hwd];clear a1 a2 a3 b1 b2 b3 c1 c2 c3 iJ sF bo gF nG hr;have fC:aa ag w0 wc:=(uY.out.trans ug.out).trans HR.out.frm;have rJ:aj wd w.heap.size 36 #[I J x.clock,U fo.1 x.fols.length fo.2,U fe.1 x.fees.length fe.2,U A' (k+1+(x.itms.length-k)) c',U se.1 x.seas.length se.2,I J x.tFol,I J x.tFee,I J x.tItm,I J x.tSea]:=by rw[hwd];exact((bT.out.frm fC id).set_ 3 _)
    have fd:aa (λk=>k=w.heap.size) wc wd:=by rw[hwd];exact(aa.refl (λk=>k=w.heap.size) wc).setCell (.inl rfl) _
    have l5:aj wd (w.heap.size+1) 42 _:=(im.out.frm fC id).frm fd (by simp);obtain⟨z0,z1,z2,z3,z4,z5,z6,z7,z8⟩:=aA rJ;obtain⟨e0,e1,e2,e3,e4,e5,e6⟩:=az l5;have g0:=rJ.frozen 7;have qy:=h_ rJ;have ul:=h_ fd;have Iw:=h_ fC;clear rJ fd fC l5 hwd;go_wp2_with (go_at_call 80;refine(tF _ _ _).mono ?_;rintro r w' ⟨rfl,rfl⟩);obtain⟨wf,qz⟩:∃wf,wf=wd.setCell ⟨w.heap.size,7,none⟩ (I J (max x.tItm a)):=⟨_,rfl⟩;rw[←qz];have uU:aj wf w.heap.size 36 #[I J x.clock,U fo.1 x.fols.length fo.2,U fe.1 x.fees.length fe.2,U A' (k+1+(x.itms.length-k)) c',U se.1 x.seas.length se.2,I J x.tFol,I J x.tFee,I J (max x.tItm a),I J x.tSea]:=by rw[qz];exact(qy.out.set_ 7 _)
    have ff:aa (λk=>k=w.heap.size) wd wf:=by rw[qz];exact(aa.refl (λk=>k=w.heap.size) wd).setCell (.inl rfl) _
    have hb4:aj wf (w.heap.size+1+1) 36 #[I J 0,U none 0 0,U none 0 0,U none 0 0,U none 0 0,I J 0,I J 0,I J 0,I J 0]:=((og.out.frm Iw.out id).frm ul.out (by simp)).frm ff (by simp);clear z0 z1 z2 z3 z4 z5 z6 z7 z8 e0 e1 e2 e3 e4 e5 e6 g0;obtain⟨z0,z1,z2,z3,z4,z5,z6,z7,z8⟩:=aA uU;obtain⟨y0,y1,y2,y3,y4,y5,y6,y7,y8⟩:=aA hb4;have g0:=hb4.frozen 0;have g1:=hb4.frozen 1;have g2:=hb4.frozen 2;have g3:=hb4.frozen 3;have g4:=hb4.frozen 4;have g5:=hb4.frozen 5;have g6:=hb4.frozen 6;have g7:=hb4.frozen 7;have g8:=hb4.frozen 8;obtain⟨we,gq⟩:∃we,we=wf.setCells (w.heap.size+1+1) 0 [I J x.clock,U fo.1 x.fols.length fo.2,U fe.1 x.fees.length fe.2,U A' (k+1+(x.itms.length-k)) c',U se.1 x.seas.length se.2,I J x.tFol,I J x.tFee,I J (max x.tItm a),I J x.tSea]:=⟨_,rfl⟩
    have hbg:aj we (w.heap.size+1+1) 36 #[I J x.clock,U fo.1 x.fols.length fo.2,U fe.1 x.fees.length fe.2,U A' (k+1+(x.itms.length-k)) c',U se.1 x.seas.length se.2,I J x.tFol,I J x.tFee,I J (max x.tItm a),I J x.tSea]:=by
     have:=aj.putL [I J x.clock,U fo.1 x.fols.length fo.2,U fe.1 x.fees.length fe.2,U A' (k+1+(x.itms.length-k)) c',U se.1 x.seas.length se.2,I J x.tFol,I J x.tFee,I J (max x.tItm a),I J x.tSea] 0 hb4;rw[kK] at this;rw[gq];exact this
    have fg:aa (λk=>k=w.heap.size+1+1) wf we:=by rw[gq];exact aa.setCells _ 0 (aa.refl _ _) (.inl rfl)
    have DG:aa (λk=>k=w.heap.size∨k=w.heap.size+1+1) wc we:=((ul.out.mono λk hk=>.inl hk).trans (ff.mono λk hk=>.inl hk)).trans (fg.mono λk hk=>.inr hk);have hsz:=(bI.out.trans (uY.out.trans ug.out)).size;have hL:=og.out.frm (uY.out.trans ug.out) id |>.lt
    have hF:aa ag w we:=((bI.out.trans Iw.out)).next DG (λk hk=>.inr (by rcases hk with hk|hk<;>omega))
    have cL:aF we (λk=>wa.heap.size≤k) 9 (A',c') (k+1+(x.itms.length-k)) ((ts.flatMap io).take (k * 9)++[I J a,I J b,I J n,V s,V t,V u,.bool false,.bool false,U none 0 0]++(ts.flatMap io).drop (k * 9)):=HR.out.sl.frm DG λk hk e=>by rcases e with e|e<;>omega
    have FH:Hid (nS we (λk=>G k∨w.heap.size≤k) (A',c') (ts.take k++((none,0),(⟨a,b,n,s,t,u,false,false,[]⟩:aR))::ts.drop k)):=by
     have e1:=gy bN ts k;have e2:=mn bN ts k;have e3:[I J a,I J b,I J n,V s,V t,V u,.bool false,.bool false,U none 0 0]=io ((none,0),(⟨a,b,n,s,t,u,false,false,[]⟩:aR)):=rfl;have e4:(ts.take k++((none,0),(⟨a,b,n,s,t,u,false,false,[]⟩:aR))::ts.drop k).length=(k+1+(x.itms.length-k)):=by simp[hlen];omega
     (try simp only at cL)
     rw[e1,e2,e3,List.append_assoc,←List.flatMap_cons,←List.flatMap_append,←e4] at cL;refine⟨cL.mono λk hk=>.inr (Nat.le_trans hsz hk),λq hq=>?_⟩;rcases List.mem_append.1 hq with hq|hq
     ·exact((gG.out.nix hF).itms.tags q (List.mem_of_mem_take hq)).mono λk hk=>.inl hk
     ·rcases List.mem_cons.1 hq with rfl|hq
      ·exact aF.none_ _ _ _
      ·exact((gG.out.nix hF).itms.tags q (List.mem_of_mem_drop hq)).mono λk hk=>.inl hk
    have bK:=h_ hF;have lS:=h_ hbg;clear uU ff hb4 hF DG cL hsz hbg fg qz;go_wp2
    all_goals
     simp only[ai,ae,Tryz.f31];go_wp2
     all_goals
      simp only[World.setCells] at gq;rw[←gq];refine bodyPost_ret (tJ lS.out rfl) rfl ?_;refine⟨(A',c'),(ts.take k++((none,0),(⟨a,b,n,s,t,u,false,false,[]⟩:aR))::ts.drop k),?_,⟨((gG.out.nix bK.out).fols).mono λk hk=>.inl hk,((gG.out.nix bK.out).fees).mono λk hk=>.inl hk,FH.out,Er.out,((gG.out.nix bK.out).seas).mono λk hk=>.inl hk⟩,bK.out⟩;rw[HDn.out]
end Go.Proofs.YtaecjmiobllhmaaGreat
