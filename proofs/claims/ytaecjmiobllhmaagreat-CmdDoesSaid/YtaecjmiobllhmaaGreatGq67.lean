/- Words. -/
import Derived.Test.YtaecjmiobllhmaaGreatGq66
set_option linter.unusedVariables false
set_option linter.unusedSimpArgs false
set_option maxRecDepth 100000
set_option maxHeartbeats 16000000
namespace Go.Proofs.YtaecjmiobllhmaaGreat
open Go.Value renaming int→I,string→V,slice→U,pointer→O
open Go.IntKind renaming i64→J
open Tryz renaming prog→pQ
open Go.RowKit Go.Lib
variable {w:World}{fo fe it se:Sl}{ts:List (Sl×aJ)}{x:St}{G:Nat→Prop}{a b n:Int}{s t u:ByteArray}
theorem tF{W:World}{g:Nat}{tmps:Array Value}{a0 a1 a2 a3 a4 a5 a6 a7 a8:Value}(hb:ai W g 36 #[a0,a1,a2,a3,a4,a5,a6,a7,a8])(h2:tmps.getD 4 undef=O (some ⟨g,0,none⟩)):
  (results Tryz.f31 tmps).run pQ W=.ok (.agg #[a0,a1,a2,a3,a4,a5,a6,a7,a8]) W:=by
 obtain⟨c0,c1,c2,c3,c4,c5,c6,c7,c8⟩:=ak hb;have h2':tmps[4]?.getD undef=O (some ⟨g,0,none⟩):=by simpa using h2
 simp[results,Tryz.results31,h2',go_sem,c0,c1,c2,c3,c4,c5,c6,c7,c8]
theorem Eu(hS:aM w G fo fe it se ts x)(hsm:aH x):
  Calls pQ 31 #[bE fo fe it se x,dt ⟨1,a,b,n,s,t,u⟩] w λr w'=>∃(fo':Sl),r=.returned (bE fo' fe it se {x with fols:=(dK bg.id ⟨a,b,s⟩ x.fols),tFol:=max x.tFol a})∧aM w' (λk=>G k∨w.heap.size≤k) fo' fe it se ts {x with fols:=(dK bg.id ⟨a,b,s⟩ x.fols),tFol:=max x.tFol a}∧aa ac w w':=by
 obtain⟨w0,hw0,hf0,hb1,hb2,hb3⟩:=iH w fo fe it se x 1 a b n s t u;have ew:=hsm.fols;have iW:=h_ hS;have HS:=h_ (hS.nix hf0);have gH:=h_ hb1;have kh:=h_ hb2;have pF:=h_ hb3;have dM:=h_ hf0;have HW:=h_ hw0;obtain⟨p,hp⟩:∃p,rB bg.id a x.fols=p:=⟨_,rfl⟩;have nW:p≤x.fols.length:=by rw[←hp];exact vp
 have zS:Hid (∀(j:Nat) (hj:j<x.fols.length),j<p→bg.id x.fols[j]<a):=λj hj h=>vq (by rw[hp];exact h) hj
 have E6:Hid (∀hj:p<x.fols.length,¬bg.id x.fols[p]<a):=λhj=>by
  have:=@vr a _ bg.id x.fols (by rw[hp];exact hj);simp only[hp] at this;exact this
 have yB:Hid ((dK bg.id ⟨a,b,s⟩ x.fols)=x.fols.take p++(⟨a,b,s⟩:bg)::x.fols.drop p):=by
  have:=@ru _ bg.id (⟨a,b,s⟩:bg) x.fols;unfold Hid;rw[this];have e:rB bg.id (bg.id (⟨a,b,s⟩:bg)) x.fols=p:=hp;rw[e]
 have HDn:Hid ((dK bg.id ⟨a,b,s⟩ x.fols).length=p+1+(x.fols.length-p)):=by unfold Hid;rw[yB.out];simp;omega
 clear hS hsm hf0 hb1 hb2 hb3 hw0 hp;unfold bE dt;dsimp only;obtain⟨A,c⟩:=fo;dsimp only at HS iW gH HW ⊢;go_enter Tryz.func31,Tryz.ntmps31;show Code.wp pQ (aj 0 (ae Tryz.f31)) _ _ _
 refine aG (k':=1) λK hK=>?_
 conv in bz _=>whnf
 go_wp2;rw[←HW.out];refine aG (k':=2) λK hK=>?_
 conv in bz _=>whnf
 go_wp2;obtain⟨e0,e1,e2,e3,e4,e5,e6⟩:=ap kh.out;obtain⟨x0,x1,x2,x3,x4,x5,x6,x7,x8⟩:=ak gH.out;refine aG (k':=3) λK hK=>?_
 conv in bz _=>whnf
 go_wp2
 go_loopw [5] (λkv wr=>∃k:Nat,k≤p∧kv=I J k∧aa ac w0 wr) (λkv _=>x.fols.length-(intOf kv).toNat)
 case atStart=>exact⟨0,by omega,rfl,aa.refl _ _⟩
 case round=>
  obtain⟨k,hk,rfl,hf⟩:=hrel;have HF:=h_ hf;clear x0 x1 x2 x3 x4 x5 x6 x7 x8 e0 e1 e2 e3 e4 e5 e6 hf;obtain⟨e0,e1,e2,e3,e4,e5,e6⟩:=ap (kh.out.frm HF.out id);obtain⟨x0,x1,x2,x3,x4,x5,x6,x7,x8⟩:=ak (gH.out.frm HF.out id)
  by_cases hlt:k<p
  ·have dX:k<x.fols.length:=by omega
   obtain⟨g,off,hA,-,hbl,hcell⟩:=(HS.out.fols.nix HF.out).at_ bg.clen (by decide) (by omega);dsimp only at hA;subst hA;have p0:=hcell k dX 0 _ rfl;rw[Nat.add_zero] at p0;have hid:=zS.out k dX hlt;obtain⟨q,hq⟩:∃q,x.fols[k]=q:=⟨_,rfl⟩;rw[hq] at p0 hid;clear hcell hq;go_wp2;go_quiet (fail);go_wp2;go_roundw
   case rel=>exact⟨k+1,by omega,by go_num,HF.out.drewN _⟩
   case measure=>simp[intOf];omega
  ·obtain rfl:k=p:=by omega
   by_cases hend:k<x.fols.length
   case' neg=>
    go_wp2;go_quiet (fail)
   case' pos=>
    obtain⟨g,off,hA,-,hbl,hcell⟩:=(HS.out.fols.nix HF.out).at_ bg.clen (by decide) (by omega);dsimp only at hA;subst hA;have p0:=hcell k hend 0 _ rfl;rw[Nat.add_zero] at p0;have hid:=E6.out hend;obtain⟨q,hq⟩:∃q,x.fols[k]=q:=⟨_,rfl⟩;rw[hq] at p0 hid;clear hcell hq;go_wp2;go_quiet (fail);generalize (some ⟨g,off,none⟩:Option Addr)=A at *
   all_goals
    obtain⟨wq,zK⟩:∃wq,wq=wr.drewN nq:=⟨_,rfl⟩;rw[←zK];have tB:aa ac w0 wq:=by rw[zK];exact HF.out.drewN _
    have wX:=h_ tB;clear zK x0 x1 x2 x3 x4 x5 x6 x7 x8 e0 e1 e2 e3 e4 e5 e6;have hs1:=(HS.out.fols).nix tB;obtain⟨sv,rA,rc,wa,Hn,jq,nX⟩:=tC sW (p:=k) hs1 (zI x.fols) (by exact ew) (by exact nW) (by omega);have fa:=nX.frm;obtain⟨⟨v11,pG,v12,yw,B1,d1,Fg,a1,a2,a3,a4,a5,a6⟩,⟨v21,xi,v22,zT,B2,d2,Fh,b1,b2,b3,b4,b5,b6⟩,⟨v31,zU,v32,zV,B3,d3,Fi,c1,c2,c3,c4,c5,c6⟩⟩:=rx sW (rc:=rc) (ys:=[I J a,I J b,V s]) (hs1.nix fa) nX.rd rfl (zI x.fols) (by intro z hz;simp at hz;rcases hz with rfl|rfl|rfl<;>rfl) (by exact ew) (by exact nW) (by omega);have iX:=gH.out.frm tB id;have pd:=kh.out.frm tB id;have cx:∀{W:World},aa ac wq W→W.cell? ⟨w.heap.size,1,none⟩=some (U A x.fols.length c):=λhW=>((iX.frm hW id).cell 1).trans rfl
    have x1:=cx (fR wq);have m1:=cx ((fR wq).alloc (.cells #[] 79));have sk:=h_ (And.intro a5 (And.intro a6 (And.intro b5 (And.intro b6 (And.intro c5 c6)))));have bw:=h_ a4;have gI:=h_ b4;have od:=h_ c4;have ud:=h_ fa;have JC:(0:Int)≤(k:Int):=Int.natCast_nonneg _;have zH:=hs1.cap;have hmx:=hs1.max;dsimp only at zH hmx;have JD:=Int.ofNat_le.2 (Nat.le_trans (show k≤_ by exact nW) zH);have JE:(k:Int)≤(x.fols.length:Int):=by omega
    clear cx a4 b4 c4 a5 a6 b5 b6 c5 c6 fa iX pd nX hs1 hlt;skip;have Ew:k≤x.fols.length:=nW;skip;have Ol:=h_ Hn;clear Hn;go_wp2_with (first|(refine kg sW _ _ rfl rfl rfl rfl Ew Ol.out ?_)|(at_builtin;refine aq jq rfl _ _ rfl rfl rfl ?_));refine Oe (bs:=w.heap.size) (gH.out.frm (wX.out.trans ud.out) id) rfl (kh.out.frm (wX.out.trans ud.out) id) (show k≤x.fols.length from nW) zH hmx a1 a2 a3 bw.out sk.out.1 sk.out.2.1 b1 b2 b3 gI.out sk.out.2.2.1 sk.out.2.2.2.1 c1 c2 c3 od.out sk.out.2.2.2.2.1 sk.out.2.2.2.2.2 (λ_ _ _ _ _ h=>h) ?_;rintro wc A' c' z0 z5 Gt Gu hr;have HR:=h_ hr;obtain⟨wd,hwd⟩:∃wd,wd=wc.setCell ⟨w.heap.size,1,none⟩ (U A' (k+1+(x.fols.length-k)) c'):=⟨_,rfl⟩;rw[←hwd];clear a1 a2 a3 b1 b2 b3 c1 c2 c3 jq sk bw gI od hr;have fC:aa ac w0 wc:=(wX.out.trans ud.out).trans HR.out.frm;have sB:ai wd w.heap.size 36 #[I J x.clock,U A' (k+1+(x.fols.length-k)) c',U fe.1 x.fees.length fe.2,U it.1 x.itms.length it.2,U se.1 x.seas.length se.2,I J x.tFol,I J x.tFee,I J x.tItm,I J x.tSea]:=by rw[hwd];exact((gH.out.frm fC id).set_ 1 _)
    have fd:aa (λk=>k=w.heap.size) wc wd:=by rw[hwd];exact(aa.refl (λk=>k=w.heap.size) wc).setCell (.inl rfl) _
    have eo:ai wd (w.heap.size+1) 42 _:=(kh.out.frm fC id).frm fd (by simp);obtain⟨z0,z1,z2,z3,z4,z5,z6,z7,z8⟩:=ak sB;obtain⟨e0,e1,e2,e3,e4,e5,e6⟩:=ap eo;have g0:=sB.frozen 5;have qU:=h_ sB;have uq:=h_ fd;have JG:=h_ fC;clear sB fd fC eo hwd;go_wp2_with (go_at_call 80;refine(tA _ _ _).mono ?_;rintro r w' ⟨rfl,rfl⟩);obtain⟨wf,qq⟩:∃wf,wf=wd.setCell ⟨w.heap.size,5,none⟩ (I J (max x.tFol a)):=⟨_,rfl⟩;rw[←qq];have uT:ai wf w.heap.size 36 #[I J x.clock,U A' (k+1+(x.fols.length-k)) c',U fe.1 x.fees.length fe.2,U it.1 x.itms.length it.2,U se.1 x.seas.length se.2,I J (max x.tFol a),I J x.tFee,I J x.tItm,I J x.tSea]:=by rw[qq];exact(qU.out.set_ 5 _)
    have ff:aa (λk=>k=w.heap.size) wd wf:=by rw[qq];exact(aa.refl (λk=>k=w.heap.size) wd).setCell (.inl rfl) _
    have hb4:ai wf (w.heap.size+1+1) 36 #[I J 0,U none 0 0,U none 0 0,U none 0 0,U none 0 0,I J 0,I J 0,I J 0,I J 0]:=((pF.out.frm JG.out id).frm uq.out (by simp)).frm ff (by simp);clear z0 z1 z2 z3 z4 z5 z6 z7 z8 e0 e1 e2 e3 e4 e5 e6 g0;obtain⟨z0,z1,z2,z3,z4,z5,z6,z7,z8⟩:=ak uT;obtain⟨y0,y1,y2,y3,y4,y5,y6,y7,y8⟩:=ak hb4;have g0:=hb4.frozen 0;have g1:=hb4.frozen 1;have g2:=hb4.frozen 2;have g3:=hb4.frozen 3;have g4:=hb4.frozen 4;have g5:=hb4.frozen 5;have g6:=hb4.frozen 6;have g7:=hb4.frozen 7;have g8:=hb4.frozen 8;obtain⟨we,eB⟩:∃we,we=wf.setCells (w.heap.size+1+1) 0 [I J x.clock,U A' (k+1+(x.fols.length-k)) c',U fe.1 x.fees.length fe.2,U it.1 x.itms.length it.2,U se.1 x.seas.length se.2,I J (max x.tFol a),I J x.tFee,I J x.tItm,I J x.tSea]:=⟨_,rfl⟩
    have hbg:ai we (w.heap.size+1+1) 36 #[I J x.clock,U A' (k+1+(x.fols.length-k)) c',U fe.1 x.fees.length fe.2,U it.1 x.itms.length it.2,U se.1 x.seas.length se.2,I J (max x.tFol a),I J x.tFee,I J x.tItm,I J x.tSea]:=by
     have:=ai.putL [I J x.clock,U A' (k+1+(x.fols.length-k)) c',U fe.1 x.fees.length fe.2,U it.1 x.itms.length it.2,U se.1 x.seas.length se.2,I J (max x.tFol a),I J x.tFee,I J x.tItm,I J x.tSea] 0 hb4;rw[i7] at this;rw[eB];exact this
    have fg:aa (λk=>k=w.heap.size+1+1) wf we:=by rw[eB];exact aa.setCells _ 0 (aa.refl _ _) (.inl rfl)
    have Ex:aa (λk=>k=w.heap.size∨k=w.heap.size+1+1) wc we:=((uq.out.mono λk hk=>.inl hk).trans (ff.mono λk hk=>.inl hk)).trans (fg.mono λk hk=>.inr hk);have hsz:=(dM.out.trans (wX.out.trans ud.out)).size;have hL:=pF.out.frm (wX.out.trans ud.out) id |>.lt
    have hF:aa ac w we:=((dM.out.trans JG.out)).next Ex (λk hk=>.inr (by rcases hk with hk|hk<;>omega))
    have eh:aN we (λk=>wa.heap.size≤k) 3 (A',c') (k+1+(x.fols.length-k)) ((x.fols.flatMap bg.cells).take (k * 3)++[I J a,I J b,V s]++(x.fols.flatMap bg.cells).drop (k * 3)):=HR.out.sl.frm Ex λk hk e=>by rcases e with e|e<;>omega
    have Dz:Hid (aN we (λk=>w.heap.size≤k) 3 (A',c') (dK bg.id ⟨a,b,s⟩ x.fols).length ((dK bg.id ⟨a,b,s⟩ x.fols).flatMap bg.cells)):=by
     have e1:=mv bg.clen x.fols k;have e2:=my bg.clen x.fols k;have e3:[I J a,I J b,V s]=bg.cells ⟨a,b,s⟩:=rfl
     (try simp only at eh)
     rw[e1,e2,e3,List.append_assoc,←List.flatMap_cons,←List.flatMap_append,←yB.out,←HDn.out] at eh;exact eh.mono λk hk=>Nat.le_trans hsz hk
    have cY:=h_ hF;have fp:=h_ hbg;clear uT ff hb4 hF Ex eh hsz hbg fg qq;go_wp2
    all_goals
     simp only[aj,ae,Tryz.f31];go_wp2
     all_goals
      simp only[World.setCells] at eB;rw[←eB];refine bodyPost_ret (tF fp.out rfl) rfl ?_;refine⟨(A',c'),?_,⟨Dz.out.mono λk hk=>.inr hk,((iW.out.nix cY.out).fees).mono λk hk=>.inl hk,((iW.out.nix cY.out).itms).mono λk hk=>.inl hk,iW.out.same,((iW.out.nix cY.out).seas).mono λk hk=>.inl hk⟩,cY.out⟩;rw[HDn.out]
theorem Ey(hS:aM w G fo fe it se ts x)(hsm:aH x):
  Calls pQ 31 #[bE fo fe it se x,dt ⟨3,a,b,n,s,t,u⟩] w λr w'=>∃(fe':Sl),r=.returned (bE fo fe' it se {x with fees:=(dK aP.id ⟨a,b,s,t⟩ x.fees),tFee:=max x.tFee a})∧aM w' (λk=>G k∨w.heap.size≤k) fo fe' it se ts {x with fees:=(dK aP.id ⟨a,b,s,t⟩ x.fees),tFee:=max x.tFee a}∧aa ac w w':=by
 obtain⟨w0,hw0,hf0,hb1,hb2,hb3⟩:=iH w fo fe it se x 3 a b n s t u;have ew:=hsm.fees;have iW:=h_ hS;have HS:=h_ (hS.nix hf0);have gH:=h_ hb1;have kh:=h_ hb2;have pF:=h_ hb3;have dM:=h_ hf0;have HW:=h_ hw0;obtain⟨p,hp⟩:∃p,rB aP.id a x.fees=p:=⟨_,rfl⟩;have nW:p≤x.fees.length:=by rw[←hp];exact vp
 have zS:Hid (∀(j:Nat) (hj:j<x.fees.length),j<p→aP.id x.fees[j]<a):=λj hj h=>vq (by rw[hp];exact h) hj
 have E6:Hid (∀hj:p<x.fees.length,¬aP.id x.fees[p]<a):=λhj=>by
  have:=@vr a _ aP.id x.fees (by rw[hp];exact hj);simp only[hp] at this;exact this
 have yB:Hid ((dK aP.id ⟨a,b,s,t⟩ x.fees)=x.fees.take p++(⟨a,b,s,t⟩:aP)::x.fees.drop p):=by
  have:=@ru _ aP.id (⟨a,b,s,t⟩:aP) x.fees;unfold Hid;rw[this];have e:rB aP.id (aP.id (⟨a,b,s,t⟩:aP)) x.fees=p:=hp;rw[e]
 have HDn:Hid ((dK aP.id ⟨a,b,s,t⟩ x.fees).length=p+1+(x.fees.length-p)):=by unfold Hid;rw[yB.out];simp;omega
 clear hS hsm hf0 hb1 hb2 hb3 hw0 hp;unfold bE dt;dsimp only;obtain⟨A,c⟩:=fe;dsimp only at HS iW gH HW ⊢;go_enter Tryz.func31,Tryz.ntmps31;show Code.wp pQ (aj 0 (ae Tryz.f31)) _ _ _
 refine aG (k':=1) λK hK=>?_
 conv in bz _=>whnf
 go_wp2;rw[←HW.out];refine aG (k':=2) λK hK=>?_
 conv in bz _=>whnf
 go_wp2;obtain⟨e0,e1,e2,e3,e4,e5,e6⟩:=ap kh.out;obtain⟨x0,x1,x2,x3,x4,x5,x6,x7,x8⟩:=ak gH.out;refine aG (k':=3) λK hK=>?_
 conv in bz _=>whnf
 go_wp2
 go_loopw [5] (λkv wr=>∃k:Nat,k≤p∧kv=I J k∧aa ac w0 wr) (λkv _=>x.fees.length-(intOf kv).toNat)
 case atStart=>exact⟨0,by omega,rfl,aa.refl _ _⟩
 case round=>
  obtain⟨k,hk,rfl,hf⟩:=hrel;have HF:=h_ hf;clear x0 x1 x2 x3 x4 x5 x6 x7 x8 e0 e1 e2 e3 e4 e5 e6 hf;obtain⟨e0,e1,e2,e3,e4,e5,e6⟩:=ap (kh.out.frm HF.out id);obtain⟨x0,x1,x2,x3,x4,x5,x6,x7,x8⟩:=ak (gH.out.frm HF.out id)
  by_cases hlt:k<p
  ·have dX:k<x.fees.length:=by omega
   obtain⟨g,off,hA,-,hbl,hcell⟩:=(HS.out.fees.nix HF.out).at_ aP.clen (by decide) (by omega);dsimp only at hA;subst hA;have p0:=hcell k dX 0 _ rfl;rw[Nat.add_zero] at p0;have hid:=zS.out k dX hlt;obtain⟨q,hq⟩:∃q,x.fees[k]=q:=⟨_,rfl⟩;rw[hq] at p0 hid;clear hcell hq;go_wp2;go_quiet (fail);go_wp2;go_roundw
   case rel=>exact⟨k+1,by omega,by go_num,HF.out.drewN _⟩
   case measure=>simp[intOf];omega
  ·obtain rfl:k=p:=by omega
   by_cases hend:k<x.fees.length
   case' neg=>
    go_wp2;go_quiet (fail)
   case' pos=>
    obtain⟨g,off,hA,-,hbl,hcell⟩:=(HS.out.fees.nix HF.out).at_ aP.clen (by decide) (by omega);dsimp only at hA;subst hA;have p0:=hcell k hend 0 _ rfl;rw[Nat.add_zero] at p0;have hid:=E6.out hend;obtain⟨q,hq⟩:∃q,x.fees[k]=q:=⟨_,rfl⟩;rw[hq] at p0 hid;clear hcell hq;go_wp2;go_quiet (fail);generalize (some ⟨g,off,none⟩:Option Addr)=A at *
   all_goals
    obtain⟨wq,zK⟩:∃wq,wq=wr.drewN nq:=⟨_,rfl⟩;rw[←zK];have tB:aa ac w0 wq:=by rw[zK];exact HF.out.drewN _
    have wX:=h_ tB;clear zK x0 x1 x2 x3 x4 x5 x6 x7 x8 e0 e1 e2 e3 e4 e5 e6;have hs1:=(HS.out.fees).nix tB;obtain⟨sv,rA,rc,wa,Hn,jq,nX⟩:=tC ql (p:=k) hs1 (tE x.fees) (by exact ew) (by exact nW) (by omega);have fa:=nX.frm;obtain⟨⟨v11,pG,v12,yw,B1,d1,Fg,a1,a2,a3,a4,a5,a6⟩,⟨v21,xi,v22,zT,B2,d2,Fh,b1,b2,b3,b4,b5,b6⟩,⟨v31,zU,v32,zV,B3,d3,Fi,c1,c2,c3,c4,c5,c6⟩⟩:=rx ql (rc:=rc) (ys:=[I J a,I J b,V s,V t]) (hs1.nix fa) nX.rd rfl (tE x.fees) (by intro z hz;simp at hz;rcases hz with rfl|rfl|rfl|rfl<;>rfl) (by exact ew) (by exact nW) (by omega);have iX:=gH.out.frm tB id;have pd:=kh.out.frm tB id;have cx:∀{W:World},aa ac wq W→W.cell? ⟨w.heap.size,2,none⟩=some (U A x.fees.length c):=λhW=>((iX.frm hW id).cell 2).trans rfl
    have x2:=cx (fR wq);have m2:=cx ((fR wq).alloc (.cells #[] 64));have sk:=h_ (And.intro a5 (And.intro a6 (And.intro b5 (And.intro b6 (And.intro c5 c6)))));have bw:=h_ a4;have gI:=h_ b4;have od:=h_ c4;have ud:=h_ fa;have JC:(0:Int)≤(k:Int):=Int.natCast_nonneg _;have zH:=hs1.cap;have hmx:=hs1.max;dsimp only at zH hmx;have JD:=Int.ofNat_le.2 (Nat.le_trans (show k≤_ by exact nW) zH);have JE:(k:Int)≤(x.fees.length:Int):=by omega
    clear cx a4 b4 c4 a5 a6 b5 b6 c5 c6 fa iX pd nX hs1 hlt;skip;have Ew:k≤x.fees.length:=nW;skip;have Ol:=h_ Hn;clear Hn;go_wp2_with (first|(refine kg ql _ _ rfl rfl rfl rfl Ew Ol.out ?_)|(at_builtin;refine aq jq rfl _ _ rfl rfl rfl ?_));refine Og (bs:=w.heap.size) (gH.out.frm (wX.out.trans ud.out) id) rfl (kh.out.frm (wX.out.trans ud.out) id) (show k≤x.fees.length from nW) zH hmx a1 a2 a3 bw.out sk.out.1 sk.out.2.1 b1 b2 b3 gI.out sk.out.2.2.1 sk.out.2.2.2.1 c1 c2 c3 od.out sk.out.2.2.2.2.1 sk.out.2.2.2.2.2 (λ_ _ _ _ _ h=>h) ?_;rintro wc A' c' z0 z5 Gt Gu hr;have HR:=h_ hr;obtain⟨wd,hwd⟩:∃wd,wd=wc.setCell ⟨w.heap.size,2,none⟩ (U A' (k+1+(x.fees.length-k)) c'):=⟨_,rfl⟩;rw[←hwd];clear a1 a2 a3 b1 b2 b3 c1 c2 c3 jq sk bw gI od hr;have fC:aa ac w0 wc:=(wX.out.trans ud.out).trans HR.out.frm;have sB:ai wd w.heap.size 36 #[I J x.clock,U fo.1 x.fols.length fo.2,U A' (k+1+(x.fees.length-k)) c',U it.1 x.itms.length it.2,U se.1 x.seas.length se.2,I J x.tFol,I J x.tFee,I J x.tItm,I J x.tSea]:=by rw[hwd];exact((gH.out.frm fC id).set_ 2 _)
    have fd:aa (λk=>k=w.heap.size) wc wd:=by rw[hwd];exact(aa.refl (λk=>k=w.heap.size) wc).setCell (.inl rfl) _
    have eo:ai wd (w.heap.size+1) 42 _:=(kh.out.frm fC id).frm fd (by simp);obtain⟨z0,z1,z2,z3,z4,z5,z6,z7,z8⟩:=ak sB;obtain⟨e0,e1,e2,e3,e4,e5,e6⟩:=ap eo;have g0:=sB.frozen 6;have qU:=h_ sB;have uq:=h_ fd;have JG:=h_ fC;clear sB fd fC eo hwd;go_wp2_with (go_at_call 80;refine(tA _ _ _).mono ?_;rintro r w' ⟨rfl,rfl⟩);obtain⟨wf,qq⟩:∃wf,wf=wd.setCell ⟨w.heap.size,6,none⟩ (I J (max x.tFee a)):=⟨_,rfl⟩;rw[←qq];have uT:ai wf w.heap.size 36 #[I J x.clock,U fo.1 x.fols.length fo.2,U A' (k+1+(x.fees.length-k)) c',U it.1 x.itms.length it.2,U se.1 x.seas.length se.2,I J x.tFol,I J (max x.tFee a),I J x.tItm,I J x.tSea]:=by rw[qq];exact(qU.out.set_ 6 _)
    have ff:aa (λk=>k=w.heap.size) wd wf:=by rw[qq];exact(aa.refl (λk=>k=w.heap.size) wd).setCell (.inl rfl) _
    have hb4:ai wf (w.heap.size+1+1) 36 #[I J 0,U none 0 0,U none 0 0,U none 0 0,U none 0 0,I J 0,I J 0,I J 0,I J 0]:=((pF.out.frm JG.out id).frm uq.out (by simp)).frm ff (by simp);clear z0 z1 z2 z3 z4 z5 z6 z7 z8 e0 e1 e2 e3 e4 e5 e6 g0;obtain⟨z0,z1,z2,z3,z4,z5,z6,z7,z8⟩:=ak uT;obtain⟨y0,y1,y2,y3,y4,y5,y6,y7,y8⟩:=ak hb4;have g0:=hb4.frozen 0;have g1:=hb4.frozen 1;have g2:=hb4.frozen 2;have g3:=hb4.frozen 3;have g4:=hb4.frozen 4;have g5:=hb4.frozen 5;have g6:=hb4.frozen 6;have g7:=hb4.frozen 7;have g8:=hb4.frozen 8;obtain⟨we,eB⟩:∃we,we=wf.setCells (w.heap.size+1+1) 0 [I J x.clock,U fo.1 x.fols.length fo.2,U A' (k+1+(x.fees.length-k)) c',U it.1 x.itms.length it.2,U se.1 x.seas.length se.2,I J x.tFol,I J (max x.tFee a),I J x.tItm,I J x.tSea]:=⟨_,rfl⟩
    have hbg:ai we (w.heap.size+1+1) 36 #[I J x.clock,U fo.1 x.fols.length fo.2,U A' (k+1+(x.fees.length-k)) c',U it.1 x.itms.length it.2,U se.1 x.seas.length se.2,I J x.tFol,I J (max x.tFee a),I J x.tItm,I J x.tSea]:=by
     have:=ai.putL [I J x.clock,U fo.1 x.fols.length fo.2,U A' (k+1+(x.fees.length-k)) c',U it.1 x.itms.length it.2,U se.1 x.seas.length se.2,I J x.tFol,I J (max x.tFee a),I J x.tItm,I J x.tSea] 0 hb4;rw[i7] at this;rw[eB];exact this
    have fg:aa (λk=>k=w.heap.size+1+1) wf we:=by rw[eB];exact aa.setCells _ 0 (aa.refl _ _) (.inl rfl)
    have Ex:aa (λk=>k=w.heap.size∨k=w.heap.size+1+1) wc we:=((uq.out.mono λk hk=>.inl hk).trans (ff.mono λk hk=>.inl hk)).trans (fg.mono λk hk=>.inr hk);have hsz:=(dM.out.trans (wX.out.trans ud.out)).size;have hL:=pF.out.frm (wX.out.trans ud.out) id |>.lt
    have hF:aa ac w we:=((dM.out.trans JG.out)).next Ex (λk hk=>.inr (by rcases hk with hk|hk<;>omega))
    have eh:aN we (λk=>wa.heap.size≤k) 4 (A',c') (k+1+(x.fees.length-k)) ((x.fees.flatMap aP.cells).take (k * 4)++[I J a,I J b,V s,V t]++(x.fees.flatMap aP.cells).drop (k * 4)):=HR.out.sl.frm Ex λk hk e=>by rcases e with e|e<;>omega
    have Dz:Hid (aN we (λk=>w.heap.size≤k) 4 (A',c') (dK aP.id ⟨a,b,s,t⟩ x.fees).length ((dK aP.id ⟨a,b,s,t⟩ x.fees).flatMap aP.cells)):=by
     have e1:=mv aP.clen x.fees k;have e2:=my aP.clen x.fees k;have e3:[I J a,I J b,V s,V t]=aP.cells ⟨a,b,s,t⟩:=rfl
     (try simp only at eh)
     rw[e1,e2,e3,List.append_assoc,←List.flatMap_cons,←List.flatMap_append,←yB.out,←HDn.out] at eh;exact eh.mono λk hk=>Nat.le_trans hsz hk
    have cY:=h_ hF;have fp:=h_ hbg;clear uT ff hb4 hF Ex eh hsz hbg fg qq;go_wp2
    all_goals
     simp only[aj,ae,Tryz.f31];go_wp2
     all_goals
      simp only[World.setCells] at eB;rw[←eB];refine bodyPost_ret (tF fp.out rfl) rfl ?_;refine⟨(A',c'),?_,⟨((iW.out.nix cY.out).fols).mono λk hk=>.inl hk,Dz.out.mono λk hk=>.inr hk,((iW.out.nix cY.out).itms).mono λk hk=>.inl hk,iW.out.same,((iW.out.nix cY.out).seas).mono λk hk=>.inl hk⟩,cY.out⟩;rw[HDn.out]
theorem Cp(hS:aM w G fo fe it se ts x)(hsm:aH x):
  Calls pQ 31 #[bE fo fe it se x,dt ⟨11,a,b,n,s,t,u⟩] w λr w'=>∃(se':Sl),r=.returned (bE fo fe it se' {x with seas:=(dK dE.id ⟨a,s,t⟩ x.seas),tSea:=max x.tSea a})∧aM w' (λk=>G k∨w.heap.size≤k) fo fe it se' ts {x with seas:=(dK dE.id ⟨a,s,t⟩ x.seas),tSea:=max x.tSea a}∧aa ac w w':=by
 obtain⟨w0,hw0,hf0,hb1,hb2,hb3⟩:=iH w fo fe it se x 11 a b n s t u;have ew:=hsm.seas;have iW:=h_ hS;have HS:=h_ (hS.nix hf0);have gH:=h_ hb1;have kh:=h_ hb2;have pF:=h_ hb3;have dM:=h_ hf0;have HW:=h_ hw0;obtain⟨p,hp⟩:∃p,rB dE.id a x.seas=p:=⟨_,rfl⟩;have nW:p≤x.seas.length:=by rw[←hp];exact vp
 have zS:Hid (∀(j:Nat) (hj:j<x.seas.length),j<p→dE.id x.seas[j]<a):=λj hj h=>vq (by rw[hp];exact h) hj
 have E6:Hid (∀hj:p<x.seas.length,¬dE.id x.seas[p]<a):=λhj=>by
  have:=@vr a _ dE.id x.seas (by rw[hp];exact hj);simp only[hp] at this;exact this
 have yB:Hid ((dK dE.id ⟨a,s,t⟩ x.seas)=x.seas.take p++(⟨a,s,t⟩:dE)::x.seas.drop p):=by
  have:=@ru _ dE.id (⟨a,s,t⟩:dE) x.seas;unfold Hid;rw[this];have e:rB dE.id (dE.id (⟨a,s,t⟩:dE)) x.seas=p:=hp;rw[e]
 have HDn:Hid ((dK dE.id ⟨a,s,t⟩ x.seas).length=p+1+(x.seas.length-p)):=by unfold Hid;rw[yB.out];simp;omega
 clear hS hsm hf0 hb1 hb2 hb3 hw0 hp;unfold bE dt;dsimp only;obtain⟨A,c⟩:=se;dsimp only at HS iW gH HW ⊢;go_enter Tryz.func31,Tryz.ntmps31;show Code.wp pQ (aj 0 (ae Tryz.f31)) _ _ _
 refine aG (k':=1) λK hK=>?_
 conv in bz _=>whnf
 go_wp2;rw[←HW.out];refine aG (k':=2) λK hK=>?_
 conv in bz _=>whnf
 go_wp2;obtain⟨e0,e1,e2,e3,e4,e5,e6⟩:=ap kh.out;obtain⟨x0,x1,x2,x3,x4,x5,x6,x7,x8⟩:=ak gH.out;refine aG (k':=3) λK hK=>?_
 conv in bz _=>whnf
 go_wp2
 go_loopw [5] (λkv wr=>∃k:Nat,k≤p∧kv=I J k∧aa ac w0 wr) (λkv _=>x.seas.length-(intOf kv).toNat)
 case atStart=>exact⟨0,by omega,rfl,aa.refl _ _⟩
 case round=>
  obtain⟨k,hk,rfl,hf⟩:=hrel;have HF:=h_ hf;clear x0 x1 x2 x3 x4 x5 x6 x7 x8 e0 e1 e2 e3 e4 e5 e6 hf;obtain⟨e0,e1,e2,e3,e4,e5,e6⟩:=ap (kh.out.frm HF.out id);obtain⟨x0,x1,x2,x3,x4,x5,x6,x7,x8⟩:=ak (gH.out.frm HF.out id)
  by_cases hlt:k<p
  ·have dX:k<x.seas.length:=by omega
   obtain⟨g,off,hA,-,hbl,hcell⟩:=(HS.out.seas.nix HF.out).at_ dE.clen (by decide) (by omega);dsimp only at hA;subst hA;have p0:=hcell k dX 0 _ rfl;rw[Nat.add_zero] at p0;have hid:=zS.out k dX hlt;obtain⟨q,hq⟩:∃q,x.seas[k]=q:=⟨_,rfl⟩;rw[hq] at p0 hid;clear hcell hq;go_wp2;go_quiet (fail);go_wp2;go_roundw
   case rel=>exact⟨k+1,by omega,by go_num,HF.out.drewN _⟩
   case measure=>simp[intOf];omega
  ·obtain rfl:k=p:=by omega
   by_cases hend:k<x.seas.length
   case' neg=>
    go_wp2;go_quiet (fail)
   case' pos=>
    obtain⟨g,off,hA,-,hbl,hcell⟩:=(HS.out.seas.nix HF.out).at_ dE.clen (by decide) (by omega);dsimp only at hA;subst hA;have p0:=hcell k hend 0 _ rfl;rw[Nat.add_zero] at p0;have hid:=E6.out hend;obtain⟨q,hq⟩:∃q,x.seas[k]=q:=⟨_,rfl⟩;rw[hq] at p0 hid;clear hcell hq;go_wp2;go_quiet (fail);generalize (some ⟨g,off,none⟩:Option Addr)=A at *
   all_goals
    obtain⟨wq,zK⟩:∃wq,wq=wr.drewN nq:=⟨_,rfl⟩;rw[←zK];have tB:aa ac w0 wq:=by rw[zK];exact HF.out.drewN _
    have wX:=h_ tB;clear zK x0 x1 x2 x3 x4 x5 x6 x7 x8 e0 e1 e2 e3 e4 e5 e6;have hs1:=(HS.out.seas).nix tB;obtain⟨sv,rA,rc,wa,Hn,jq,nX⟩:=tC sX (p:=k) hs1 (zJ x.seas) (by exact ew) (by exact nW) (by omega);have fa:=nX.frm;obtain⟨⟨v11,pG,v12,yw,B1,d1,Fg,a1,a2,a3,a4,a5,a6⟩,⟨v21,xi,v22,zT,B2,d2,Fh,b1,b2,b3,b4,b5,b6⟩,⟨v31,zU,v32,zV,B3,d3,Fi,c1,c2,c3,c4,c5,c6⟩⟩:=rx sX (rc:=rc) (ys:=[I J a,V s,V t]) (hs1.nix fa) nX.rd rfl (zJ x.seas) (by intro z hz;simp at hz;rcases hz with rfl|rfl|rfl<;>rfl) (by exact ew) (by exact nW) (by omega);have iX:=gH.out.frm tB id;have pd:=kh.out.frm tB id;have cx:∀{W:World},aa ac wq W→W.cell? ⟨w.heap.size,4,none⟩=some (U A x.seas.length c):=λhW=>((iX.frm hW id).cell 4).trans rfl
    have x4:=cx (fR wq);have m4:=cx ((fR wq).alloc (.cells #[] 84));have sk:=h_ (And.intro a5 (And.intro a6 (And.intro b5 (And.intro b6 (And.intro c5 c6)))));have bw:=h_ a4;have gI:=h_ b4;have od:=h_ c4;have ud:=h_ fa;have JC:(0:Int)≤(k:Int):=Int.natCast_nonneg _;have zH:=hs1.cap;have hmx:=hs1.max;dsimp only at zH hmx;have JD:=Int.ofNat_le.2 (Nat.le_trans (show k≤_ by exact nW) zH);have JE:(k:Int)≤(x.seas.length:Int):=by omega
    clear cx a4 b4 c4 a5 a6 b5 b6 c5 c6 fa iX pd nX hs1 hlt;skip;have Ew:k≤x.seas.length:=nW;skip;have Ol:=h_ Hn;clear Hn;go_wp2_with (first|(refine kg sX _ _ rfl rfl rfl rfl Ew Ol.out ?_)|(at_builtin;refine aq jq rfl _ _ rfl rfl rfl ?_));refine LL (bs:=w.heap.size) (gH.out.frm (wX.out.trans ud.out) id) rfl (kh.out.frm (wX.out.trans ud.out) id) (show k≤x.seas.length from nW) zH hmx a1 a2 a3 bw.out sk.out.1 sk.out.2.1 b1 b2 b3 gI.out sk.out.2.2.1 sk.out.2.2.2.1 c1 c2 c3 od.out sk.out.2.2.2.2.1 sk.out.2.2.2.2.2 (λ_ _ _ _ _ h=>h) ?_;rintro wc A' c' z0 z5 Gt Gu hr;have HR:=h_ hr;obtain⟨wd,hwd⟩:∃wd,wd=wc.setCell ⟨w.heap.size,4,none⟩ (U A' (k+1+(x.seas.length-k)) c'):=⟨_,rfl⟩;rw[←hwd];clear a1 a2 a3 b1 b2 b3 c1 c2 c3 jq sk bw gI od hr;have fC:aa ac w0 wc:=(wX.out.trans ud.out).trans HR.out.frm;have sB:ai wd w.heap.size 36 #[I J x.clock,U fo.1 x.fols.length fo.2,U fe.1 x.fees.length fe.2,U it.1 x.itms.length it.2,U A' (k+1+(x.seas.length-k)) c',I J x.tFol,I J x.tFee,I J x.tItm,I J x.tSea]:=by rw[hwd];exact((gH.out.frm fC id).set_ 4 _)
    have fd:aa (λk=>k=w.heap.size) wc wd:=by rw[hwd];exact(aa.refl (λk=>k=w.heap.size) wc).setCell (.inl rfl) _
    have eo:ai wd (w.heap.size+1) 42 _:=(kh.out.frm fC id).frm fd (by simp);obtain⟨z0,z1,z2,z3,z4,z5,z6,z7,z8⟩:=ak sB;obtain⟨e0,e1,e2,e3,e4,e5,e6⟩:=ap eo;have g0:=sB.frozen 8;have qU:=h_ sB;have uq:=h_ fd;have JG:=h_ fC;clear sB fd fC eo hwd;go_wp2_with (go_at_call 80;refine(tA _ _ _).mono ?_;rintro r w' ⟨rfl,rfl⟩);obtain⟨wf,qq⟩:∃wf,wf=wd.setCell ⟨w.heap.size,8,none⟩ (I J (max x.tSea a)):=⟨_,rfl⟩;rw[←qq];have uT:ai wf w.heap.size 36 #[I J x.clock,U fo.1 x.fols.length fo.2,U fe.1 x.fees.length fe.2,U it.1 x.itms.length it.2,U A' (k+1+(x.seas.length-k)) c',I J x.tFol,I J x.tFee,I J x.tItm,I J (max x.tSea a)]:=by rw[qq];exact(qU.out.set_ 8 _)
    have ff:aa (λk=>k=w.heap.size) wd wf:=by rw[qq];exact(aa.refl (λk=>k=w.heap.size) wd).setCell (.inl rfl) _
    have hb4:ai wf (w.heap.size+1+1) 36 #[I J 0,U none 0 0,U none 0 0,U none 0 0,U none 0 0,I J 0,I J 0,I J 0,I J 0]:=((pF.out.frm JG.out id).frm uq.out (by simp)).frm ff (by simp);clear z0 z1 z2 z3 z4 z5 z6 z7 z8 e0 e1 e2 e3 e4 e5 e6 g0;obtain⟨z0,z1,z2,z3,z4,z5,z6,z7,z8⟩:=ak uT;obtain⟨y0,y1,y2,y3,y4,y5,y6,y7,y8⟩:=ak hb4;have g0:=hb4.frozen 0;have g1:=hb4.frozen 1;have g2:=hb4.frozen 2;have g3:=hb4.frozen 3;have g4:=hb4.frozen 4;have g5:=hb4.frozen 5;have g6:=hb4.frozen 6;have g7:=hb4.frozen 7;have g8:=hb4.frozen 8;obtain⟨we,eB⟩:∃we,we=wf.setCells (w.heap.size+1+1) 0 [I J x.clock,U fo.1 x.fols.length fo.2,U fe.1 x.fees.length fe.2,U it.1 x.itms.length it.2,U A' (k+1+(x.seas.length-k)) c',I J x.tFol,I J x.tFee,I J x.tItm,I J (max x.tSea a)]:=⟨_,rfl⟩
    have hbg:ai we (w.heap.size+1+1) 36 #[I J x.clock,U fo.1 x.fols.length fo.2,U fe.1 x.fees.length fe.2,U it.1 x.itms.length it.2,U A' (k+1+(x.seas.length-k)) c',I J x.tFol,I J x.tFee,I J x.tItm,I J (max x.tSea a)]:=by
     have:=ai.putL [I J x.clock,U fo.1 x.fols.length fo.2,U fe.1 x.fees.length fe.2,U it.1 x.itms.length it.2,U A' (k+1+(x.seas.length-k)) c',I J x.tFol,I J x.tFee,I J x.tItm,I J (max x.tSea a)] 0 hb4;rw[i7] at this;rw[eB];exact this
    have fg:aa (λk=>k=w.heap.size+1+1) wf we:=by rw[eB];exact aa.setCells _ 0 (aa.refl _ _) (.inl rfl)
    have Ex:aa (λk=>k=w.heap.size∨k=w.heap.size+1+1) wc we:=((uq.out.mono λk hk=>.inl hk).trans (ff.mono λk hk=>.inl hk)).trans (fg.mono λk hk=>.inr hk);have hsz:=(dM.out.trans (wX.out.trans ud.out)).size;have hL:=pF.out.frm (wX.out.trans ud.out) id |>.lt
    have hF:aa ac w we:=((dM.out.trans JG.out)).next Ex (λk hk=>.inr (by rcases hk with hk|hk<;>omega))
    have eh:aN we (λk=>wa.heap.size≤k) 3 (A',c') (k+1+(x.seas.length-k)) ((x.seas.flatMap dE.cells).take (k * 3)++[I J a,V s,V t]++(x.seas.flatMap dE.cells).drop (k * 3)):=HR.out.sl.frm Ex λk hk e=>by rcases e with e|e<;>omega
    have Dz:Hid (aN we (λk=>w.heap.size≤k) 3 (A',c') (dK dE.id ⟨a,s,t⟩ x.seas).length ((dK dE.id ⟨a,s,t⟩ x.seas).flatMap dE.cells)):=by
     have e1:=mv dE.clen x.seas k;have e2:=my dE.clen x.seas k;have e3:[I J a,V s,V t]=dE.cells ⟨a,s,t⟩:=rfl
     (try simp only at eh)
     rw[e1,e2,e3,List.append_assoc,←List.flatMap_cons,←List.flatMap_append,←yB.out,←HDn.out] at eh;exact eh.mono λk hk=>Nat.le_trans hsz hk
    have cY:=h_ hF;have fp:=h_ hbg;clear uT ff hb4 hF Ex eh hsz hbg fg qq;go_wp2
    all_goals
     simp only[aj,ae,Tryz.f31];go_wp2
     all_goals
      simp only[World.setCells] at eB;rw[←eB];refine bodyPost_ret (tF fp.out rfl) rfl ?_;refine⟨(A',c'),?_,⟨((iW.out.nix cY.out).fols).mono λk hk=>.inl hk,((iW.out.nix cY.out).fees).mono λk hk=>.inl hk,((iW.out.nix cY.out).itms).mono λk hk=>.inl hk,iW.out.same,Dz.out.mono λk hk=>.inr hk⟩,cY.out⟩;rw[HDn.out]
theorem Ez(hS:aM w G fo fe it se ts x)(hsm:aH x):
  Calls pQ 31 #[bE fo fe it se x,dt ⟨7,a,b,n,s,t,u⟩] w λr w'=>∃(it':Sl) (ts':List (Sl×aJ)),r=.returned (bE fo fe it' se {x with itms:=(dK aJ.id ⟨a,b,n,s,t,u,false,false,[]⟩ x.itms),tItm:=max x.tItm a})∧aM w' (λk=>G k∨w.heap.size≤k) fo fe it' se ts' {x with itms:=(dK aJ.id ⟨a,b,n,s,t,u,false,false,[]⟩ x.itms),tItm:=max x.tItm a}∧aa ac w w':=by
 obtain⟨w0,hw0,hf0,hb1,hb2,hb3⟩:=iH w fo fe it se x 7 a b n s t u;have ew:=hsm.itms;have iW:=h_ hS;have HS:=h_ (hS.nix hf0);have gH:=h_ hb1;have kh:=h_ hb2;have pF:=h_ hb3;have dM:=h_ hf0;have HW:=h_ hw0;obtain⟨p,hp⟩:∃p,rB aJ.id a x.itms=p:=⟨_,rfl⟩;have nW:p≤x.itms.length:=by rw[←hp];exact vp
 have zS:Hid (∀(j:Nat) (hj:j<x.itms.length),j<p→aJ.id x.itms[j]<a):=λj hj h=>vq (by rw[hp];exact h) hj
 have E6:Hid (∀hj:p<x.itms.length,¬aJ.id x.itms[p]<a):=λhj=>by
  have:=@vr a _ aJ.id x.itms (by rw[hp];exact hj);simp only[hp] at this;exact this
 have yB:Hid ((dK aJ.id ⟨a,b,n,s,t,u,false,false,[]⟩ x.itms)=x.itms.take p++(⟨a,b,n,s,t,u,false,false,[]⟩:aJ)::x.itms.drop p):=by
  have:=@ru _ aJ.id (⟨a,b,n,s,t,u,false,false,[]⟩:aJ) x.itms;unfold Hid;rw[this];have e:rB aJ.id (aJ.id (⟨a,b,n,s,t,u,false,false,[]⟩:aJ)) x.itms=p:=hp;rw[e]
 have HDn:Hid ((dK aJ.id ⟨a,b,n,s,t,u,false,false,[]⟩ x.itms).length=p+1+(x.itms.length-p)):=by unfold Hid;rw[yB.out];simp;omega
 clear hS hsm hf0 hb1 hb2 hb3 hw0 hp;unfold bE dt;dsimp only;obtain⟨A,c⟩:=it;dsimp only at HS iW gH HW ⊢;have hlen:ts.length=x.itms.length:=iW.out.len
 have uG:Hid ((ts.take p++((none,0),(⟨a,b,n,s,t,u,false,false,[]⟩:aJ))::ts.drop p).map (·.2)=dK aJ.id ⟨a,b,n,s,t,u,false,false,[]⟩ x.itms):=by
  unfold Hid;rw[yB.out,List.map_append,List.map_cons,List.map_take,List.map_drop,iW.out.same]
 go_enter Tryz.func31,Tryz.ntmps31;show Code.wp pQ (aj 0 (ae Tryz.f31)) _ _ _
 refine aG (k':=1) λK hK=>?_
 conv in bz _=>whnf
 go_wp2;rw[←HW.out];refine aG (k':=2) λK hK=>?_
 conv in bz _=>whnf
 go_wp2;obtain⟨e0,e1,e2,e3,e4,e5,e6⟩:=ap kh.out;obtain⟨x0,x1,x2,x3,x4,x5,x6,x7,x8⟩:=ak gH.out;refine aG (k':=3) λK hK=>?_
 conv in bz _=>whnf
 go_wp2
 go_loopw [5] (λkv wr=>∃k:Nat,k≤p∧kv=I J k∧aa ac w0 wr) (λkv _=>x.itms.length-(intOf kv).toNat)
 case atStart=>exact⟨0,by omega,rfl,aa.refl _ _⟩
 case round=>
  obtain⟨k,hk,rfl,hf⟩:=hrel;have HF:=h_ hf;clear x0 x1 x2 x3 x4 x5 x6 x7 x8 e0 e1 e2 e3 e4 e5 e6 hf;obtain⟨e0,e1,e2,e3,e4,e5,e6⟩:=ap (kh.out.frm HF.out id);obtain⟨x0,x1,x2,x3,x4,x5,x6,x7,x8⟩:=ak (gH.out.frm HF.out id)
  by_cases hlt:k<p
  ·have dX:k<x.itms.length:=by omega
   obtain⟨mZ,wR⟩:=pw HS.out dX;obtain⟨g,off,hA,-,hbl,hcell⟩:=(HS.out.itms.row.nix HF.out).at_ dp (by decide) (by omega);dsimp only at hA;subst hA;have p0:=hcell k mZ 0 _ rfl;rw[Nat.add_zero] at p0;have hid:=zS.out k dX hlt;rw[←wR] at hid;obtain⟨q,hq⟩:∃q,ts[k]=q:=⟨_,rfl⟩;rw[hq] at p0 hid;clear hcell hq wR;go_wp2;go_quiet (fail);go_wp2;go_roundw
   case rel=>exact⟨k+1,by omega,by go_num,HF.out.drewN _⟩
   case measure=>simp[intOf];omega
  ·obtain rfl:k=p:=by omega
   by_cases hend:k<x.itms.length
   case' neg=>
    go_wp2;go_quiet (fail)
   case' pos=>
    obtain⟨mZ,wR⟩:=pw HS.out hend;obtain⟨g,off,hA,-,hbl,hcell⟩:=(HS.out.itms.row.nix HF.out).at_ dp (by decide) (by omega);dsimp only at hA;subst hA;have p0:=hcell k mZ 0 _ rfl;rw[Nat.add_zero] at p0;have hid:=E6.out hend;rw[←wR] at hid;obtain⟨q,hq⟩:∃q,ts[k]=q:=⟨_,rfl⟩;rw[hq] at p0 hid;clear hcell hq wR;go_wp2;go_quiet (fail);generalize (some ⟨g,off,none⟩:Option Addr)=A at *
   all_goals
    obtain⟨wq,zK⟩:∃wq,wq=wr.drewN nq:=⟨_,rfl⟩;rw[←zK];have tB:aa ac w0 wq:=by rw[zK];exact HF.out.drewN _
    have wX:=h_ tB;clear zK x0 x1 x2 x3 x4 x5 x6 x7 x8 e0 e1 e2 e3 e4 e5 e6;have hs1:=(HS.out.itms.row).nix tB;obtain⟨sv,rA,rc,wa,Hn,jq,nX⟩:=tC pj (p:=k) hs1 (tD ts) (by rw[hlen];exact ew) (by rw[hlen];exact nW) (by omega);have fa:=nX.frm;obtain⟨⟨v11,pG,v12,yw,B1,d1,Fg,a1,a2,a3,a4,a5,a6⟩,⟨v21,xi,v22,zT,B2,d2,Fh,b1,b2,b3,b4,b5,b6⟩,⟨v31,zU,v32,zV,B3,d3,Fi,c1,c2,c3,c4,c5,c6⟩⟩:=rx pj (rc:=rc) (ys:=[I J a,I J b,I J n,V s,V t,V u,.bool false,.bool false,U none 0 0]) (hs1.nix fa) nX.rd rfl (tD ts) (by intro z hz;simp at hz;rcases hz with rfl|rfl|rfl|rfl|rfl|rfl|rfl|rfl<;>rfl) (by rw[hlen];exact ew) (by rw[hlen];exact nW) (by omega);have iX:=gH.out.frm tB id;have pd:=kh.out.frm tB id;have cx:∀{W:World},aa ac wq W→W.cell? ⟨w.heap.size,3,none⟩=some (U A x.itms.length c):=λhW=>((iX.frm hW id).cell 3).trans rfl
    have x3:=cx (fR wq);have m3:=cx ((fR wq).alloc (.cells #[] 82));have sk:=h_ (And.intro a5 (And.intro a6 (And.intro b5 (And.intro b6 (And.intro c5 c6)))));have bw:=h_ a4;have gI:=h_ b4;have od:=h_ c4;have ud:=h_ fa;have JC:(0:Int)≤(k:Int):=Int.natCast_nonneg _;have zH:=hs1.cap;have hmx:=hs1.max;dsimp only at zH hmx;have JD:=Int.ofNat_le.2 (Nat.le_trans (show k≤_ by rw[hlen];exact nW) zH);have JE:(k:Int)≤(x.itms.length:Int):=by omega
    clear cx a4 b4 c4 a5 a6 b5 b6 c5 c6 fa iX pd nX hs1 hlt;rw[hlen] at jq a3 b3 c3 bw gI od;have Ew:k≤x.itms.length:=nW;rw[hlen] at Hn;have Ol:=h_ Hn;clear Hn;go_wp2_with (first|(refine kg pj _ _ rfl rfl rfl rfl Ew Ol.out ?_)|(at_builtin;refine aq jq rfl _ _ rfl rfl rfl ?_));refine Oh (bs:=w.heap.size) (gH.out.frm (wX.out.trans ud.out) id) rfl (kh.out.frm (wX.out.trans ud.out) id) (show k≤x.itms.length from nW) (by rw[←hlen];exact zH) hmx a1 a2 a3 bw.out sk.out.1 sk.out.2.1 b1 b2 b3 gI.out sk.out.2.2.1 sk.out.2.2.2.1 c1 c2 c3 od.out sk.out.2.2.2.2.1 sk.out.2.2.2.2.2 (λ_ _ _ _ _ h=>h) ?_;rintro wc A' c' z0 z5 Gt Gu hr;have HR:=h_ hr;obtain⟨wd,hwd⟩:∃wd,wd=wc.setCell ⟨w.heap.size,3,none⟩ (U A' (k+1+(x.itms.length-k)) c'):=⟨_,rfl⟩;rw[←hwd];clear a1 a2 a3 b1 b2 b3 c1 c2 c3 jq sk bw gI od hr;have fC:aa ac w0 wc:=(wX.out.trans ud.out).trans HR.out.frm;have sB:ai wd w.heap.size 36 #[I J x.clock,U fo.1 x.fols.length fo.2,U fe.1 x.fees.length fe.2,U A' (k+1+(x.itms.length-k)) c',U se.1 x.seas.length se.2,I J x.tFol,I J x.tFee,I J x.tItm,I J x.tSea]:=by rw[hwd];exact((gH.out.frm fC id).set_ 3 _)
    have fd:aa (λk=>k=w.heap.size) wc wd:=by rw[hwd];exact(aa.refl (λk=>k=w.heap.size) wc).setCell (.inl rfl) _
    have eo:ai wd (w.heap.size+1) 42 _:=(kh.out.frm fC id).frm fd (by simp);obtain⟨z0,z1,z2,z3,z4,z5,z6,z7,z8⟩:=ak sB;obtain⟨e0,e1,e2,e3,e4,e5,e6⟩:=ap eo;have g0:=sB.frozen 7;have qU:=h_ sB;have uq:=h_ fd;have JG:=h_ fC;clear sB fd fC eo hwd;go_wp2_with (go_at_call 80;refine(tA _ _ _).mono ?_;rintro r w' ⟨rfl,rfl⟩);obtain⟨wf,qq⟩:∃wf,wf=wd.setCell ⟨w.heap.size,7,none⟩ (I J (max x.tItm a)):=⟨_,rfl⟩;rw[←qq];have uT:ai wf w.heap.size 36 #[I J x.clock,U fo.1 x.fols.length fo.2,U fe.1 x.fees.length fe.2,U A' (k+1+(x.itms.length-k)) c',U se.1 x.seas.length se.2,I J x.tFol,I J x.tFee,I J (max x.tItm a),I J x.tSea]:=by rw[qq];exact(qU.out.set_ 7 _)
    have ff:aa (λk=>k=w.heap.size) wd wf:=by rw[qq];exact(aa.refl (λk=>k=w.heap.size) wd).setCell (.inl rfl) _
    have hb4:ai wf (w.heap.size+1+1) 36 #[I J 0,U none 0 0,U none 0 0,U none 0 0,U none 0 0,I J 0,I J 0,I J 0,I J 0]:=((pF.out.frm JG.out id).frm uq.out (by simp)).frm ff (by simp);clear z0 z1 z2 z3 z4 z5 z6 z7 z8 e0 e1 e2 e3 e4 e5 e6 g0;obtain⟨z0,z1,z2,z3,z4,z5,z6,z7,z8⟩:=ak uT;obtain⟨y0,y1,y2,y3,y4,y5,y6,y7,y8⟩:=ak hb4;have g0:=hb4.frozen 0;have g1:=hb4.frozen 1;have g2:=hb4.frozen 2;have g3:=hb4.frozen 3;have g4:=hb4.frozen 4;have g5:=hb4.frozen 5;have g6:=hb4.frozen 6;have g7:=hb4.frozen 7;have g8:=hb4.frozen 8;obtain⟨we,eB⟩:∃we,we=wf.setCells (w.heap.size+1+1) 0 [I J x.clock,U fo.1 x.fols.length fo.2,U fe.1 x.fees.length fe.2,U A' (k+1+(x.itms.length-k)) c',U se.1 x.seas.length se.2,I J x.tFol,I J x.tFee,I J (max x.tItm a),I J x.tSea]:=⟨_,rfl⟩
    have hbg:ai we (w.heap.size+1+1) 36 #[I J x.clock,U fo.1 x.fols.length fo.2,U fe.1 x.fees.length fe.2,U A' (k+1+(x.itms.length-k)) c',U se.1 x.seas.length se.2,I J x.tFol,I J x.tFee,I J (max x.tItm a),I J x.tSea]:=by
     have:=ai.putL [I J x.clock,U fo.1 x.fols.length fo.2,U fe.1 x.fees.length fe.2,U A' (k+1+(x.itms.length-k)) c',U se.1 x.seas.length se.2,I J x.tFol,I J x.tFee,I J (max x.tItm a),I J x.tSea] 0 hb4;rw[i7] at this;rw[eB];exact this
    have fg:aa (λk=>k=w.heap.size+1+1) wf we:=by rw[eB];exact aa.setCells _ 0 (aa.refl _ _) (.inl rfl)
    have Ex:aa (λk=>k=w.heap.size∨k=w.heap.size+1+1) wc we:=((uq.out.mono λk hk=>.inl hk).trans (ff.mono λk hk=>.inl hk)).trans (fg.mono λk hk=>.inr hk);have hsz:=(dM.out.trans (wX.out.trans ud.out)).size;have hL:=pF.out.frm (wX.out.trans ud.out) id |>.lt
    have hF:aa ac w we:=((dM.out.trans JG.out)).next Ex (λk hk=>.inr (by rcases hk with hk|hk<;>omega))
    have eh:aN we (λk=>wa.heap.size≤k) 9 (A',c') (k+1+(x.itms.length-k)) ((ts.flatMap iY).take (k * 9)++[I J a,I J b,I J n,V s,V t,V u,.bool false,.bool false,U none 0 0]++(ts.flatMap iY).drop (k * 9)):=HR.out.sl.frm Ex λk hk e=>by rcases e with e|e<;>omega
    have Dz:Hid (qg we (λk=>G k∨w.heap.size≤k) (A',c') (ts.take k++((none,0),(⟨a,b,n,s,t,u,false,false,[]⟩:aJ))::ts.drop k)):=by
     have e1:=mv dp ts k;have e2:=my dp ts k;have e3:[I J a,I J b,I J n,V s,V t,V u,.bool false,.bool false,U none 0 0]=iY ((none,0),(⟨a,b,n,s,t,u,false,false,[]⟩:aJ)):=rfl;have e4:(ts.take k++((none,0),(⟨a,b,n,s,t,u,false,false,[]⟩:aJ))::ts.drop k).length=(k+1+(x.itms.length-k)):=by simp[hlen];omega
     (try simp only at eh)
     rw[e1,e2,e3,List.append_assoc,←List.flatMap_cons,←List.flatMap_append,←e4] at eh;refine⟨eh.mono λk hk=>.inr (Nat.le_trans hsz hk),λq hq=>?_⟩;rcases List.mem_append.1 hq with hq|hq
     ·exact((iW.out.nix hF).itms.tags q (List.mem_of_mem_take hq)).mono λk hk=>.inl hk
     ·rcases List.mem_cons.1 hq with rfl|hq
      ·exact aN.none_ _ _ _
      ·exact((iW.out.nix hF).itms.tags q (List.mem_of_mem_drop hq)).mono λk hk=>.inl hk
    have cY:=h_ hF;have fp:=h_ hbg;clear uT ff hb4 hF Ex eh hsz hbg fg qq;go_wp2
    all_goals
     simp only[aj,ae,Tryz.f31];go_wp2
     all_goals
      simp only[World.setCells] at eB;rw[←eB];refine bodyPost_ret (tF fp.out rfl) rfl ?_;refine⟨(A',c'),(ts.take k++((none,0),(⟨a,b,n,s,t,u,false,false,[]⟩:aJ))::ts.drop k),?_,⟨((iW.out.nix cY.out).fols).mono λk hk=>.inl hk,((iW.out.nix cY.out).fees).mono λk hk=>.inl hk,Dz.out,uG.out,((iW.out.nix cY.out).seas).mono λk hk=>.inl hk⟩,cY.out⟩;rw[HDn.out]
end Go.Proofs.YtaecjmiobllhmaaGreat
