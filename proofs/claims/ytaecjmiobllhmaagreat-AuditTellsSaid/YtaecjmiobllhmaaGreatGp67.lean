/- Words. -/
import Derived.Test.YtaecjmiobllhmaaGreatGp65
import Derived.Test.YtaecjmiobllhmaaGreatGp66
import Derived.Deep.RegionLaw
import Derived.Deep.RegionHeld3
set_option linter.unusedVariables false
set_option linter.unusedSimpArgs false
set_option maxRecDepth 100000
set_option maxHeartbeats 16000000
namespace Go.Proofs.YtaecjmiobllhmaaGreat
open Go.RowKit Go.Lib
theorem made_ret{W:World}{g:Nat}{tmps:Array Value}{a0 a1 a2 a3 a4 a5 a6 a7 a8:Value}(hb:Blk W g 36 #[a0,a1,a2,a3,a4,a5,a6,a7,a8])(h2:tmps.getD 4 undef=.pointer (some ⟨g,0,none⟩)):
  (results Tryz.f31 tmps).run Tryz.prog W=.ok (.agg #[a0,a1,a2,a3,a4,a5,a6,a7,a8]) W:=by
 obtain⟨c0,c1,c2,c3,c4,c5,c6,c7,c8⟩:=blk9 hb;have h2':tmps[4]?.getD undef=.pointer (some ⟨g,0,none⟩):=by simpa using h2
 simp[results,Tryz.results31,h2',go_sem,c0,c1,c2,c3,c4,c5,c6,c7,c8]
theorem rmade1_any{w:World}{fo fe it se:Sl}{ts:List (Sl×Itm)}{x:St}{G:Nat→Prop}(hS:StIn w G fo fe it se ts x)(hsm:StSmall x){a b n:Int}{s t u:ByteArray}:
  Calls Tryz.prog 31 #[stV fo fe it se x,evV ⟨1,a,b,n,s,t,u⟩] w λr w'=>∃(fo':Sl),r=.returned (stV fo' fe it se {x with fols:=(insI Fol.id ⟨a,b,s⟩ x.fols),tFol:=max x.tFol a})∧StIn w' (λk=>G k∨w.heap.size≤k) fo' fe it se ts {x with fols:=(insI Fol.id ⟨a,b,s⟩ x.fols),tFol:=max x.tFol a}∧Frm Nix w w':=by
 obtain⟨w0,hw0,hf0,hb1,hb2,hb3⟩:=box_ser w fo fe it se x 1 a b n s t u;have hcap:=hsm.fols;have HS0:=h_ hS;have HS:=h_ (hS.nix hf0);have HB1:=h_ hb1;have HB2:=h_ hb2;have HB3:=h_ hb3;have HF0:=h_ hf0;have HW:=h_ hw0;obtain⟨p,hp⟩:∃p,cntI Fol.id a x.fols=p:=⟨_,rfl⟩;have hple:p≤x.fols.length:=by rw[←hp];exact cntI_le
 have HLt:Hid (∀(j:Nat) (hj:j<x.fols.length),j<p→Fol.id x.fols[j]<a):=λj hj h=>cntI_lt (by rw[hp];exact h) hj
 have HAt:Hid (∀hj:p<x.fols.length,¬Fol.id x.fols[p]<a):=λhj=>by
  have:=@cntI_at _ Fol.id a x.fols (by rw[hp];exact hj);simp only[hp] at this;exact this
 have HDl:Hid ((insI Fol.id ⟨a,b,s⟩ x.fols)=x.fols.take p++(⟨a,b,s⟩:Fol)::x.fols.drop p):=by
  have:=@insI_take _ Fol.id (⟨a,b,s⟩:Fol) x.fols;unfold Hid;rw[this];have e:cntI Fol.id (Fol.id (⟨a,b,s⟩:Fol)) x.fols=p:=hp;rw[e]
 have HDn:Hid ((insI Fol.id ⟨a,b,s⟩ x.fols).length=p+1+(x.fols.length - p)):=by unfold Hid;rw[HDl.out];simp;omega
 clear hS hsm hf0 hb1 hb2 hb3 hw0 hp;unfold stV evV;dsimp only;obtain⟨A,c⟩:=fo;dsimp only at HS HS0 HB1 HW ⊢;go_enter Tryz.func31,Tryz.ntmps31;show Code.wp Tryz.prog (peel 0 (bodyOf Tryz.f31)) _ _ _
 refine peelK (k':=1) λK hK=>?_
 conv in hdC _=>whnf
 go_wp2;rw[←HW.out];refine peelK (k':=2) λK hK=>?_
 conv in hdC _=>whnf
 go_wp2;obtain⟨e0,e1,e2,e3,e4,e5,e6⟩:=blk7 HB2.out;obtain⟨x0,x1,x2,x3,x4,x5,x6,x7,x8⟩:=blk9 HB1.out;refine peelK (k':=3) λK hK=>?_
 conv in hdC _=>whnf
 go_wp2
 go_loopw [5] (λkv wr=>∃k:Nat,k≤p∧kv=.int .i64 k∧Frm Nix w0 wr) (λkv _=>x.fols.length - (intOf kv).toNat)
 case atStart=>exact⟨0,by omega,rfl,Frm.refl _ _⟩
 case round=>
  obtain⟨k,hk,rfl,hf⟩:=hrel;have HF:=h_ hf;clear x0 x1 x2 x3 x4 x5 x6 x7 x8 e0 e1 e2 e3 e4 e5 e6 hf;obtain⟨e0,e1,e2,e3,e4,e5,e6⟩:=blk7 (HB2.out.frm HF.out id);obtain⟨x0,x1,x2,x3,x4,x5,x6,x7,x8⟩:=blk9 (HB1.out.frm HF.out id)
  by_cases hlt:k<p
  ·have hkl:k<x.fols.length:=by omega
   obtain⟨g,off,hA,-,hbl,hcell⟩:=(HS.out.fols.nix HF.out).at_ Fol.clen (by decide) (by omega);dsimp only at hA;subst hA;have p0:=hcell k hkl 0 _ rfl;rw[Nat.add_zero] at p0;have hid:=HLt.out k hkl hlt;obtain⟨q,hq⟩:∃q,x.fols[k]=q:=⟨_,rfl⟩;rw[hq] at p0 hid;clear hcell hq;go_wp2;go_quiet (fail);go_wp2;go_roundw
   case rel=>exact⟨k+1,by omega,by go_num,HF.out.drewN _⟩
   case measure=>simp[intOf];omega
  ·obtain rfl:k=p:=by omega
   by_cases hend:k<x.fols.length
   case' neg=>
    go_wp2;go_quiet (fail)
   case' pos=>
    obtain⟨g,off,hA,-,hbl,hcell⟩:=(HS.out.fols.nix HF.out).at_ Fol.clen (by decide) (by omega);dsimp only at hA;subst hA;have p0:=hcell k hend 0 _ rfl;rw[Nat.add_zero] at p0;have hid:=HAt.out hend;obtain⟨q,hq⟩:∃q,x.fols[k]=q:=⟨_,rfl⟩;rw[hq] at p0 hid;clear hcell hq;go_wp2;go_quiet (fail);generalize (some ⟨g,off,none⟩:Option Addr)=A at *
   all_goals
    obtain⟨wq,hwq⟩:∃wq,wq=wr.drewN nq:=⟨_,rfl⟩;rw[←hwq];have hfq:Frm Nix w0 wq:=by rw[hwq];exact HF.out.drewN _
    have HFq:=h_ hfq;clear hwq x0 x1 x2 x3 x4 x5 x6 x7 x8 e0 e1 e2 e3 e4 e5 e6;have hs1:=(HS.out.fols).nix hfq;obtain⟨sv,rA,rc,wa,hsv,hrun0,hrest⟩:=rest_run elemFol (p:=k) hs1 (fol_one x.fols) (by exact hcap) (by exact hple) (by omega);have fa:=hrest.frm;obtain⟨⟨v11,w11,v12,w12,B1,d1,w13,a1,a2,a3,a4,a5,a6⟩,⟨v21,w21,v22,w22,B2,d2,w23,b1,b2,b3,b4,b5,b6⟩,⟨v31,w31,v32,w32,B3,d3,w33,c1,c2,c3,c4,c5,c6⟩⟩:=ins_three elemFol (rc:=rc) (ys:=[.int .i64 a,.int .i64 b,.string s]) (hs1.nix fa) hrest.rd rfl (fol_one x.fols) (by intro z hz;simp at hz;rcases hz with rfl | rfl | rfl<;>rfl) (by exact hcap) (by exact hple) (by omega);have hbs1:=HB1.out.frm hfq id;have hbs2:=HB2.out.frm hfq id;have cx:∀{W:World},Frm Nix wq W→W.cell? ⟨w.heap.size,1,none⟩=some (.slice A x.fols.length c):=λhW=>((hbs1.frm hW id).cell 1).trans rfl
    have x1:=cx (fR wq);have m1:=cx ((fR wq).alloc (.cells #[] 79));have HKs:=h_ (And.intro a5 (And.intro a6 (And.intro b5 (And.intro b6 (And.intro c5 c6)))));have HR1:=h_ a4;have HR2:=h_ b4;have HR3:=h_ c4;have HFa:=h_ fa;have hI0:(0:Int)≤(k:Int):=Int.natCast_nonneg _;have hkc:=hs1.cap;have hmx:=hs1.max;dsimp only at hkc hmx;have hI1:=Int.ofNat_le.2 (Nat.le_trans (show k≤_ by exact hple) hkc);have hI2:(k:Int)≤(x.fols.length:Int):=by omega
    clear cx a4 b4 c4 a5 a6 b5 b6 c5 c6 fa hbs1 hbs2 hrest hs1 hlt;skip;have hplE:k≤x.fols.length:=hple;skip;have HSv:=h_ hsv;clear hsv;go_wp2_with (first | (refine wpList_slice_from elemFol _ _ rfl rfl rfl rfl hplE HSv.out ?_) | (at_builtin;refine wpList_append_run hrun0 rfl _ _ rfl rfl rfl ?_));refine madeR1 (bs:=w.heap.size) (HB1.out.frm (HFq.out.trans HFa.out) id) rfl (HB2.out.frm (HFq.out.trans HFa.out) id) (show k≤x.fols.length from hple) hkc hmx a1 a2 a3 HR1.out HKs.out.1 HKs.out.2.1 b1 b2 b3 HR2.out HKs.out.2.2.1 HKs.out.2.2.2.1 c1 c2 c3 HR3.out HKs.out.2.2.2.2.1 HKs.out.2.2.2.2.2 (λ_ _ _ _ _ h=>h) ?_;rintro wc A' c' z0 z5 z13 z14 hr;have HR:=h_ hr;obtain⟨wd,hwd⟩:∃wd,wd=wc.setCell ⟨w.heap.size,1,none⟩ (.slice A' (k+1+(x.fols.length - k)) c'):=⟨_,rfl⟩;rw[←hwd];clear a1 a2 a3 b1 b2 b3 c1 c2 c3 hrun0 HKs HR1 HR2 HR3 hr;have fC:Frm Nix w0 wc:=(HFq.out.trans HFa.out).trans HR.out.frm;have hbd:Blk wd w.heap.size 36 #[.int .i64 x.clock,.slice A' (k+1+(x.fols.length - k)) c',.slice fe.1 x.fees.length fe.2,.slice it.1 x.itms.length it.2,.slice se.1 x.seas.length se.2,.int .i64 x.tFol,.int .i64 x.tFee,.int .i64 x.tItm,.int .i64 x.tSea]:=by rw[hwd];exact((HB1.out.frm fC id).set_ 1 _)
    have fd:Frm (λk=>k=w.heap.size) wc wd:=by rw[hwd];exact(Frm.refl (λk=>k=w.heap.size) wc).setCell (.inl rfl) _
    have hbe:Blk wd (w.heap.size+1) 42 _:=(HB2.out.frm fC id).frm fd (by simp);obtain⟨z0,z1,z2,z3,z4,z5,z6,z7,z8⟩:=blk9 hbd;obtain⟨e0,e1,e2,e3,e4,e5,e6⟩:=blk7 hbe;have g0:=hbd.frozen 5;have HBd:=h_ hbd;have HFd:=h_ fd;have HFC:=h_ fC;clear hbd fd fC hbe hwd;go_wp2_with (go_at_call 80;refine(rtop_any _ _ _).mono ?_;rintro r w' ⟨rfl,rfl⟩);obtain⟨wf,hwf⟩:∃wf,wf=wd.setCell ⟨w.heap.size,5,none⟩ (.int .i64 (max x.tFol a)):=⟨_,rfl⟩;rw[←hwf];have hbf:Blk wf w.heap.size 36 #[.int .i64 x.clock,.slice A' (k+1+(x.fols.length - k)) c',.slice fe.1 x.fees.length fe.2,.slice it.1 x.itms.length it.2,.slice se.1 x.seas.length se.2,.int .i64 (max x.tFol a),.int .i64 x.tFee,.int .i64 x.tItm,.int .i64 x.tSea]:=by rw[hwf];exact(HBd.out.set_ 5 _)
    have ff:Frm (λk=>k=w.heap.size) wd wf:=by rw[hwf];exact(Frm.refl (λk=>k=w.heap.size) wd).setCell (.inl rfl) _
    have hb4:Blk wf (w.heap.size+1+1) 36 #[.int .i64 0,.slice none 0 0,.slice none 0 0,.slice none 0 0,.slice none 0 0,.int .i64 0,.int .i64 0,.int .i64 0,.int .i64 0]:=((HB3.out.frm HFC.out id).frm HFd.out (by simp)).frm ff (by simp);clear z0 z1 z2 z3 z4 z5 z6 z7 z8 e0 e1 e2 e3 e4 e5 e6 g0;obtain⟨z0,z1,z2,z3,z4,z5,z6,z7,z8⟩:=blk9 hbf;obtain⟨y0,y1,y2,y3,y4,y5,y6,y7,y8⟩:=blk9 hb4;have g0:=hb4.frozen 0;have g1:=hb4.frozen 1;have g2:=hb4.frozen 2;have g3:=hb4.frozen 3;have g4:=hb4.frozen 4;have g5:=hb4.frozen 5;have g6:=hb4.frozen 6;have g7:=hb4.frozen 7;have g8:=hb4.frozen 8;obtain⟨we,hwe⟩:∃we,we=wf.setCells (w.heap.size+1+1) 0 [.int .i64 x.clock,.slice A' (k+1+(x.fols.length - k)) c',.slice fe.1 x.fees.length fe.2,.slice it.1 x.itms.length it.2,.slice se.1 x.seas.length se.2,.int .i64 (max x.tFol a),.int .i64 x.tFee,.int .i64 x.tItm,.int .i64 x.tSea]:=⟨_,rfl⟩
    have hbg:Blk we (w.heap.size+1+1) 36 #[.int .i64 x.clock,.slice A' (k+1+(x.fols.length - k)) c',.slice fe.1 x.fees.length fe.2,.slice it.1 x.itms.length it.2,.slice se.1 x.seas.length se.2,.int .i64 (max x.tFol a),.int .i64 x.tFee,.int .i64 x.tItm,.int .i64 x.tSea]:=by
     have:=Blk.putL [.int .i64 x.clock,.slice A' (k+1+(x.fols.length - k)) c',.slice fe.1 x.fees.length fe.2,.slice it.1 x.itms.length it.2,.slice se.1 x.seas.length se.2,.int .i64 (max x.tFol a),.int .i64 x.tFee,.int .i64 x.tItm,.int .i64 x.tSea] 0 hb4;rw[putL9] at this;rw[hwe];exact this
    have fg:Frm (λk=>k=w.heap.size+1+1) wf we:=by rw[hwe];exact Frm.setCells _ 0 (Frm.refl _ _) (.inl rfl)
    have hF3:Frm (λk=>k=w.heap.size∨k=w.heap.size+1+1) wc we:=((HFd.out.mono λk hk=>.inl hk).trans (ff.mono λk hk=>.inl hk)).trans (fg.mono λk hk=>.inr hk);have hsz:=(HF0.out.trans (HFq.out.trans HFa.out)).size;have hL:=HB3.out.frm (HFq.out.trans HFa.out) id |>.lt
    have hF:Frm Nix w we:=((HF0.out.trans HFC.out)).next hF3 (λk hk=>.inr (by rcases hk with hk | hk<;>omega))
    have hrow1:SlIn we (λk=>wa.heap.size≤k) 3 (A',c') (k+1+(x.fols.length - k)) ((x.fols.flatMap Fol.cells).take (k * 3)++[.int .i64 a,.int .i64 b,.string s]++(x.fols.flatMap Fol.cells).drop (k * 3)):=HR.out.sl.frm hF3 λk hk e=>by rcases e with e | e<;>omega
    have HSl:Hid (SlIn we (λk=>w.heap.size≤k) 3 (A',c') (insI Fol.id ⟨a,b,s⟩ x.fols).length ((insI Fol.id ⟨a,b,s⟩ x.fols).flatMap Fol.cells)):=by
     have e1:=flat_take Fol.clen x.fols k;have e2:=flat_drop Fol.clen x.fols k;have e3:[.int .i64 a,.int .i64 b,.string s]=Fol.cells ⟨a,b,s⟩:=rfl
     (try simp only at hrow1)
     rw[e1,e2,e3,List.append_assoc,←List.flatMap_cons,←List.flatMap_append,←HDl.out,←HDn.out] at hrow1;exact hrow1.mono λk hk=>Nat.le_trans hsz hk
    have HFin:=h_ hF;have HBe:=h_ hbg;clear hbf ff hb4 hF hF3 hrow1 hsz hbg fg hwf;go_wp2
    all_goals
     simp only[peel,bodyOf,Tryz.f31];go_wp2
     all_goals
      simp only[World.setCells] at hwe;rw[←hwe];refine bodyPost_ret (made_ret HBe.out rfl) rfl ?_;refine⟨(A',c'),?_,⟨HSl.out.mono λk hk=>.inr hk,((HS0.out.nix HFin.out).fees).mono λk hk=>.inl hk,((HS0.out.nix HFin.out).itms).mono λk hk=>.inl hk,HS0.out.same,((HS0.out.nix HFin.out).seas).mono λk hk=>.inl hk⟩,HFin.out⟩;rw[HDn.out]
theorem rmade3_any{w:World}{fo fe it se:Sl}{ts:List (Sl×Itm)}{x:St}{G:Nat→Prop}(hS:StIn w G fo fe it se ts x)(hsm:StSmall x){a b n:Int}{s t u:ByteArray}:
  Calls Tryz.prog 31 #[stV fo fe it se x,evV ⟨3,a,b,n,s,t,u⟩] w λr w'=>∃(fe':Sl),r=.returned (stV fo fe' it se {x with fees:=(insI Fee.id ⟨a,b,s,t⟩ x.fees),tFee:=max x.tFee a})∧StIn w' (λk=>G k∨w.heap.size≤k) fo fe' it se ts {x with fees:=(insI Fee.id ⟨a,b,s,t⟩ x.fees),tFee:=max x.tFee a}∧Frm Nix w w':=by
 obtain⟨w0,hw0,hf0,hb1,hb2,hb3⟩:=box_ser w fo fe it se x 3 a b n s t u;have hcap:=hsm.fees;have HS0:=h_ hS;have HS:=h_ (hS.nix hf0);have HB1:=h_ hb1;have HB2:=h_ hb2;have HB3:=h_ hb3;have HF0:=h_ hf0;have HW:=h_ hw0;obtain⟨p,hp⟩:∃p,cntI Fee.id a x.fees=p:=⟨_,rfl⟩;have hple:p≤x.fees.length:=by rw[←hp];exact cntI_le
 have HLt:Hid (∀(j:Nat) (hj:j<x.fees.length),j<p→Fee.id x.fees[j]<a):=λj hj h=>cntI_lt (by rw[hp];exact h) hj
 have HAt:Hid (∀hj:p<x.fees.length,¬Fee.id x.fees[p]<a):=λhj=>by
  have:=@cntI_at _ Fee.id a x.fees (by rw[hp];exact hj);simp only[hp] at this;exact this
 have HDl:Hid ((insI Fee.id ⟨a,b,s,t⟩ x.fees)=x.fees.take p++(⟨a,b,s,t⟩:Fee)::x.fees.drop p):=by
  have:=@insI_take _ Fee.id (⟨a,b,s,t⟩:Fee) x.fees;unfold Hid;rw[this];have e:cntI Fee.id (Fee.id (⟨a,b,s,t⟩:Fee)) x.fees=p:=hp;rw[e]
 have HDn:Hid ((insI Fee.id ⟨a,b,s,t⟩ x.fees).length=p+1+(x.fees.length - p)):=by unfold Hid;rw[HDl.out];simp;omega
 clear hS hsm hf0 hb1 hb2 hb3 hw0 hp;unfold stV evV;dsimp only;obtain⟨A,c⟩:=fe;dsimp only at HS HS0 HB1 HW ⊢;go_enter Tryz.func31,Tryz.ntmps31;show Code.wp Tryz.prog (peel 0 (bodyOf Tryz.f31)) _ _ _
 refine peelK (k':=1) λK hK=>?_
 conv in hdC _=>whnf
 go_wp2;rw[←HW.out];refine peelK (k':=2) λK hK=>?_
 conv in hdC _=>whnf
 go_wp2;obtain⟨e0,e1,e2,e3,e4,e5,e6⟩:=blk7 HB2.out;obtain⟨x0,x1,x2,x3,x4,x5,x6,x7,x8⟩:=blk9 HB1.out;refine peelK (k':=3) λK hK=>?_
 conv in hdC _=>whnf
 go_wp2
 go_loopw [5] (λkv wr=>∃k:Nat,k≤p∧kv=.int .i64 k∧Frm Nix w0 wr) (λkv _=>x.fees.length - (intOf kv).toNat)
 case atStart=>exact⟨0,by omega,rfl,Frm.refl _ _⟩
 case round=>
  obtain⟨k,hk,rfl,hf⟩:=hrel;have HF:=h_ hf;clear x0 x1 x2 x3 x4 x5 x6 x7 x8 e0 e1 e2 e3 e4 e5 e6 hf;obtain⟨e0,e1,e2,e3,e4,e5,e6⟩:=blk7 (HB2.out.frm HF.out id);obtain⟨x0,x1,x2,x3,x4,x5,x6,x7,x8⟩:=blk9 (HB1.out.frm HF.out id)
  by_cases hlt:k<p
  ·have hkl:k<x.fees.length:=by omega
   obtain⟨g,off,hA,-,hbl,hcell⟩:=(HS.out.fees.nix HF.out).at_ Fee.clen (by decide) (by omega);dsimp only at hA;subst hA;have p0:=hcell k hkl 0 _ rfl;rw[Nat.add_zero] at p0;have hid:=HLt.out k hkl hlt;obtain⟨q,hq⟩:∃q,x.fees[k]=q:=⟨_,rfl⟩;rw[hq] at p0 hid;clear hcell hq;go_wp2;go_quiet (fail);go_wp2;go_roundw
   case rel=>exact⟨k+1,by omega,by go_num,HF.out.drewN _⟩
   case measure=>simp[intOf];omega
  ·obtain rfl:k=p:=by omega
   by_cases hend:k<x.fees.length
   case' neg=>
    go_wp2;go_quiet (fail)
   case' pos=>
    obtain⟨g,off,hA,-,hbl,hcell⟩:=(HS.out.fees.nix HF.out).at_ Fee.clen (by decide) (by omega);dsimp only at hA;subst hA;have p0:=hcell k hend 0 _ rfl;rw[Nat.add_zero] at p0;have hid:=HAt.out hend;obtain⟨q,hq⟩:∃q,x.fees[k]=q:=⟨_,rfl⟩;rw[hq] at p0 hid;clear hcell hq;go_wp2;go_quiet (fail);generalize (some ⟨g,off,none⟩:Option Addr)=A at *
   all_goals
    obtain⟨wq,hwq⟩:∃wq,wq=wr.drewN nq:=⟨_,rfl⟩;rw[←hwq];have hfq:Frm Nix w0 wq:=by rw[hwq];exact HF.out.drewN _
    have HFq:=h_ hfq;clear hwq x0 x1 x2 x3 x4 x5 x6 x7 x8 e0 e1 e2 e3 e4 e5 e6;have hs1:=(HS.out.fees).nix hfq;obtain⟨sv,rA,rc,wa,hsv,hrun0,hrest⟩:=rest_run elemFee (p:=k) hs1 (fee_one x.fees) (by exact hcap) (by exact hple) (by omega);have fa:=hrest.frm;obtain⟨⟨v11,w11,v12,w12,B1,d1,w13,a1,a2,a3,a4,a5,a6⟩,⟨v21,w21,v22,w22,B2,d2,w23,b1,b2,b3,b4,b5,b6⟩,⟨v31,w31,v32,w32,B3,d3,w33,c1,c2,c3,c4,c5,c6⟩⟩:=ins_three elemFee (rc:=rc) (ys:=[.int .i64 a,.int .i64 b,.string s,.string t]) (hs1.nix fa) hrest.rd rfl (fee_one x.fees) (by intro z hz;simp at hz;rcases hz with rfl | rfl | rfl | rfl<;>rfl) (by exact hcap) (by exact hple) (by omega);have hbs1:=HB1.out.frm hfq id;have hbs2:=HB2.out.frm hfq id;have cx:∀{W:World},Frm Nix wq W→W.cell? ⟨w.heap.size,2,none⟩=some (.slice A x.fees.length c):=λhW=>((hbs1.frm hW id).cell 2).trans rfl
    have x2:=cx (fR wq);have m2:=cx ((fR wq).alloc (.cells #[] 64));have HKs:=h_ (And.intro a5 (And.intro a6 (And.intro b5 (And.intro b6 (And.intro c5 c6)))));have HR1:=h_ a4;have HR2:=h_ b4;have HR3:=h_ c4;have HFa:=h_ fa;have hI0:(0:Int)≤(k:Int):=Int.natCast_nonneg _;have hkc:=hs1.cap;have hmx:=hs1.max;dsimp only at hkc hmx;have hI1:=Int.ofNat_le.2 (Nat.le_trans (show k≤_ by exact hple) hkc);have hI2:(k:Int)≤(x.fees.length:Int):=by omega
    clear cx a4 b4 c4 a5 a6 b5 b6 c5 c6 fa hbs1 hbs2 hrest hs1 hlt;skip;have hplE:k≤x.fees.length:=hple;skip;have HSv:=h_ hsv;clear hsv;go_wp2_with (first | (refine wpList_slice_from elemFee _ _ rfl rfl rfl rfl hplE HSv.out ?_) | (at_builtin;refine wpList_append_run hrun0 rfl _ _ rfl rfl rfl ?_));refine madeR3 (bs:=w.heap.size) (HB1.out.frm (HFq.out.trans HFa.out) id) rfl (HB2.out.frm (HFq.out.trans HFa.out) id) (show k≤x.fees.length from hple) hkc hmx a1 a2 a3 HR1.out HKs.out.1 HKs.out.2.1 b1 b2 b3 HR2.out HKs.out.2.2.1 HKs.out.2.2.2.1 c1 c2 c3 HR3.out HKs.out.2.2.2.2.1 HKs.out.2.2.2.2.2 (λ_ _ _ _ _ h=>h) ?_;rintro wc A' c' z0 z5 z13 z14 hr;have HR:=h_ hr;obtain⟨wd,hwd⟩:∃wd,wd=wc.setCell ⟨w.heap.size,2,none⟩ (.slice A' (k+1+(x.fees.length - k)) c'):=⟨_,rfl⟩;rw[←hwd];clear a1 a2 a3 b1 b2 b3 c1 c2 c3 hrun0 HKs HR1 HR2 HR3 hr;have fC:Frm Nix w0 wc:=(HFq.out.trans HFa.out).trans HR.out.frm;have hbd:Blk wd w.heap.size 36 #[.int .i64 x.clock,.slice fo.1 x.fols.length fo.2,.slice A' (k+1+(x.fees.length - k)) c',.slice it.1 x.itms.length it.2,.slice se.1 x.seas.length se.2,.int .i64 x.tFol,.int .i64 x.tFee,.int .i64 x.tItm,.int .i64 x.tSea]:=by rw[hwd];exact((HB1.out.frm fC id).set_ 2 _)
    have fd:Frm (λk=>k=w.heap.size) wc wd:=by rw[hwd];exact(Frm.refl (λk=>k=w.heap.size) wc).setCell (.inl rfl) _
    have hbe:Blk wd (w.heap.size+1) 42 _:=(HB2.out.frm fC id).frm fd (by simp);obtain⟨z0,z1,z2,z3,z4,z5,z6,z7,z8⟩:=blk9 hbd;obtain⟨e0,e1,e2,e3,e4,e5,e6⟩:=blk7 hbe;have g0:=hbd.frozen 6;have HBd:=h_ hbd;have HFd:=h_ fd;have HFC:=h_ fC;clear hbd fd fC hbe hwd;go_wp2_with (go_at_call 80;refine(rtop_any _ _ _).mono ?_;rintro r w' ⟨rfl,rfl⟩);obtain⟨wf,hwf⟩:∃wf,wf=wd.setCell ⟨w.heap.size,6,none⟩ (.int .i64 (max x.tFee a)):=⟨_,rfl⟩;rw[←hwf];have hbf:Blk wf w.heap.size 36 #[.int .i64 x.clock,.slice fo.1 x.fols.length fo.2,.slice A' (k+1+(x.fees.length - k)) c',.slice it.1 x.itms.length it.2,.slice se.1 x.seas.length se.2,.int .i64 x.tFol,.int .i64 (max x.tFee a),.int .i64 x.tItm,.int .i64 x.tSea]:=by rw[hwf];exact(HBd.out.set_ 6 _)
    have ff:Frm (λk=>k=w.heap.size) wd wf:=by rw[hwf];exact(Frm.refl (λk=>k=w.heap.size) wd).setCell (.inl rfl) _
    have hb4:Blk wf (w.heap.size+1+1) 36 #[.int .i64 0,.slice none 0 0,.slice none 0 0,.slice none 0 0,.slice none 0 0,.int .i64 0,.int .i64 0,.int .i64 0,.int .i64 0]:=((HB3.out.frm HFC.out id).frm HFd.out (by simp)).frm ff (by simp);clear z0 z1 z2 z3 z4 z5 z6 z7 z8 e0 e1 e2 e3 e4 e5 e6 g0;obtain⟨z0,z1,z2,z3,z4,z5,z6,z7,z8⟩:=blk9 hbf;obtain⟨y0,y1,y2,y3,y4,y5,y6,y7,y8⟩:=blk9 hb4;have g0:=hb4.frozen 0;have g1:=hb4.frozen 1;have g2:=hb4.frozen 2;have g3:=hb4.frozen 3;have g4:=hb4.frozen 4;have g5:=hb4.frozen 5;have g6:=hb4.frozen 6;have g7:=hb4.frozen 7;have g8:=hb4.frozen 8;obtain⟨we,hwe⟩:∃we,we=wf.setCells (w.heap.size+1+1) 0 [.int .i64 x.clock,.slice fo.1 x.fols.length fo.2,.slice A' (k+1+(x.fees.length - k)) c',.slice it.1 x.itms.length it.2,.slice se.1 x.seas.length se.2,.int .i64 x.tFol,.int .i64 (max x.tFee a),.int .i64 x.tItm,.int .i64 x.tSea]:=⟨_,rfl⟩
    have hbg:Blk we (w.heap.size+1+1) 36 #[.int .i64 x.clock,.slice fo.1 x.fols.length fo.2,.slice A' (k+1+(x.fees.length - k)) c',.slice it.1 x.itms.length it.2,.slice se.1 x.seas.length se.2,.int .i64 x.tFol,.int .i64 (max x.tFee a),.int .i64 x.tItm,.int .i64 x.tSea]:=by
     have:=Blk.putL [.int .i64 x.clock,.slice fo.1 x.fols.length fo.2,.slice A' (k+1+(x.fees.length - k)) c',.slice it.1 x.itms.length it.2,.slice se.1 x.seas.length se.2,.int .i64 x.tFol,.int .i64 (max x.tFee a),.int .i64 x.tItm,.int .i64 x.tSea] 0 hb4;rw[putL9] at this;rw[hwe];exact this
    have fg:Frm (λk=>k=w.heap.size+1+1) wf we:=by rw[hwe];exact Frm.setCells _ 0 (Frm.refl _ _) (.inl rfl)
    have hF3:Frm (λk=>k=w.heap.size∨k=w.heap.size+1+1) wc we:=((HFd.out.mono λk hk=>.inl hk).trans (ff.mono λk hk=>.inl hk)).trans (fg.mono λk hk=>.inr hk);have hsz:=(HF0.out.trans (HFq.out.trans HFa.out)).size;have hL:=HB3.out.frm (HFq.out.trans HFa.out) id |>.lt
    have hF:Frm Nix w we:=((HF0.out.trans HFC.out)).next hF3 (λk hk=>.inr (by rcases hk with hk | hk<;>omega))
    have hrow1:SlIn we (λk=>wa.heap.size≤k) 4 (A',c') (k+1+(x.fees.length - k)) ((x.fees.flatMap Fee.cells).take (k * 4)++[.int .i64 a,.int .i64 b,.string s,.string t]++(x.fees.flatMap Fee.cells).drop (k * 4)):=HR.out.sl.frm hF3 λk hk e=>by rcases e with e | e<;>omega
    have HSl:Hid (SlIn we (λk=>w.heap.size≤k) 4 (A',c') (insI Fee.id ⟨a,b,s,t⟩ x.fees).length ((insI Fee.id ⟨a,b,s,t⟩ x.fees).flatMap Fee.cells)):=by
     have e1:=flat_take Fee.clen x.fees k;have e2:=flat_drop Fee.clen x.fees k;have e3:[.int .i64 a,.int .i64 b,.string s,.string t]=Fee.cells ⟨a,b,s,t⟩:=rfl
     (try simp only at hrow1)
     rw[e1,e2,e3,List.append_assoc,←List.flatMap_cons,←List.flatMap_append,←HDl.out,←HDn.out] at hrow1;exact hrow1.mono λk hk=>Nat.le_trans hsz hk
    have HFin:=h_ hF;have HBe:=h_ hbg;clear hbf ff hb4 hF hF3 hrow1 hsz hbg fg hwf;go_wp2
    all_goals
     simp only[peel,bodyOf,Tryz.f31];go_wp2
     all_goals
      simp only[World.setCells] at hwe;rw[←hwe];refine bodyPost_ret (made_ret HBe.out rfl) rfl ?_;refine⟨(A',c'),?_,⟨((HS0.out.nix HFin.out).fols).mono λk hk=>.inl hk,HSl.out.mono λk hk=>.inr hk,((HS0.out.nix HFin.out).itms).mono λk hk=>.inl hk,HS0.out.same,((HS0.out.nix HFin.out).seas).mono λk hk=>.inl hk⟩,HFin.out⟩;rw[HDn.out]
theorem rmade11_any{w:World}{fo fe it se:Sl}{ts:List (Sl×Itm)}{x:St}{G:Nat→Prop}(hS:StIn w G fo fe it se ts x)(hsm:StSmall x){a b n:Int}{s t u:ByteArray}:
  Calls Tryz.prog 31 #[stV fo fe it se x,evV ⟨11,a,b,n,s,t,u⟩] w λr w'=>∃(se':Sl),r=.returned (stV fo fe it se' {x with seas:=(insI Sea.id ⟨a,s,t⟩ x.seas),tSea:=max x.tSea a})∧StIn w' (λk=>G k∨w.heap.size≤k) fo fe it se' ts {x with seas:=(insI Sea.id ⟨a,s,t⟩ x.seas),tSea:=max x.tSea a}∧Frm Nix w w':=by
 obtain⟨w0,hw0,hf0,hb1,hb2,hb3⟩:=box_ser w fo fe it se x 11 a b n s t u;have hcap:=hsm.seas;have HS0:=h_ hS;have HS:=h_ (hS.nix hf0);have HB1:=h_ hb1;have HB2:=h_ hb2;have HB3:=h_ hb3;have HF0:=h_ hf0;have HW:=h_ hw0;obtain⟨p,hp⟩:∃p,cntI Sea.id a x.seas=p:=⟨_,rfl⟩;have hple:p≤x.seas.length:=by rw[←hp];exact cntI_le
 have HLt:Hid (∀(j:Nat) (hj:j<x.seas.length),j<p→Sea.id x.seas[j]<a):=λj hj h=>cntI_lt (by rw[hp];exact h) hj
 have HAt:Hid (∀hj:p<x.seas.length,¬Sea.id x.seas[p]<a):=λhj=>by
  have:=@cntI_at _ Sea.id a x.seas (by rw[hp];exact hj);simp only[hp] at this;exact this
 have HDl:Hid ((insI Sea.id ⟨a,s,t⟩ x.seas)=x.seas.take p++(⟨a,s,t⟩:Sea)::x.seas.drop p):=by
  have:=@insI_take _ Sea.id (⟨a,s,t⟩:Sea) x.seas;unfold Hid;rw[this];have e:cntI Sea.id (Sea.id (⟨a,s,t⟩:Sea)) x.seas=p:=hp;rw[e]
 have HDn:Hid ((insI Sea.id ⟨a,s,t⟩ x.seas).length=p+1+(x.seas.length - p)):=by unfold Hid;rw[HDl.out];simp;omega
 clear hS hsm hf0 hb1 hb2 hb3 hw0 hp;unfold stV evV;dsimp only;obtain⟨A,c⟩:=se;dsimp only at HS HS0 HB1 HW ⊢;go_enter Tryz.func31,Tryz.ntmps31;show Code.wp Tryz.prog (peel 0 (bodyOf Tryz.f31)) _ _ _
 refine peelK (k':=1) λK hK=>?_
 conv in hdC _=>whnf
 go_wp2;rw[←HW.out];refine peelK (k':=2) λK hK=>?_
 conv in hdC _=>whnf
 go_wp2;obtain⟨e0,e1,e2,e3,e4,e5,e6⟩:=blk7 HB2.out;obtain⟨x0,x1,x2,x3,x4,x5,x6,x7,x8⟩:=blk9 HB1.out;refine peelK (k':=3) λK hK=>?_
 conv in hdC _=>whnf
 go_wp2
 go_loopw [5] (λkv wr=>∃k:Nat,k≤p∧kv=.int .i64 k∧Frm Nix w0 wr) (λkv _=>x.seas.length - (intOf kv).toNat)
 case atStart=>exact⟨0,by omega,rfl,Frm.refl _ _⟩
 case round=>
  obtain⟨k,hk,rfl,hf⟩:=hrel;have HF:=h_ hf;clear x0 x1 x2 x3 x4 x5 x6 x7 x8 e0 e1 e2 e3 e4 e5 e6 hf;obtain⟨e0,e1,e2,e3,e4,e5,e6⟩:=blk7 (HB2.out.frm HF.out id);obtain⟨x0,x1,x2,x3,x4,x5,x6,x7,x8⟩:=blk9 (HB1.out.frm HF.out id)
  by_cases hlt:k<p
  ·have hkl:k<x.seas.length:=by omega
   obtain⟨g,off,hA,-,hbl,hcell⟩:=(HS.out.seas.nix HF.out).at_ Sea.clen (by decide) (by omega);dsimp only at hA;subst hA;have p0:=hcell k hkl 0 _ rfl;rw[Nat.add_zero] at p0;have hid:=HLt.out k hkl hlt;obtain⟨q,hq⟩:∃q,x.seas[k]=q:=⟨_,rfl⟩;rw[hq] at p0 hid;clear hcell hq;go_wp2;go_quiet (fail);go_wp2;go_roundw
   case rel=>exact⟨k+1,by omega,by go_num,HF.out.drewN _⟩
   case measure=>simp[intOf];omega
  ·obtain rfl:k=p:=by omega
   by_cases hend:k<x.seas.length
   case' neg=>
    go_wp2;go_quiet (fail)
   case' pos=>
    obtain⟨g,off,hA,-,hbl,hcell⟩:=(HS.out.seas.nix HF.out).at_ Sea.clen (by decide) (by omega);dsimp only at hA;subst hA;have p0:=hcell k hend 0 _ rfl;rw[Nat.add_zero] at p0;have hid:=HAt.out hend;obtain⟨q,hq⟩:∃q,x.seas[k]=q:=⟨_,rfl⟩;rw[hq] at p0 hid;clear hcell hq;go_wp2;go_quiet (fail);generalize (some ⟨g,off,none⟩:Option Addr)=A at *
   all_goals
    obtain⟨wq,hwq⟩:∃wq,wq=wr.drewN nq:=⟨_,rfl⟩;rw[←hwq];have hfq:Frm Nix w0 wq:=by rw[hwq];exact HF.out.drewN _
    have HFq:=h_ hfq;clear hwq x0 x1 x2 x3 x4 x5 x6 x7 x8 e0 e1 e2 e3 e4 e5 e6;have hs1:=(HS.out.seas).nix hfq;obtain⟨sv,rA,rc,wa,hsv,hrun0,hrest⟩:=rest_run elemSea (p:=k) hs1 (sea_one x.seas) (by exact hcap) (by exact hple) (by omega);have fa:=hrest.frm;obtain⟨⟨v11,w11,v12,w12,B1,d1,w13,a1,a2,a3,a4,a5,a6⟩,⟨v21,w21,v22,w22,B2,d2,w23,b1,b2,b3,b4,b5,b6⟩,⟨v31,w31,v32,w32,B3,d3,w33,c1,c2,c3,c4,c5,c6⟩⟩:=ins_three elemSea (rc:=rc) (ys:=[.int .i64 a,.string s,.string t]) (hs1.nix fa) hrest.rd rfl (sea_one x.seas) (by intro z hz;simp at hz;rcases hz with rfl | rfl | rfl<;>rfl) (by exact hcap) (by exact hple) (by omega);have hbs1:=HB1.out.frm hfq id;have hbs2:=HB2.out.frm hfq id;have cx:∀{W:World},Frm Nix wq W→W.cell? ⟨w.heap.size,4,none⟩=some (.slice A x.seas.length c):=λhW=>((hbs1.frm hW id).cell 4).trans rfl
    have x4:=cx (fR wq);have m4:=cx ((fR wq).alloc (.cells #[] 84));have HKs:=h_ (And.intro a5 (And.intro a6 (And.intro b5 (And.intro b6 (And.intro c5 c6)))));have HR1:=h_ a4;have HR2:=h_ b4;have HR3:=h_ c4;have HFa:=h_ fa;have hI0:(0:Int)≤(k:Int):=Int.natCast_nonneg _;have hkc:=hs1.cap;have hmx:=hs1.max;dsimp only at hkc hmx;have hI1:=Int.ofNat_le.2 (Nat.le_trans (show k≤_ by exact hple) hkc);have hI2:(k:Int)≤(x.seas.length:Int):=by omega
    clear cx a4 b4 c4 a5 a6 b5 b6 c5 c6 fa hbs1 hbs2 hrest hs1 hlt;skip;have hplE:k≤x.seas.length:=hple;skip;have HSv:=h_ hsv;clear hsv;go_wp2_with (first | (refine wpList_slice_from elemSea _ _ rfl rfl rfl rfl hplE HSv.out ?_) | (at_builtin;refine wpList_append_run hrun0 rfl _ _ rfl rfl rfl ?_));refine madeR11 (bs:=w.heap.size) (HB1.out.frm (HFq.out.trans HFa.out) id) rfl (HB2.out.frm (HFq.out.trans HFa.out) id) (show k≤x.seas.length from hple) hkc hmx a1 a2 a3 HR1.out HKs.out.1 HKs.out.2.1 b1 b2 b3 HR2.out HKs.out.2.2.1 HKs.out.2.2.2.1 c1 c2 c3 HR3.out HKs.out.2.2.2.2.1 HKs.out.2.2.2.2.2 (λ_ _ _ _ _ h=>h) ?_;rintro wc A' c' z0 z5 z13 z14 hr;have HR:=h_ hr;obtain⟨wd,hwd⟩:∃wd,wd=wc.setCell ⟨w.heap.size,4,none⟩ (.slice A' (k+1+(x.seas.length - k)) c'):=⟨_,rfl⟩;rw[←hwd];clear a1 a2 a3 b1 b2 b3 c1 c2 c3 hrun0 HKs HR1 HR2 HR3 hr;have fC:Frm Nix w0 wc:=(HFq.out.trans HFa.out).trans HR.out.frm;have hbd:Blk wd w.heap.size 36 #[.int .i64 x.clock,.slice fo.1 x.fols.length fo.2,.slice fe.1 x.fees.length fe.2,.slice it.1 x.itms.length it.2,.slice A' (k+1+(x.seas.length - k)) c',.int .i64 x.tFol,.int .i64 x.tFee,.int .i64 x.tItm,.int .i64 x.tSea]:=by rw[hwd];exact((HB1.out.frm fC id).set_ 4 _)
    have fd:Frm (λk=>k=w.heap.size) wc wd:=by rw[hwd];exact(Frm.refl (λk=>k=w.heap.size) wc).setCell (.inl rfl) _
    have hbe:Blk wd (w.heap.size+1) 42 _:=(HB2.out.frm fC id).frm fd (by simp);obtain⟨z0,z1,z2,z3,z4,z5,z6,z7,z8⟩:=blk9 hbd;obtain⟨e0,e1,e2,e3,e4,e5,e6⟩:=blk7 hbe;have g0:=hbd.frozen 8;have HBd:=h_ hbd;have HFd:=h_ fd;have HFC:=h_ fC;clear hbd fd fC hbe hwd;go_wp2_with (go_at_call 80;refine(rtop_any _ _ _).mono ?_;rintro r w' ⟨rfl,rfl⟩);obtain⟨wf,hwf⟩:∃wf,wf=wd.setCell ⟨w.heap.size,8,none⟩ (.int .i64 (max x.tSea a)):=⟨_,rfl⟩;rw[←hwf];have hbf:Blk wf w.heap.size 36 #[.int .i64 x.clock,.slice fo.1 x.fols.length fo.2,.slice fe.1 x.fees.length fe.2,.slice it.1 x.itms.length it.2,.slice A' (k+1+(x.seas.length - k)) c',.int .i64 x.tFol,.int .i64 x.tFee,.int .i64 x.tItm,.int .i64 (max x.tSea a)]:=by rw[hwf];exact(HBd.out.set_ 8 _)
    have ff:Frm (λk=>k=w.heap.size) wd wf:=by rw[hwf];exact(Frm.refl (λk=>k=w.heap.size) wd).setCell (.inl rfl) _
    have hb4:Blk wf (w.heap.size+1+1) 36 #[.int .i64 0,.slice none 0 0,.slice none 0 0,.slice none 0 0,.slice none 0 0,.int .i64 0,.int .i64 0,.int .i64 0,.int .i64 0]:=((HB3.out.frm HFC.out id).frm HFd.out (by simp)).frm ff (by simp);clear z0 z1 z2 z3 z4 z5 z6 z7 z8 e0 e1 e2 e3 e4 e5 e6 g0;obtain⟨z0,z1,z2,z3,z4,z5,z6,z7,z8⟩:=blk9 hbf;obtain⟨y0,y1,y2,y3,y4,y5,y6,y7,y8⟩:=blk9 hb4;have g0:=hb4.frozen 0;have g1:=hb4.frozen 1;have g2:=hb4.frozen 2;have g3:=hb4.frozen 3;have g4:=hb4.frozen 4;have g5:=hb4.frozen 5;have g6:=hb4.frozen 6;have g7:=hb4.frozen 7;have g8:=hb4.frozen 8;obtain⟨we,hwe⟩:∃we,we=wf.setCells (w.heap.size+1+1) 0 [.int .i64 x.clock,.slice fo.1 x.fols.length fo.2,.slice fe.1 x.fees.length fe.2,.slice it.1 x.itms.length it.2,.slice A' (k+1+(x.seas.length - k)) c',.int .i64 x.tFol,.int .i64 x.tFee,.int .i64 x.tItm,.int .i64 (max x.tSea a)]:=⟨_,rfl⟩
    have hbg:Blk we (w.heap.size+1+1) 36 #[.int .i64 x.clock,.slice fo.1 x.fols.length fo.2,.slice fe.1 x.fees.length fe.2,.slice it.1 x.itms.length it.2,.slice A' (k+1+(x.seas.length - k)) c',.int .i64 x.tFol,.int .i64 x.tFee,.int .i64 x.tItm,.int .i64 (max x.tSea a)]:=by
     have:=Blk.putL [.int .i64 x.clock,.slice fo.1 x.fols.length fo.2,.slice fe.1 x.fees.length fe.2,.slice it.1 x.itms.length it.2,.slice A' (k+1+(x.seas.length - k)) c',.int .i64 x.tFol,.int .i64 x.tFee,.int .i64 x.tItm,.int .i64 (max x.tSea a)] 0 hb4;rw[putL9] at this;rw[hwe];exact this
    have fg:Frm (λk=>k=w.heap.size+1+1) wf we:=by rw[hwe];exact Frm.setCells _ 0 (Frm.refl _ _) (.inl rfl)
    have hF3:Frm (λk=>k=w.heap.size∨k=w.heap.size+1+1) wc we:=((HFd.out.mono λk hk=>.inl hk).trans (ff.mono λk hk=>.inl hk)).trans (fg.mono λk hk=>.inr hk);have hsz:=(HF0.out.trans (HFq.out.trans HFa.out)).size;have hL:=HB3.out.frm (HFq.out.trans HFa.out) id |>.lt
    have hF:Frm Nix w we:=((HF0.out.trans HFC.out)).next hF3 (λk hk=>.inr (by rcases hk with hk | hk<;>omega))
    have hrow1:SlIn we (λk=>wa.heap.size≤k) 3 (A',c') (k+1+(x.seas.length - k)) ((x.seas.flatMap Sea.cells).take (k * 3)++[.int .i64 a,.string s,.string t]++(x.seas.flatMap Sea.cells).drop (k * 3)):=HR.out.sl.frm hF3 λk hk e=>by rcases e with e | e<;>omega
    have HSl:Hid (SlIn we (λk=>w.heap.size≤k) 3 (A',c') (insI Sea.id ⟨a,s,t⟩ x.seas).length ((insI Sea.id ⟨a,s,t⟩ x.seas).flatMap Sea.cells)):=by
     have e1:=flat_take Sea.clen x.seas k;have e2:=flat_drop Sea.clen x.seas k;have e3:[.int .i64 a,.string s,.string t]=Sea.cells ⟨a,s,t⟩:=rfl
     (try simp only at hrow1)
     rw[e1,e2,e3,List.append_assoc,←List.flatMap_cons,←List.flatMap_append,←HDl.out,←HDn.out] at hrow1;exact hrow1.mono λk hk=>Nat.le_trans hsz hk
    have HFin:=h_ hF;have HBe:=h_ hbg;clear hbf ff hb4 hF hF3 hrow1 hsz hbg fg hwf;go_wp2
    all_goals
     simp only[peel,bodyOf,Tryz.f31];go_wp2
     all_goals
      simp only[World.setCells] at hwe;rw[←hwe];refine bodyPost_ret (made_ret HBe.out rfl) rfl ?_;refine⟨(A',c'),?_,⟨((HS0.out.nix HFin.out).fols).mono λk hk=>.inl hk,((HS0.out.nix HFin.out).fees).mono λk hk=>.inl hk,((HS0.out.nix HFin.out).itms).mono λk hk=>.inl hk,HS0.out.same,HSl.out.mono λk hk=>.inr hk⟩,HFin.out⟩;rw[HDn.out]
theorem rmade7_any{w:World}{fo fe it se:Sl}{ts:List (Sl×Itm)}{x:St}{G:Nat→Prop}(hS:StIn w G fo fe it se ts x)(hsm:StSmall x){a b n:Int}{s t u:ByteArray}:
  Calls Tryz.prog 31 #[stV fo fe it se x,evV ⟨7,a,b,n,s,t,u⟩] w λr w'=>∃(it':Sl) (ts':List (Sl×Itm)),r=.returned (stV fo fe it' se {x with itms:=(insI Itm.id ⟨a,b,n,s,t,u,false,false,[]⟩ x.itms),tItm:=max x.tItm a})∧StIn w' (λk=>G k∨w.heap.size≤k) fo fe it' se ts' {x with itms:=(insI Itm.id ⟨a,b,n,s,t,u,false,false,[]⟩ x.itms),tItm:=max x.tItm a}∧Frm Nix w w':=by
 obtain⟨w0,hw0,hf0,hb1,hb2,hb3⟩:=box_ser w fo fe it se x 7 a b n s t u;have hcap:=hsm.itms;have HS0:=h_ hS;have HS:=h_ (hS.nix hf0);have HB1:=h_ hb1;have HB2:=h_ hb2;have HB3:=h_ hb3;have HF0:=h_ hf0;have HW:=h_ hw0;obtain⟨p,hp⟩:∃p,cntI Itm.id a x.itms=p:=⟨_,rfl⟩;have hple:p≤x.itms.length:=by rw[←hp];exact cntI_le
 have HLt:Hid (∀(j:Nat) (hj:j<x.itms.length),j<p→Itm.id x.itms[j]<a):=λj hj h=>cntI_lt (by rw[hp];exact h) hj
 have HAt:Hid (∀hj:p<x.itms.length,¬Itm.id x.itms[p]<a):=λhj=>by
  have:=@cntI_at _ Itm.id a x.itms (by rw[hp];exact hj);simp only[hp] at this;exact this
 have HDl:Hid ((insI Itm.id ⟨a,b,n,s,t,u,false,false,[]⟩ x.itms)=x.itms.take p++(⟨a,b,n,s,t,u,false,false,[]⟩:Itm)::x.itms.drop p):=by
  have:=@insI_take _ Itm.id (⟨a,b,n,s,t,u,false,false,[]⟩:Itm) x.itms;unfold Hid;rw[this];have e:cntI Itm.id (Itm.id (⟨a,b,n,s,t,u,false,false,[]⟩:Itm)) x.itms=p:=hp;rw[e]
 have HDn:Hid ((insI Itm.id ⟨a,b,n,s,t,u,false,false,[]⟩ x.itms).length=p+1+(x.itms.length - p)):=by unfold Hid;rw[HDl.out];simp;omega
 clear hS hsm hf0 hb1 hb2 hb3 hw0 hp;unfold stV evV;dsimp only;obtain⟨A,c⟩:=it;dsimp only at HS HS0 HB1 HW ⊢;have hlen:ts.length=x.itms.length:=HS0.out.len
 have HSame:Hid ((ts.take p++((none,0),(⟨a,b,n,s,t,u,false,false,[]⟩:Itm))::ts.drop p).map (·.2)=insI Itm.id ⟨a,b,n,s,t,u,false,false,[]⟩ x.itms):=by
  unfold Hid;rw[HDl.out,List.map_append,List.map_cons,List.map_take,List.map_drop,HS0.out.same]
 go_enter Tryz.func31,Tryz.ntmps31;show Code.wp Tryz.prog (peel 0 (bodyOf Tryz.f31)) _ _ _
 refine peelK (k':=1) λK hK=>?_
 conv in hdC _=>whnf
 go_wp2;rw[←HW.out];refine peelK (k':=2) λK hK=>?_
 conv in hdC _=>whnf
 go_wp2;obtain⟨e0,e1,e2,e3,e4,e5,e6⟩:=blk7 HB2.out;obtain⟨x0,x1,x2,x3,x4,x5,x6,x7,x8⟩:=blk9 HB1.out;refine peelK (k':=3) λK hK=>?_
 conv in hdC _=>whnf
 go_wp2
 go_loopw [5] (λkv wr=>∃k:Nat,k≤p∧kv=.int .i64 k∧Frm Nix w0 wr) (λkv _=>x.itms.length - (intOf kv).toNat)
 case atStart=>exact⟨0,by omega,rfl,Frm.refl _ _⟩
 case round=>
  obtain⟨k,hk,rfl,hf⟩:=hrel;have HF:=h_ hf;clear x0 x1 x2 x3 x4 x5 x6 x7 x8 e0 e1 e2 e3 e4 e5 e6 hf;obtain⟨e0,e1,e2,e3,e4,e5,e6⟩:=blk7 (HB2.out.frm HF.out id);obtain⟨x0,x1,x2,x3,x4,x5,x6,x7,x8⟩:=blk9 (HB1.out.frm HF.out id)
  by_cases hlt:k<p
  ·have hkl:k<x.itms.length:=by omega
   obtain⟨hkt,het⟩:=itms_at HS.out hkl;obtain⟨g,off,hA,-,hbl,hcell⟩:=(HS.out.itms.row.nix HF.out).at_ itmC_len (by decide) (by omega);dsimp only at hA;subst hA;have p0:=hcell k hkt 0 _ rfl;rw[Nat.add_zero] at p0;have hid:=HLt.out k hkl hlt;rw[←het] at hid;obtain⟨q,hq⟩:∃q,ts[k]=q:=⟨_,rfl⟩;rw[hq] at p0 hid;clear hcell hq het;go_wp2;go_quiet (fail);go_wp2;go_roundw
   case rel=>exact⟨k+1,by omega,by go_num,HF.out.drewN _⟩
   case measure=>simp[intOf];omega
  ·obtain rfl:k=p:=by omega
   by_cases hend:k<x.itms.length
   case' neg=>
    go_wp2;go_quiet (fail)
   case' pos=>
    obtain⟨hkt,het⟩:=itms_at HS.out hend;obtain⟨g,off,hA,-,hbl,hcell⟩:=(HS.out.itms.row.nix HF.out).at_ itmC_len (by decide) (by omega);dsimp only at hA;subst hA;have p0:=hcell k hkt 0 _ rfl;rw[Nat.add_zero] at p0;have hid:=HAt.out hend;rw[←het] at hid;obtain⟨q,hq⟩:∃q,ts[k]=q:=⟨_,rfl⟩;rw[hq] at p0 hid;clear hcell hq het;go_wp2;go_quiet (fail);generalize (some ⟨g,off,none⟩:Option Addr)=A at *
   all_goals
    obtain⟨wq,hwq⟩:∃wq,wq=wr.drewN nq:=⟨_,rfl⟩;rw[←hwq];have hfq:Frm Nix w0 wq:=by rw[hwq];exact HF.out.drewN _
    have HFq:=h_ hfq;clear hwq x0 x1 x2 x3 x4 x5 x6 x7 x8 e0 e1 e2 e3 e4 e5 e6;have hs1:=(HS.out.itms.row).nix hfq;obtain⟨sv,rA,rc,wa,hsv,hrun0,hrest⟩:=rest_run elemItm (p:=k) hs1 (itm_one ts) (by rw[hlen];exact hcap) (by rw[hlen];exact hple) (by omega);have fa:=hrest.frm;obtain⟨⟨v11,w11,v12,w12,B1,d1,w13,a1,a2,a3,a4,a5,a6⟩,⟨v21,w21,v22,w22,B2,d2,w23,b1,b2,b3,b4,b5,b6⟩,⟨v31,w31,v32,w32,B3,d3,w33,c1,c2,c3,c4,c5,c6⟩⟩:=ins_three elemItm (rc:=rc) (ys:=[.int .i64 a,.int .i64 b,.int .i64 n,.string s,.string t,.string u,.bool false,.bool false,.slice none 0 0]) (hs1.nix fa) hrest.rd rfl (itm_one ts) (by intro z hz;simp at hz;rcases hz with rfl | rfl | rfl | rfl | rfl | rfl | rfl | rfl<;>rfl) (by rw[hlen];exact hcap) (by rw[hlen];exact hple) (by omega);have hbs1:=HB1.out.frm hfq id;have hbs2:=HB2.out.frm hfq id;have cx:∀{W:World},Frm Nix wq W→W.cell? ⟨w.heap.size,3,none⟩=some (.slice A x.itms.length c):=λhW=>((hbs1.frm hW id).cell 3).trans rfl
    have x3:=cx (fR wq);have m3:=cx ((fR wq).alloc (.cells #[] 82));have HKs:=h_ (And.intro a5 (And.intro a6 (And.intro b5 (And.intro b6 (And.intro c5 c6)))));have HR1:=h_ a4;have HR2:=h_ b4;have HR3:=h_ c4;have HFa:=h_ fa;have hI0:(0:Int)≤(k:Int):=Int.natCast_nonneg _;have hkc:=hs1.cap;have hmx:=hs1.max;dsimp only at hkc hmx;have hI1:=Int.ofNat_le.2 (Nat.le_trans (show k≤_ by rw[hlen];exact hple) hkc);have hI2:(k:Int)≤(x.itms.length:Int):=by omega
    clear cx a4 b4 c4 a5 a6 b5 b6 c5 c6 fa hbs1 hbs2 hrest hs1 hlt;rw[hlen] at hrun0 a3 b3 c3 HR1 HR2 HR3;have hplE:k≤x.itms.length:=hple;rw[hlen] at hsv;have HSv:=h_ hsv;clear hsv;go_wp2_with (first | (refine wpList_slice_from elemItm _ _ rfl rfl rfl rfl hplE HSv.out ?_) | (at_builtin;refine wpList_append_run hrun0 rfl _ _ rfl rfl rfl ?_));refine madeR7 (bs:=w.heap.size) (HB1.out.frm (HFq.out.trans HFa.out) id) rfl (HB2.out.frm (HFq.out.trans HFa.out) id) (show k≤x.itms.length from hple) (by rw[←hlen];exact hkc) hmx a1 a2 a3 HR1.out HKs.out.1 HKs.out.2.1 b1 b2 b3 HR2.out HKs.out.2.2.1 HKs.out.2.2.2.1 c1 c2 c3 HR3.out HKs.out.2.2.2.2.1 HKs.out.2.2.2.2.2 (λ_ _ _ _ _ h=>h) ?_;rintro wc A' c' z0 z5 z13 z14 hr;have HR:=h_ hr;obtain⟨wd,hwd⟩:∃wd,wd=wc.setCell ⟨w.heap.size,3,none⟩ (.slice A' (k+1+(x.itms.length - k)) c'):=⟨_,rfl⟩;rw[←hwd];clear a1 a2 a3 b1 b2 b3 c1 c2 c3 hrun0 HKs HR1 HR2 HR3 hr;have fC:Frm Nix w0 wc:=(HFq.out.trans HFa.out).trans HR.out.frm;have hbd:Blk wd w.heap.size 36 #[.int .i64 x.clock,.slice fo.1 x.fols.length fo.2,.slice fe.1 x.fees.length fe.2,.slice A' (k+1+(x.itms.length - k)) c',.slice se.1 x.seas.length se.2,.int .i64 x.tFol,.int .i64 x.tFee,.int .i64 x.tItm,.int .i64 x.tSea]:=by rw[hwd];exact((HB1.out.frm fC id).set_ 3 _)
    have fd:Frm (λk=>k=w.heap.size) wc wd:=by rw[hwd];exact(Frm.refl (λk=>k=w.heap.size) wc).setCell (.inl rfl) _
    have hbe:Blk wd (w.heap.size+1) 42 _:=(HB2.out.frm fC id).frm fd (by simp);obtain⟨z0,z1,z2,z3,z4,z5,z6,z7,z8⟩:=blk9 hbd;obtain⟨e0,e1,e2,e3,e4,e5,e6⟩:=blk7 hbe;have g0:=hbd.frozen 7;have HBd:=h_ hbd;have HFd:=h_ fd;have HFC:=h_ fC;clear hbd fd fC hbe hwd;go_wp2_with (go_at_call 80;refine(rtop_any _ _ _).mono ?_;rintro r w' ⟨rfl,rfl⟩);obtain⟨wf,hwf⟩:∃wf,wf=wd.setCell ⟨w.heap.size,7,none⟩ (.int .i64 (max x.tItm a)):=⟨_,rfl⟩;rw[←hwf];have hbf:Blk wf w.heap.size 36 #[.int .i64 x.clock,.slice fo.1 x.fols.length fo.2,.slice fe.1 x.fees.length fe.2,.slice A' (k+1+(x.itms.length - k)) c',.slice se.1 x.seas.length se.2,.int .i64 x.tFol,.int .i64 x.tFee,.int .i64 (max x.tItm a),.int .i64 x.tSea]:=by rw[hwf];exact(HBd.out.set_ 7 _)
    have ff:Frm (λk=>k=w.heap.size) wd wf:=by rw[hwf];exact(Frm.refl (λk=>k=w.heap.size) wd).setCell (.inl rfl) _
    have hb4:Blk wf (w.heap.size+1+1) 36 #[.int .i64 0,.slice none 0 0,.slice none 0 0,.slice none 0 0,.slice none 0 0,.int .i64 0,.int .i64 0,.int .i64 0,.int .i64 0]:=((HB3.out.frm HFC.out id).frm HFd.out (by simp)).frm ff (by simp);clear z0 z1 z2 z3 z4 z5 z6 z7 z8 e0 e1 e2 e3 e4 e5 e6 g0;obtain⟨z0,z1,z2,z3,z4,z5,z6,z7,z8⟩:=blk9 hbf;obtain⟨y0,y1,y2,y3,y4,y5,y6,y7,y8⟩:=blk9 hb4;have g0:=hb4.frozen 0;have g1:=hb4.frozen 1;have g2:=hb4.frozen 2;have g3:=hb4.frozen 3;have g4:=hb4.frozen 4;have g5:=hb4.frozen 5;have g6:=hb4.frozen 6;have g7:=hb4.frozen 7;have g8:=hb4.frozen 8;obtain⟨we,hwe⟩:∃we,we=wf.setCells (w.heap.size+1+1) 0 [.int .i64 x.clock,.slice fo.1 x.fols.length fo.2,.slice fe.1 x.fees.length fe.2,.slice A' (k+1+(x.itms.length - k)) c',.slice se.1 x.seas.length se.2,.int .i64 x.tFol,.int .i64 x.tFee,.int .i64 (max x.tItm a),.int .i64 x.tSea]:=⟨_,rfl⟩
    have hbg:Blk we (w.heap.size+1+1) 36 #[.int .i64 x.clock,.slice fo.1 x.fols.length fo.2,.slice fe.1 x.fees.length fe.2,.slice A' (k+1+(x.itms.length - k)) c',.slice se.1 x.seas.length se.2,.int .i64 x.tFol,.int .i64 x.tFee,.int .i64 (max x.tItm a),.int .i64 x.tSea]:=by
     have:=Blk.putL [.int .i64 x.clock,.slice fo.1 x.fols.length fo.2,.slice fe.1 x.fees.length fe.2,.slice A' (k+1+(x.itms.length - k)) c',.slice se.1 x.seas.length se.2,.int .i64 x.tFol,.int .i64 x.tFee,.int .i64 (max x.tItm a),.int .i64 x.tSea] 0 hb4;rw[putL9] at this;rw[hwe];exact this
    have fg:Frm (λk=>k=w.heap.size+1+1) wf we:=by rw[hwe];exact Frm.setCells _ 0 (Frm.refl _ _) (.inl rfl)
    have hF3:Frm (λk=>k=w.heap.size∨k=w.heap.size+1+1) wc we:=((HFd.out.mono λk hk=>.inl hk).trans (ff.mono λk hk=>.inl hk)).trans (fg.mono λk hk=>.inr hk);have hsz:=(HF0.out.trans (HFq.out.trans HFa.out)).size;have hL:=HB3.out.frm (HFq.out.trans HFa.out) id |>.lt
    have hF:Frm Nix w we:=((HF0.out.trans HFC.out)).next hF3 (λk hk=>.inr (by rcases hk with hk | hk<;>omega))
    have hrow1:SlIn we (λk=>wa.heap.size≤k) 9 (A',c') (k+1+(x.itms.length - k)) ((ts.flatMap itmC).take (k * 9)++[.int .i64 a,.int .i64 b,.int .i64 n,.string s,.string t,.string u,.bool false,.bool false,.slice none 0 0]++(ts.flatMap itmC).drop (k * 9)):=HR.out.sl.frm hF3 λk hk e=>by rcases e with e | e<;>omega
    have HSl:Hid (ItmsIn we (λk=>G k∨w.heap.size≤k) (A',c') (ts.take k++((none,0),(⟨a,b,n,s,t,u,false,false,[]⟩:Itm))::ts.drop k)):=by
     have e1:=flat_take itmC_len ts k;have e2:=flat_drop itmC_len ts k;have e3:[.int .i64 a,.int .i64 b,.int .i64 n,.string s,.string t,.string u,.bool false,.bool false,.slice none 0 0]=itmC ((none,0),(⟨a,b,n,s,t,u,false,false,[]⟩:Itm)):=rfl;have e4:(ts.take k++((none,0),(⟨a,b,n,s,t,u,false,false,[]⟩:Itm))::ts.drop k).length=(k+1+(x.itms.length - k)):=by simp[hlen];omega
     (try simp only at hrow1)
     rw[e1,e2,e3,List.append_assoc,←List.flatMap_cons,←List.flatMap_append,←e4] at hrow1;refine⟨hrow1.mono λk hk=>.inr (Nat.le_trans hsz hk),λq hq=>?_⟩;rcases List.mem_append.1 hq with hq | hq
     ·exact((HS0.out.nix hF).itms.tags q (List.mem_of_mem_take hq)).mono λk hk=>.inl hk
     ·rcases List.mem_cons.1 hq with rfl | hq
      ·exact SlIn.none_ _ _ _
      ·exact((HS0.out.nix hF).itms.tags q (List.mem_of_mem_drop hq)).mono λk hk=>.inl hk
    have HFin:=h_ hF;have HBe:=h_ hbg;clear hbf ff hb4 hF hF3 hrow1 hsz hbg fg hwf;go_wp2
    all_goals
     simp only[peel,bodyOf,Tryz.f31];go_wp2
     all_goals
      simp only[World.setCells] at hwe;rw[←hwe];refine bodyPost_ret (made_ret HBe.out rfl) rfl ?_;refine⟨(A',c'),(ts.take k++((none,0),(⟨a,b,n,s,t,u,false,false,[]⟩:Itm))::ts.drop k),?_,⟨((HS0.out.nix HFin.out).fols).mono λk hk=>.inl hk,((HS0.out.nix HFin.out).fees).mono λk hk=>.inl hk,HSl.out,HSame.out,((HS0.out.nix HFin.out).seas).mono λk hk=>.inl hk⟩,HFin.out⟩;rw[HDn.out]
end Go.Proofs.YtaecjmiobllhmaaGreat
