/- Words. -/
import Derived.Test.YtaecjmiobllhmaaGreatGr81
import Derived.Test.YtaecjmiobllhmaaGreatGr29
set_option linter.unusedVariables false
set_option linter.unusedSimpArgs false
set_option maxRecDepth 100000
set_option maxHeartbeats 16000000
namespace Go.Proofs.YtaecjmiobllhmaaGreat
open Go.Value renaming int→I,slice→U,pointer→O
open Go.IntKind renaming i64→J
open Tryz renaming prog→pQ
open Go.RowKit Go.Lib
variable {w:World}{g bm bp:Nat}{er la:Int}
theorem M0:mJ pQ 69 68 3 24:=⟨Tryz.underlying69,⟨.agg #[.int .i64 0,.int .i64 0,.int .i64 0],by kernel_rfl,rfl⟩,by decide⟩
theorem II(f:Wd→List Wd)(ws:List Wd)(k:Nat)(h:k<ws.length):kq f (ws.take (k+1))=(f ws[k]).foldl kO (kq f (ws.take k)):=by
 unfold kq;rw[List.take_succ_eq_append_getElem h,List.flatMap_append,List.foldl_append];simp
theorem DV(l:List Wd)(acc:List Wd)(k:Nat)(h:k<l.length):(l.take (k+1)).foldl kO acc=kO ((l.take k).foldl kO acc) l[k]:=by
 rw[List.take_succ_eq_append_getElem h,List.foldl_append];rfl
theorem FT(x:Wd):∀u∈[Value.int .i64 x.mode,I J x.sure,I J x.snap],u.oneCell'=true:=by
 intro u hu;simp at hu;rcases hu with rfl|rfl|rfl<;>rfl
theorem rk{G:Nat→Prop}{Aa Aw:Option Addr}{ca cw:Nat}{a:Au}{F:Nat}{caps:Array Value}(f:Wd→List Wd)(h:dZ w g G Aa ca Aw cw a)(hn:a.ws.length≤100)(uD:∀x,(f x).length≤4)
  (hF:∀args W,(callFunc F args).run pQ W=.ok (.enter F args) W) (K:∀x W,aa ag w W→Calls pQ F (#[.agg #[I J x.mode,I J x.sure,I J x.snap]]++caps) W (iK W (f x))):
  Calls pQ 117 #[O (some ⟨g,0,none⟩),.func (.func F) #[] caps] w λe w'=>e=.returned (.bool (decide (¬kq f a.ws=[])))∧∃A c W,aI 68 3 w W (U A (kq f a.ws).length c) (kq f a.ws).length ((kq f a.ws).flatMap Wd.cells)∧w'=W.setCell ⟨g,2,none⟩ (U A (kq f a.ws).length c):=by
 obtain⟨n,d9⟩:∃n,a.ws.length=n:=⟨_,rfl⟩;have HL:=h_ d9;have HV:=h_ h.ws;have HB:Hid (∀W,aa ag w W→aj W g 71 #[U Aa a.all.length ca,I J a.last,U Aw n cw]):=λW hW=>by have:=h.blk.frm hW id;rwa [d9] at this
 have q2:=h.blk.cell 2;simp at q2;rw[d9] at hn q2;have HK:=h_ K;clear d9 h K;go_enter Tryz.func117,Tryz.ntmps117;go_wp2
 go_loopw [5,15] (λov kv wr=>∃k:Nat,k≤n∧kv=I J k∧aI 68 3 w wr ov (kq f (a.ws.take k)).length ((kq f (a.ws.take k)).flatMap Wd.cells)) (λ_ kv _=>n-(intOf kv).toNat)
 case atStart=>exact⟨0,by omega,rfl,aI.nil_ _ _ (aa.refl _ _)⟩
 case round=>
  obtain⟨k,hk,rfl,hr⟩:=hrel;obtain⟨Ao,co,rfl,-,-,-,-⟩:=hr.shape;have HR:=h_ hr;clear hr;obtain⟨wo,rfl⟩:∃wo,wo=wr:=⟨_,rfl⟩
  by_cases hlt:k<n
  ·have cQ:k<a.ws.length:=by rw[HL.out];exact hlt
   obtain⟨bb,off,hA,-,hbl,hcell⟩:=(HV.out.nix HR.out.frm).at_ Wd.clen (by decide) (by omega);dsimp only at hA;subst hA;obtain⟨x0,x1,x2⟩:=Ru (w:=wo) (b:=bb) (off:=off+k * 3) (f:=a.ws[k]) (hcell k cQ);have HST:=h_ (II f a.ws k cQ)
   have vJ:(kq f (a.ws.take k)).length≤400:=by
    have:=zG (f:=f) (k:=4) (a.ws.take k) λx _=>uD x
    rw[List.length_take] at this;omega
   obtain⟨x,hx⟩:∃x,a.ws[k]=x:=⟨_,rfl⟩;rw[hx] at x0 x1 x2 HST;clear hcell hx;have KF:=HK.out x (wo.alloc (.cells #[I J x.mode,I J x.sure,I J x.snap] 68)) (HR.out.frm.alloc _);have Rf:=uD x;obtain⟨acc,yA⟩:∃acc,kq f (a.ws.take k)=acc:=⟨_,rfl⟩;rw[yA] at HST HR vJ;rw[yA];clear yA;generalize f x=l at *;obtain⟨nf,hnf⟩:∃nf,l.length=nf:=⟨_,rfl⟩;have HNF:=h_ hnf;have yb:Hid (∀b,(Value.slice Ao acc.length co).ownBlock=some b→b<wo.heap.size):=λb hb=>(HR.out.own.lt b hb).2
   go_wp2_with (go_at_fn F;refine KF.mono ?_;rintro e w1 ⟨⟨Ar,cr⟩,rfl,hs,hf⟩;have HS:=h_ hs.cOld;have pG:Hid (aa ag wo w1):=((fR wo).alloc _).trans hf;clear hs hf KF);clear hnf
   go_loopw [5,23] (λov jv wr=>∃j:Nat,j≤nf∧jv=I J j∧aI 68 3 w wr ov ((l.take j).foldl kO acc).length (((l.take j).foldl kO acc).flatMap Wd.cells)∧aF wr (λb=>wo.heap.size≤b∧b<w1.heap.size) 3 (Ar,cr) l.length (l.flatMap Wd.cells)∧w1.heap.size≤wr.heap.size∧∀b,ov.ownBlock=some b→b<wo.heap.size∨w1.heap.size≤b) (λ_ jv _=>nf-(intOf jv).toNat)
   case atStart=>exact⟨0,by omega,rfl,HR.out.more pG.out,HS.out.mono λb hb=>⟨by have:=hb.1;simp at this;omega,hb.2⟩,Nat.le_refl _,λb hb=>.inl (yb.out b hb)⟩
   case round=>
    obtain⟨j,hj,rfl,hr1,hs1,hle,hap⟩:=hrel;obtain⟨A1,c1,rfl,-,-,-,-⟩:=hr1.shape;have bo:=h_ hr1;have I3:=h_ hs1;have HAP:=h_ hap;clear hr1 hs1 hap
    by_cases hjn:j<nf
    ·have uO:j<l.length:=by rw[HNF.out];exact hjn
     obtain⟨b3,o3,hA3,-,Og,si⟩:=I3.out.at_ Wd.clen (by decide) (by omega);dsimp only at hA3;subst hA3;obtain⟨y0,y1,y2⟩:=Ru (w:=wr) (b:=b3) (off:=o3+j * 3) (f:=l[j]) (si j uO);have HST1:=h_ (DV l acc j uO)
     have hacl:((l.take j).foldl kO acc).length≤404:=by
      have:=tK (l.take j) acc;rw[List.length_take] at this;omega
     obtain⟨y,hy⟩:∃y,l[j]=y:=⟨_,rfl⟩;rw[hy] at y0 y1 y2 HST1;clear si hy;obtain⟨ac1,hac1⟩:∃ac1,(l.take j).foldl kO acc=ac1:=⟨_,rfl⟩;rw[hac1] at HST1 bo hacl HAP;have KC:=h_ (xy y ((bo.out.more ((fR wr).alloc (.cells #[I J y.mode,I J y.sure,I J y.snap] 68))).sl) (by omega));rw[hac1] at *
     by_cases hm:y∈ac1
     ·rw[decide_eq_true hm] at KC
      have HX:Hid (∀W,aa ag wr W→aI 68 3 w W (U A1 ac1.length c1) ((l.take (j+1)).foldl kO acc).length (((l.take (j+1)).foldl kO acc).flatMap Wd.cells)):=λW hW=>by
       rw[HST1.out,show kO ac1 y=ac1 from if_pos hm];exact bo.out.more hW
      clear hm;generalize ac1.length=q at *;go_wp2_with (go_at_call 165;refine KC.out.mono ?_;rintro e w2 ⟨rfl,hf⟩;have kX:Hid (aa ag wr w2):=((fR wr).alloc _).trans hf;clear hf);go_roundw
      case rel=>exact⟨j+1,by omega,by go_num,HX.out _ kX.out,I3.out.nix kX.out,Nat.le_trans hle kX.out.size,HAP.out⟩
      case measure=>simp[intOf];omega
     ·rw[decide_eq_false hm] at KC
      have HX:Hid (∀W v,aI 68 3 w W v (ac1.length+1) (ac1.flatMap Wd.cells++[I J y.mode,I J y.sure,I J y.snap])→aI 68 3 w W v ((l.take (j+1)).foldl kO acc).length (((l.take (j+1)).foldl kO acc).flatMap Wd.cells)):=λW v hW=>by
       rw[HST1.out,show kO ac1 y=ac1++[y] from if_neg hm,List.length_append,List.flatMap_append]
       simpa [Wd.cells] using hW
      clear hm;have HP:Hid (∀W,aa ag wr W→∃v' w2,(∀ty,(Builtin.append_ #[69,69] ty #[U A1 ac1.length c1,U (some ⟨W.heap.size,0,none⟩) 1 1]).run pQ (W.alloc (.cells #[I J y.mode,I J y.sure,I J y.snap] 68))=.ok v' w2)∧aI 68 3 w w2 v' (ac1.length+1) (ac1.flatMap Wd.cells++[I J y.mode,I J y.sure,I J y.snap])∧aa (λk=>(Value.slice A1 ac1.length c1).ownBlock=some k) (W.alloc (.cells #[I J y.mode,I J y.sure,I J y.snap] 68)) w2∧(v'.ownBlock=(Value.slice A1 ac1.length c1).ownBlock∨v'.ownBlock=some (W.heap.size+1))):=λW hW=>(bo.out.more hW).push M0 [I J y.mode,I J y.sure,I J y.snap] rfl (FT y) (by unfold maxLen;omega) (by omega)
      generalize ac1.length=q at *
      go_wp2_with (first
       | (go_at_call 165;refine KC.out.mono ?_;rintro e w2 ⟨rfl,hf⟩;have lR:=aj.fresh hf;have z0:=lR.cell 0;have z1:=lR.cell 1;have z2:=lR.cell 2;simp at z0 z1 z2;have kX:Hid (aa ag wr w2):=((fR wr).alloc _).trans hf;have hsz:=hf.size;simp at hsz;obtain⟨v4,w4,qZ,hr4,hf4',tx⟩:=HP.out w2 kX.out;have PJ:=h_ hr4;have HF4:=h_ hf4';have HA4:=h_ tx;clear hf lR hr4 hf4' tx)
       | (at_builtin;refine aq qZ rfl _ _ rfl rfl rfl ?_))
      go_roundw
      case rel=>
       have hz2:=HF4.out.size;have hz3:=kX.out.size;simp at hz2;refine⟨j+1,by omega,by go_num,HX.out _ _ PJ.out,(I3.out.nix (kX.out.alloc _)).frm HF4.out λb hb hb2=>?_,by omega,λb hb=>?_⟩
       ·rcases HAP.out b hb2 with h|h<;>omega
       ·rcases HA4.out with h|h
        ·exact HAP.out b (h ▸ hb)
        ·rw[h] at hb
         injection hb with hb
         right
         omega
      case measure=>simp[intOf];omega
    ·obtain rfl:j=nf:=by omega
     have za:Hid (l.take j=l):=List.take_of_length_le (by rw[HNF.out];exact Nat.le_refl _);have e1:Hid (kq f (a.ws.take (k+1))=(l.take j).foldl kO acc):=by unfold Hid;rw[za.out];exact HST.out
     go_wp2;go_roundw
     case rel=>exact⟨k+1,by omega,by go_num,by rw[e1.out];exact bo.out⟩
     case measure=>simp[intOf];omega
  ·obtain rfl:k=n:=by omega
   have za:Hid (a.ws.take k=a.ws):=List.take_of_length_le (by rw[HL.out];exact Nat.le_refl _);rw[za.out] at HR;rw[za.out];have tX:=HB.out wo HR.out.frm;have b2:=tX.cell 2;have z2:=tX.frozen 2;simp at b2
   have HE:Hid (decide ((0:Int)<((kq f a.ws).length:Int))=decide (¬kq f a.ws=[])):=by
    unfold Hid
    cases kq f a.ws<;>simp<;>omega
   obtain⟨q,hq⟩:∃q,(kq f a.ws).length=q:=⟨_,rfl⟩;rw[hq] at HR HE;rw[hq];have HQ:=h_ hq;clear hq;clear tX;go_wp2;go_ret;have hq:=HQ.out;subst hq;exact⟨af (by simpa using HE.out),Ao,co,wo,HR.out,rfl⟩
theorem DW{m s n:Int}(c1:w.cell? ⟨bp,0,none⟩=some (O (some ⟨g,0,none⟩)))(c2:w.cell? ⟨g,1,none⟩=some (I J la))(c3:w.cell? ⟨bm,8,none⟩=some (I J er))
  (e1:(m==3)=false) (e2:(n==la)=false) (e3:(er==0)=false) (e4:(er==30)=true) (e5:(m==2)=false):
  Calls pQ 125 #[.agg #[I J m,I J s,I J n],O (some ⟨bp,0,none⟩),O (some ⟨bm,0,none⟩)] w (iK w [⟨2,s,n⟩,⟨3,s,n⟩,⟨2,la,la⟩,⟨3,la,la⟩]):=by
 have l1:=World.block_lt_of_cell? w _ c1;have l2:=World.block_lt_of_cell? w _ c2;have l3:=World.block_lt_of_cell? w _ c3;dsimp only at l1 l2 l3
 have HLit:Hid (∀W q,aa ag w W→W.heap.size=q→aF (W.alloc (.cells #[I J 2,I J s,I J n,I J 3,I J s,I J n,I J 2,I J la,I J la,I J 3,I J la,I J la] 68)) (λk=>w.heap.size≤k) 3 (some ⟨q,0,none⟩,4) 4 (([⟨2,s,n⟩,⟨3,s,n⟩,⟨2,la,la⟩,⟨3,la,la⟩]:List Wd).flatMap Wd.cells)):=λW q hW hq=>by
  subst hq;have q:=(aI.lit (s:=3) 68 hW 4 (([⟨2,s,n⟩,⟨3,s,n⟩,⟨2,la,la⟩,⟨3,la,la⟩]:List Wd).flatMap Wd.cells) rfl (by unfold maxLen;omega)).sl;exact q
 have c1':=h_ c1;have HS:Hid (∀W,aa ag w W→aj W w.heap.size 68 #[I J m,I J s,I J n]→W.cell? ⟨w.heap.size,1,none⟩=some (I J s)∧W.cell? ⟨w.heap.size,2,none⟩=some (I J n)∧W.cell? ⟨bp,0,none⟩=some (O (some ⟨g,0,none⟩))∧W.cell? ⟨g,1,none⟩=some (I J la)):=λW hW hb=>⟨hb.cell 1,hb.cell 2,(hW.cell (p:=⟨bp,0,none⟩) l1 id).trans c1,(hW.cell (p:=⟨g,1,none⟩) l2 id).trans c2⟩
 have Uz:Hid (∀W,aa ag (w.alloc (.cells #[I J m,I J s,I J n] 68)) W→aj W w.heap.size 68 #[I J m,I J s,I J n]):=λW hW=>(aj.new w 68 #[I J m,I J s,I J n]).frm hW id
 go_enter Tryz.func125,Tryz.ntmps125;go_wp2
 go_region
 all_goals
  go_wp2;go_quiet (fail);go_wp2
  go_region_held3 (λW=>W.cell? ⟨w.heap.size,1,none⟩=some (I J s)∧W.cell? ⟨w.heap.size,2,none⟩=some (I J n)∧W.cell? ⟨bp,0,none⟩=some (O (some ⟨g,0,none⟩))∧W.cell? ⟨g,1,none⟩=some (I J la)) ((refine HS.out _ ?_ (Uz.out _ ?_)<;>(repeat' (first|with_reducible exact aa.refl _ _|with_reducible apply aa.drew|with_reducible apply aa.drewN|with_reducible apply aa.alloc)))) (fail)
  all_goals
   go_wp2;go_ret;exact⟨(some ⟨_,0,none⟩,4),rfl,(by refine HLit.out _ _ ?_ (by simp);repeat' (first|with_reducible exact aa.refl _ _|with_reducible apply aa.drew|with_reducible apply aa.drewN|with_reducible apply aa.alloc)),(by repeat' (first|with_reducible exact aa.refl _ _|with_reducible apply aa.drew|with_reducible apply aa.drewN|with_reducible apply aa.alloc))⟩
theorem FU(x:Wd)(c1:w.cell? ⟨bp,0,none⟩=some (O (some ⟨g,0,none⟩)))(c2:w.cell? ⟨g,1,none⟩=some (I J la))(c3:w.cell? ⟨bm,8,none⟩=some (I J er)):
  Calls pQ 125 #[.agg #[I J x.mode,I J x.sure,I J x.snap],O (some ⟨bp,0,none⟩),O (some ⟨bm,0,none⟩)] w (iK w (gl la er x)):=by
 have l1:=World.block_lt_of_cell? w _ c1;have l2:=World.block_lt_of_cell? w _ c2;have l3:=World.block_lt_of_cell? w _ c3;dsimp only at l1 l2 l3;obtain⟨m,s,n⟩:=x
 by_cases h1:m=3
 ·have e1:(m==3)=true:=beq_iff_eq.2 h1
  have HE:Hid (gl la er ⟨m,s,n⟩=cd ⟨m,s,n⟩ (er==6)):=by unfold Hid gl;rw[if_pos h1,kH]
  clear h1;go_enter Tryz.func125,Tryz.ntmps125;go_wp2
  go_region
  all_goals
   go_wp2_with fail;refine(gC ⟨m,s,n⟩ (er==6) _).mono ?_;rintro e w1 ⟨v,rfl,hs,hf⟩;have HS:=h_ hs;have HF:=h_ hf;clear hs hf;go_wp2;go_ret;exact iK.up ⟨v,rfl,HS.out,HF.out⟩ (by repeat' (first|with_reducible exact aa.refl _ _|with_reducible apply aa.drew|with_reducible apply aa.drewN|with_reducible apply aa.alloc)) HE.out (by simp<;>omega)
 ·have e1:(m==3)=false:=beq_eq_false_iff_ne.2 h1
  by_cases h2:n=la
  ·have e2:(n==la)=true:=beq_iff_eq.2 h2
   have HE:Hid (gl la er ⟨m,s,n⟩=cd ⟨m,s,n⟩ (er==1)):=by unfold Hid gl;rw[if_neg h1,if_pos h2,kH]
   clear h1 h2;go_enter Tryz.func125,Tryz.ntmps125;go_wp2
   go_region
   all_goals
    go_wp2;go_quiet (fail);go_wp2_with fail;refine(gC ⟨m,s,n⟩ (er==1) _).mono ?_;rintro e w1 ⟨v,rfl,hs,hf⟩;have HS:=h_ hs;have HF:=h_ hf;clear hs hf;go_wp2;go_ret;exact iK.up ⟨v,rfl,HS.out,HF.out⟩ (by repeat' (first|with_reducible exact aa.refl _ _|with_reducible apply aa.drew|with_reducible apply aa.drewN|with_reducible apply aa.alloc)) HE.out (by simp<;>omega)
  ·have e2:(n==la)=false:=beq_eq_false_iff_ne.2 h2
   by_cases h3:er=0
   ·have e3:(er==0)=true:=beq_iff_eq.2 h3
    have HE:Hid (gl la er ⟨m,s,n⟩=cd ⟨m,la,la⟩ (m==1)):=by unfold Hid gl;rw[if_neg h1,if_neg h2,if_pos h3,kH]
    clear h1 h2 h3;go_enter Tryz.func125,Tryz.ntmps125;go_wp2
    go_region
    all_goals
     go_wp2;go_quiet (fail);go_wp2_with fail;refine(gC ⟨m,la,la⟩ (m==1) _).mono ?_;rintro e w1 ⟨v,rfl,hs,hf⟩;have HS:=h_ hs;have HF:=h_ hf;clear hs hf;go_wp2;go_ret;exact iK.up ⟨v,rfl,HS.out,HF.out⟩ (by repeat' (first|with_reducible exact aa.refl _ _|with_reducible apply aa.drew|with_reducible apply aa.drewN|with_reducible apply aa.alloc)) HE.out (by simp<;>omega)
   ·have e3:(er==0)=false:=beq_eq_false_iff_ne.2 h3
    by_cases h4:er=30
    ·have e4:(er==30)=true:=beq_iff_eq.2 h4
     by_cases h5:m=2
     ·have e5:(m==2)=true:=beq_iff_eq.2 h5
      have HE:Hid (gl la er ⟨m,s,n⟩=cd ⟨m,s,n⟩ true):=by unfold Hid gl;rw[if_neg h1,if_neg h2,if_neg h3,if_neg (by simp[h4]),if_pos h5];rfl
      clear h1 h2 h3 h4 h5;go_enter Tryz.func125,Tryz.ntmps125;go_wp2
      go_region
      all_goals
       go_wp2;go_quiet (fail);go_wp2_with fail;refine(gC ⟨m,s,n⟩ true _).mono ?_;rintro e w1 ⟨v,rfl,hs,hf⟩;have HS:=h_ hs;have HF:=h_ hf;clear hs hf;go_wp2;go_ret;exact iK.up ⟨v,rfl,HS.out,HF.out⟩ (by repeat' (first|with_reducible exact aa.refl _ _|with_reducible apply aa.drew|with_reducible apply aa.drewN|with_reducible apply aa.alloc)) HE.out (by simp<;>omega)
     ·have e5:(m==2)=false:=beq_eq_false_iff_ne.2 h5
      clear h3 h4
      have HE:Hid (gl la er ⟨m,s,n⟩=[⟨2,s,n⟩,⟨3,s,n⟩,⟨2,la,la⟩,⟨3,la,la⟩]):=by
       unfold Hid gl;rw[if_neg h1,if_neg h2,if_neg (by intro h;simp[h] at e3),if_neg (by simp;exact beq_iff_eq.1 e4),if_neg h5]
      rw[HE.out];exact DW c1 c2 c3 e1 e2 e3 e4 e5
    ·have e4:(er==30)=false:=beq_eq_false_iff_ne.2 h4
     have HE:Hid (gl la er ⟨m,s,n⟩=[]):=by unfold Hid gl;rw[if_neg h1,if_neg h2,if_neg h3,if_pos h4]
     clear h1 h2 h3 h4;go_enter Tryz.func125,Tryz.ntmps125;go_wp2
     go_region
     all_goals
      go_wp2;go_quiet (fail);go_wp2;go_ret;exact HE.out ▸ ⟨(none,0),rfl,aF.none_ _ _ _,(by repeat' (first|with_reducible exact aa.refl _ _|with_reducible apply aa.drew|with_reducible apply aa.drewN|with_reducible apply aa.alloc))⟩
end Go.Proofs.YtaecjmiobllhmaaGreat
