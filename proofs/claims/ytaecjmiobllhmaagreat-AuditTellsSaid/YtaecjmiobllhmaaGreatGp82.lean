/- Words. -/
import Derived.Test.YtaecjmiobllhmaaGreatGp81
import Derived.Test.YtaecjmiobllhmaaGreatGp27
import Derived.Test.YtaecjmiobllhmaaGreatGp30
import Derived.Test.YtaecjmiobllhmaaGreatGp29
import Derived.Deep.RegionHeld3
import Derived.BigRegion
set_option linter.unusedVariables false
set_option linter.unusedSimpArgs false
set_option maxRecDepth 100000
set_option maxHeartbeats 16000000
namespace Go.Proofs.YtaecjmiobllhmaaGreat
open Go.RowKit Go.Lib
theorem elemWd:ElemK Tryz.prog 69 68 3 24:=⟨Tryz.underlying69,⟨.agg #[.int .i64 0,.int .i64 0,.int .i64 0],by kernel_rfl,rfl⟩,by decide⟩
theorem goW_step(f:Wd→List Wd)(ws:List Wd)(k:Nat)(h:k<ws.length):goW f (ws.take (k+1))=(f ws[k]).foldl addW (goW f (ws.take k)):=by
 unfold goW;rw[List.take_succ_eq_append_getElem h,List.flatMap_append,List.foldl_append];simp
theorem foldW_step(l:List Wd)(acc:List Wd)(k:Nat)(h:k<l.length):(l.take (k+1)).foldl addW acc=addW ((l.take k).foldl addW acc) l[k]:=by
 rw[List.take_succ_eq_append_getElem h,List.foldl_append];rfl
theorem wd_cellsK(x:Wd):∀u∈[Value.int .i64 x.mode,.int .i64 x.sure,.int .i64 x.snap],u.oneCell'=true:=by
 intro u hu;simp at hu;rcases hu with rfl | rfl | rfl<;>rfl
theorem goOn_any{w:World}{g:Nat}{G:Nat→Prop}{Aa Aw:Option Addr}{ca cw:Nat}{a:Au}{F:Nat}{caps:Array Value}(f:Wd→List Wd)(h:AuAt w g G Aa ca Aw cw a)(hn:a.ws.length≤100)(hf4:∀x,(f x).length≤4)
  (hF:∀args W,(callFunc F args).run Tryz.prog W=.ok (.enter F args) W) (K:∀x W,Frm Nix w W→Calls Tryz.prog F (#[.agg #[.int .i64 x.mode,.int .i64 x.sure,.int .i64 x.snap]]++caps) W (WsOut W (f x))):
  Calls Tryz.prog 117 #[.pointer (some ⟨g,0,none⟩),.func (.func F) #[] caps] w λe w'=>e=.returned (.bool (decide (¬goW f a.ws=[])))∧∃A c W,RowK 68 3 w W (.slice A (goW f a.ws).length c) (goW f a.ws).length ((goW f a.ws).flatMap Wd.cells)∧w'=W.setCell ⟨g,2,none⟩ (.slice A (goW f a.ws).length c):=by
 obtain⟨n,hln⟩:∃n,a.ws.length=n:=⟨_,rfl⟩;have HL:=h_ hln;have HV:=h_ h.ws;have HB:Hid (∀W,Frm Nix w W→Blk W g 71 #[.slice Aa a.all.length ca,.int .i64 a.last,.slice Aw n cw]):=λW hW=>by have:=h.blk.frm hW id;rwa [hln] at this
 have q2:=h.blk.cell 2;simp at q2;rw[hln] at hn q2;have HK:=h_ K;clear hln h K;go_enter Tryz.func117,Tryz.ntmps117;go_wp2
 go_loopw [5,15] (λov kv wr=>∃k:Nat,k≤n∧kv=.int .i64 k∧RowK 68 3 w wr ov (goW f (a.ws.take k)).length ((goW f (a.ws.take k)).flatMap Wd.cells)) (λ_ kv _=>n - (intOf kv).toNat)
 case atStart=>exact⟨0,by omega,rfl,RowK.nil_ _ _ (Frm.refl _ _)⟩
 case round=>
  obtain⟨k,hk,rfl,hr⟩:=hrel;obtain⟨Ao,co,rfl,-,-,-,-⟩:=hr.shape;have HR:=h_ hr;clear hr;obtain⟨wo,rfl⟩:∃wo,wo=wr:=⟨_,rfl⟩
  by_cases hlt:k<n
  ·have hkl:k<a.ws.length:=by rw[HL.out];exact hlt
   obtain⟨bb,off,hA,-,hbl,hcell⟩:=(HV.out.nix HR.out.frm).at_ Wd.clen (by decide) (by omega);dsimp only at hA;subst hA;obtain⟨x0,x1,x2⟩:=wd3 (w:=wo) (b:=bb) (off:=off+k * 3) (f:=a.ws[k]) (hcell k hkl);have HST:=h_ (goW_step f a.ws k hkl)
   have hgl:(goW f (a.ws.take k)).length≤400:=by
    have:=goW_len (f:=f) (k:=4) (a.ws.take k) λx _=>hf4 x
    rw[List.length_take] at this;omega
   obtain⟨x,hx⟩:∃x,a.ws[k]=x:=⟨_,rfl⟩;rw[hx] at x0 x1 x2 HST;clear hcell hx;have KF:=HK.out x (wo.alloc (.cells #[.int .i64 x.mode,.int .i64 x.sure,.int .i64 x.snap] 68)) (HR.out.frm.alloc _);have hfx:=hf4 x;obtain⟨acc,hacc⟩:∃acc,goW f (a.ws.take k)=acc:=⟨_,rfl⟩;rw[hacc] at HST HR hgl;rw[hacc];clear hacc;generalize f x=l at *;obtain⟨nf,hnf⟩:∃nf,l.length=nf:=⟨_,rfl⟩;have HNF:=h_ hnf;have HLt:Hid (∀b,(Value.slice Ao acc.length co).ownBlock=some b→b<wo.heap.size):=λb hb=>(HR.out.own.lt b hb).2
   go_wp2_with (go_at_fn F;refine KF.mono ?_;rintro e w1 ⟨⟨Ar,cr⟩,rfl,hs,hf⟩;have HS:=h_ hs.cOld;have HF1:Hid (Frm Nix wo w1):=((fR wo).alloc _).trans hf;clear hs hf KF);clear hnf
   go_loopw [5,23] (λov jv wr=>∃j:Nat,j≤nf∧jv=.int .i64 j∧RowK 68 3 w wr ov ((l.take j).foldl addW acc).length (((l.take j).foldl addW acc).flatMap Wd.cells)∧SlIn wr (λb=>wo.heap.size≤b∧b<w1.heap.size) 3 (Ar,cr) l.length (l.flatMap Wd.cells)∧w1.heap.size≤wr.heap.size∧∀b,ov.ownBlock=some b→b<wo.heap.size∨w1.heap.size≤b) (λ_ jv _=>nf - (intOf jv).toNat)
   case atStart=>exact⟨0,by omega,rfl,HR.out.more HF1.out,HS.out.mono λb hb=>⟨by have:=hb.1;simp at this;omega,hb.2⟩,Nat.le_refl _,λb hb=>.inl (HLt.out b hb)⟩
   case round=>
    obtain⟨j,hj,rfl,hr1,hs1,hle,hap⟩:=hrel;obtain⟨A1,c1,rfl,-,-,-,-⟩:=hr1.shape;have HR1:=h_ hr1;have HS1:=h_ hs1;have HAP:=h_ hap;clear hr1 hs1 hap
    by_cases hjn:j<nf
    ·have hjl:j<l.length:=by rw[HNF.out];exact hjn
     obtain⟨b3,o3,hA3,-,hbl3,hcell3⟩:=HS1.out.at_ Wd.clen (by decide) (by omega);dsimp only at hA3;subst hA3;obtain⟨y0,y1,y2⟩:=wd3 (w:=wr) (b:=b3) (off:=o3+j * 3) (f:=l[j]) (hcell3 j hjl);have HST1:=h_ (foldW_step l acc j hjl)
     have hacl:((l.take j).foldl addW acc).length≤404:=by
      have:=addF_len (l.take j) acc;rw[List.length_take] at this;omega
     obtain⟨y,hy⟩:∃y,l[j]=y:=⟨_,rfl⟩;rw[hy] at y0 y1 y2 HST1;clear hcell3 hy;obtain⟨ac1,hac1⟩:∃ac1,(l.take j).foldl addW acc=ac1:=⟨_,rfl⟩;rw[hac1] at HST1 HR1 hacl HAP;have KC:=h_ (wContains_any y ((HR1.out.more ((fR wr).alloc (.cells #[.int .i64 y.mode,.int .i64 y.sure,.int .i64 y.snap] 68))).sl) (by omega));rw[hac1] at *
     by_cases hm:y∈ac1
     ·rw[decide_eq_true hm] at KC
      have HX:Hid (∀W,Frm Nix wr W→RowK 68 3 w W (.slice A1 ac1.length c1) ((l.take (j+1)).foldl addW acc).length (((l.take (j+1)).foldl addW acc).flatMap Wd.cells)):=λW hW=>by
       rw[HST1.out,show addW ac1 y=ac1 from if_pos hm];exact HR1.out.more hW
      clear hm;generalize ac1.length=q at *;go_wp2_with (go_at_call 165;refine KC.out.mono ?_;rintro e w2 ⟨rfl,hf⟩;have HF2:Hid (Frm Nix wr w2):=((fR wr).alloc _).trans hf;clear hf);go_roundw
      case rel=>exact⟨j+1,by omega,by go_num,HX.out _ HF2.out,HS1.out.nix HF2.out,Nat.le_trans hle HF2.out.size,HAP.out⟩
      case measure=>simp[intOf];omega
     ·rw[decide_eq_false hm] at KC
      have HX:Hid (∀W v,RowK 68 3 w W v (ac1.length+1) (ac1.flatMap Wd.cells++[.int .i64 y.mode,.int .i64 y.sure,.int .i64 y.snap])→RowK 68 3 w W v ((l.take (j+1)).foldl addW acc).length (((l.take (j+1)).foldl addW acc).flatMap Wd.cells)):=λW v hW=>by
       rw[HST1.out,show addW ac1 y=ac1++[y] from if_neg hm,List.length_append,List.flatMap_append]
       simpa [Wd.cells] using hW
      clear hm;have HP:Hid (∀W,Frm Nix wr W→∃v' w2,(∀ty,(Builtin.append_ #[69,69] ty #[.slice A1 ac1.length c1,.slice (some ⟨W.heap.size,0,none⟩) 1 1]).run Tryz.prog (W.alloc (.cells #[.int .i64 y.mode,.int .i64 y.sure,.int .i64 y.snap] 68))=.ok v' w2)∧RowK 68 3 w w2 v' (ac1.length+1) (ac1.flatMap Wd.cells++[.int .i64 y.mode,.int .i64 y.sure,.int .i64 y.snap])∧Frm (λk=>(Value.slice A1 ac1.length c1).ownBlock=some k) (W.alloc (.cells #[.int .i64 y.mode,.int .i64 y.sure,.int .i64 y.snap] 68)) w2∧(v'.ownBlock=(Value.slice A1 ac1.length c1).ownBlock∨v'.ownBlock=some (W.heap.size+1))):=λW hW=>(HR1.out.more hW).push elemWd [.int .i64 y.mode,.int .i64 y.sure,.int .i64 y.snap] rfl (wd_cellsK y) (by unfold maxLen;omega) (by omega)
      generalize ac1.length=q at *
      go_wp2_with (first
       | (go_at_call 165;refine KC.out.mono ?_;rintro e w2 ⟨rfl,hf⟩;have hbx:=Blk.fresh hf;have z0:=hbx.cell 0;have z1:=hbx.cell 1;have z2:=hbx.cell 2;simp at z0 z1 z2;have HF2:Hid (Frm Nix wr w2):=((fR wr).alloc _).trans hf;have hsz:=hf.size;simp at hsz;obtain⟨v4,w4,hrun4,hr4,hf4',hat4⟩:=HP.out w2 HF2.out;have HR4:=h_ hr4;have HF4:=h_ hf4';have HA4:=h_ hat4;clear hf hbx hr4 hf4' hat4)
       | (at_builtin;refine wpList_append_run hrun4 rfl _ _ rfl rfl rfl ?_))
      go_roundw
      case rel=>
       have hz2:=HF4.out.size;have hz3:=HF2.out.size;simp at hz2;refine⟨j+1,by omega,by go_num,HX.out _ _ HR4.out,(HS1.out.nix (HF2.out.alloc _)).frm HF4.out λb hb hb2=>?_,by omega,λb hb=>?_⟩
       ·rcases HAP.out b hb2 with h | h<;>omega
       ·rcases HA4.out with h | h
        ·exact HAP.out b (h ▸ hb)
        ·rw[h] at hb
         injection hb with hb
         right
         omega
      case measure=>simp[intOf];omega
    ·obtain rfl:j=nf:=by omega
     have HTk:Hid (l.take j=l):=List.take_of_length_le (by rw[HNF.out];exact Nat.le_refl _);have e1:Hid (goW f (a.ws.take (k+1))=(l.take j).foldl addW acc):=by unfold Hid;rw[HTk.out];exact HST.out
     go_wp2;go_roundw
     case rel=>exact⟨k+1,by omega,by go_num,by rw[e1.out];exact HR1.out⟩
     case measure=>simp[intOf];omega
  ·obtain rfl:k=n:=by omega
   have HTk:Hid (a.ws.take k=a.ws):=List.take_of_length_le (by rw[HL.out];exact Nat.le_refl _);rw[HTk.out] at HR;rw[HTk.out];have hbk:=HB.out wo HR.out.frm;have b2:=hbk.cell 2;have z2:=hbk.frozen 2;simp at b2
   have HE:Hid (decide ((0:Int)<((goW f a.ws).length:Int))=decide (¬goW f a.ws=[])):=by
    unfold Hid
    cases goW f a.ws<;>simp<;>omega
   obtain⟨q,hq⟩:∃q,(goW f a.ws).length=q:=⟨_,rfl⟩;rw[hq] at HR HE;rw[hq];have HQ:=h_ hq;clear hq;clear hbk;go_wp2;go_ret;have hq:=HQ.out;subst hq;exact⟨ret_bool (by simpa using HE.out),Ao,co,wo,HR.out,rfl⟩
theorem compC4_any{w:World}{m s n:Int}{bm bp g:Nat}{er la:Int}(c1:w.cell? ⟨bp,0,none⟩=some (.pointer (some ⟨g,0,none⟩)))(c2:w.cell? ⟨g,1,none⟩=some (.int .i64 la))(c3:w.cell? ⟨bm,8,none⟩=some (.int .i64 er))
  (e1:(m==3)=false) (e2:(n==la)=false) (e3:(er==0)=false) (e4:(er==30)=true) (e5:(m==2)=false):
  Calls Tryz.prog 125 #[.agg #[.int .i64 m,.int .i64 s,.int .i64 n],.pointer (some ⟨bp,0,none⟩),.pointer (some ⟨bm,0,none⟩)] w (WsOut w [⟨2,s,n⟩,⟨3,s,n⟩,⟨2,la,la⟩,⟨3,la,la⟩]):=by
 have l1:=World.block_lt_of_cell? w _ c1;have l2:=World.block_lt_of_cell? w _ c2;have l3:=World.block_lt_of_cell? w _ c3;dsimp only at l1 l2 l3
 have HLit:Hid (∀W q,Frm Nix w W→W.heap.size=q→SlIn (W.alloc (.cells #[.int .i64 2,.int .i64 s,.int .i64 n,.int .i64 3,.int .i64 s,.int .i64 n,.int .i64 2,.int .i64 la,.int .i64 la,.int .i64 3,.int .i64 la,.int .i64 la] 68)) (λk=>w.heap.size≤k) 3 (some ⟨q,0,none⟩,4) 4 (([⟨2,s,n⟩,⟨3,s,n⟩,⟨2,la,la⟩,⟨3,la,la⟩]:List Wd).flatMap Wd.cells)):=λW q hW hq=>by
  subst hq;have q:=(RowK.lit (s:=3) 68 hW 4 (([⟨2,s,n⟩,⟨3,s,n⟩,⟨2,la,la⟩,⟨3,la,la⟩]:List Wd).flatMap Wd.cells) rfl (by unfold maxLen;omega)).sl;exact q
 have c1':=h_ c1;have HS:Hid (∀W,Frm Nix w W→Blk W w.heap.size 68 #[.int .i64 m,.int .i64 s,.int .i64 n]→W.cell? ⟨w.heap.size,1,none⟩=some (.int .i64 s)∧W.cell? ⟨w.heap.size,2,none⟩=some (.int .i64 n)∧W.cell? ⟨bp,0,none⟩=some (.pointer (some ⟨g,0,none⟩))∧W.cell? ⟨g,1,none⟩=some (.int .i64 la)):=λW hW hb=>⟨hb.cell 1,hb.cell 2,(hW.cell (p:=⟨bp,0,none⟩) l1 id).trans c1,(hW.cell (p:=⟨g,1,none⟩) l2 id).trans c2⟩
 have HBk:Hid (∀W,Frm Nix (w.alloc (.cells #[.int .i64 m,.int .i64 s,.int .i64 n] 68)) W→Blk W w.heap.size 68 #[.int .i64 m,.int .i64 s,.int .i64 n]):=λW hW=>(Blk.new w 68 #[.int .i64 m,.int .i64 s,.int .i64 n]).frm hW id
 go_enter Tryz.func125,Tryz.ntmps125;go_wp2
 go_region
 all_goals
  go_wp2;go_quiet (fail);go_wp2
  go_region_held3 (λW=>W.cell? ⟨w.heap.size,1,none⟩=some (.int .i64 s)∧W.cell? ⟨w.heap.size,2,none⟩=some (.int .i64 n)∧W.cell? ⟨bp,0,none⟩=some (.pointer (some ⟨g,0,none⟩))∧W.cell? ⟨g,1,none⟩=some (.int .i64 la)) ((refine HS.out _ ?_ (HBk.out _ ?_)<;>(repeat' (first | with_reducible exact Frm.refl _ _ | with_reducible apply Frm.drew | with_reducible apply Frm.drewN | with_reducible apply Frm.alloc)))) (fail)
  all_goals
   go_wp2;go_ret;exact⟨(some ⟨_,0,none⟩,4),rfl,(by refine HLit.out _ _ ?_ (by simp);repeat' (first | with_reducible exact Frm.refl _ _ | with_reducible apply Frm.drew | with_reducible apply Frm.drewN | with_reducible apply Frm.alloc)),(by repeat' (first | with_reducible exact Frm.refl _ _ | with_reducible apply Frm.drew | with_reducible apply Frm.drewN | with_reducible apply Frm.alloc))⟩
theorem compC_any{w:World}(x:Wd){bm bp g:Nat}{er la:Int}(c1:w.cell? ⟨bp,0,none⟩=some (.pointer (some ⟨g,0,none⟩)))(c2:w.cell? ⟨g,1,none⟩=some (.int .i64 la))(c3:w.cell? ⟨bm,8,none⟩=some (.int .i64 er)):
  Calls Tryz.prog 125 #[.agg #[.int .i64 x.mode,.int .i64 x.sure,.int .i64 x.snap],.pointer (some ⟨bp,0,none⟩),.pointer (some ⟨bm,0,none⟩)] w (WsOut w (compW la er x)):=by
 have l1:=World.block_lt_of_cell? w _ c1;have l2:=World.block_lt_of_cell? w _ c2;have l3:=World.block_lt_of_cell? w _ c3;dsimp only at l1 l2 l3;obtain⟨m,s,n⟩:=x
 by_cases h1:m=3
 ·have e1:(m==3)=true:=beq_iff_eq.2 h1
  have HE:Hid (compW la er ⟨m,s,n⟩=onlyW ⟨m,s,n⟩ (er==6)):=by unfold Hid compW;rw[if_pos h1,dec_beq]
  clear h1;go_enter Tryz.func125,Tryz.ntmps125;go_wp2
  go_region
  all_goals
   go_wp2_with fail;refine(only_any ⟨m,s,n⟩ (er==6) _).mono ?_;rintro e w1 ⟨v,rfl,hs,hf⟩;have HS:=h_ hs;have HF:=h_ hf;clear hs hf;go_wp2;go_ret;exact WsOut.up ⟨v,rfl,HS.out,HF.out⟩ (by repeat' (first | with_reducible exact Frm.refl _ _ | with_reducible apply Frm.drew | with_reducible apply Frm.drewN | with_reducible apply Frm.alloc)) HE.out (by simp<;>omega)
 ·have e1:(m==3)=false:=beq_eq_false_iff_ne.2 h1
  by_cases h2:n=la
  ·have e2:(n==la)=true:=beq_iff_eq.2 h2
   have HE:Hid (compW la er ⟨m,s,n⟩=onlyW ⟨m,s,n⟩ (er==1)):=by unfold Hid compW;rw[if_neg h1,if_pos h2,dec_beq]
   clear h1 h2;go_enter Tryz.func125,Tryz.ntmps125;go_wp2
   go_region
   all_goals
    go_wp2;go_quiet (fail);go_wp2_with fail;refine(only_any ⟨m,s,n⟩ (er==1) _).mono ?_;rintro e w1 ⟨v,rfl,hs,hf⟩;have HS:=h_ hs;have HF:=h_ hf;clear hs hf;go_wp2;go_ret;exact WsOut.up ⟨v,rfl,HS.out,HF.out⟩ (by repeat' (first | with_reducible exact Frm.refl _ _ | with_reducible apply Frm.drew | with_reducible apply Frm.drewN | with_reducible apply Frm.alloc)) HE.out (by simp<;>omega)
  ·have e2:(n==la)=false:=beq_eq_false_iff_ne.2 h2
   by_cases h3:er=0
   ·have e3:(er==0)=true:=beq_iff_eq.2 h3
    have HE:Hid (compW la er ⟨m,s,n⟩=onlyW ⟨m,la,la⟩ (m==1)):=by unfold Hid compW;rw[if_neg h1,if_neg h2,if_pos h3,dec_beq]
    clear h1 h2 h3;go_enter Tryz.func125,Tryz.ntmps125;go_wp2
    go_region
    all_goals
     go_wp2;go_quiet (fail);go_wp2_with fail;refine(only_any ⟨m,la,la⟩ (m==1) _).mono ?_;rintro e w1 ⟨v,rfl,hs,hf⟩;have HS:=h_ hs;have HF:=h_ hf;clear hs hf;go_wp2;go_ret;exact WsOut.up ⟨v,rfl,HS.out,HF.out⟩ (by repeat' (first | with_reducible exact Frm.refl _ _ | with_reducible apply Frm.drew | with_reducible apply Frm.drewN | with_reducible apply Frm.alloc)) HE.out (by simp<;>omega)
   ·have e3:(er==0)=false:=beq_eq_false_iff_ne.2 h3
    by_cases h4:er=30
    ·have e4:(er==30)=true:=beq_iff_eq.2 h4
     by_cases h5:m=2
     ·have e5:(m==2)=true:=beq_iff_eq.2 h5
      have HE:Hid (compW la er ⟨m,s,n⟩=onlyW ⟨m,s,n⟩ true):=by unfold Hid compW;rw[if_neg h1,if_neg h2,if_neg h3,if_neg (by simp[h4]),if_pos h5];rfl
      clear h1 h2 h3 h4 h5;go_enter Tryz.func125,Tryz.ntmps125;go_wp2
      go_region
      all_goals
       go_wp2;go_quiet (fail);go_wp2_with fail;refine(only_any ⟨m,s,n⟩ true _).mono ?_;rintro e w1 ⟨v,rfl,hs,hf⟩;have HS:=h_ hs;have HF:=h_ hf;clear hs hf;go_wp2;go_ret;exact WsOut.up ⟨v,rfl,HS.out,HF.out⟩ (by repeat' (first | with_reducible exact Frm.refl _ _ | with_reducible apply Frm.drew | with_reducible apply Frm.drewN | with_reducible apply Frm.alloc)) HE.out (by simp<;>omega)
     ·have e5:(m==2)=false:=beq_eq_false_iff_ne.2 h5
      clear h3 h4
      have HE:Hid (compW la er ⟨m,s,n⟩=[⟨2,s,n⟩,⟨3,s,n⟩,⟨2,la,la⟩,⟨3,la,la⟩]):=by
       unfold Hid compW;rw[if_neg h1,if_neg h2,if_neg (by intro h;simp[h] at e3),if_neg (by simp;exact beq_iff_eq.1 e4),if_neg h5]
      rw[HE.out];exact compC4_any c1 c2 c3 e1 e2 e3 e4 e5
    ·have e4:(er==30)=false:=beq_eq_false_iff_ne.2 h4
     have HE:Hid (compW la er ⟨m,s,n⟩=[]):=by unfold Hid compW;rw[if_neg h1,if_neg h2,if_neg h3,if_pos h4]
     clear h1 h2 h3 h4;go_enter Tryz.func125,Tryz.ntmps125;go_wp2
     go_region
     all_goals
      go_wp2;go_quiet (fail);go_wp2;go_ret;exact HE.out ▸ ⟨(none,0),rfl,SlIn.none_ _ _ _,(by repeat' (first | with_reducible exact Frm.refl _ _ | with_reducible apply Frm.drew | with_reducible apply Frm.drewN | with_reducible apply Frm.alloc))⟩
end Go.Proofs.YtaecjmiobllhmaaGreat
