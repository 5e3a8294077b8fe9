/-
  Contracts: the document's Check: Check.
-/
import Derived.Test.YtlafbakoefcifaaGreatGa67
import Derived.Test.YtlafbakoefcifaaGreatGa66
import Derived.Deep.RegionHeld3
import Derived.Test.YtlafbakoefcifaaGreatGa51
import Derived.Test.YtlafbakoefcifaaGreatGa39
import Derived.Test.YtlafbakoefcifaaGreatGa36
set_option linter.unusedVariables false
set_option linter.unusedSimpArgs false
set_option maxRecDepth 100000
set_option maxHeartbeats 16000000
namespace Go.Proofs.YtlafbakoefcifaaGreat
open Go.RowKit Go.Lib
theorem rStCheck_any{w:World}{fo fe it se:Sl}{ts:List (Sl×Itm)}{x:St}{G:Nat→Prop}(hS:StIn w G fo fe it se ts x)(hsm:StSmall x):
  Calls Tryz.prog 17 #[stV fo fe it se x] w fun e w'=>e=.returned (.bool (stOk x))∧Frm Nix w w':=by
 obtain⟨w0,hw0,hf0,hb0⟩:=box_st w fo fe it se x;have hcap:=hsm.seas;obtain⟨x0,x1,x2,x3,x4,x5,x6,x7,x8⟩:=blk9 hb0;have HS:=h_ (hS.nix hf0);have HSm:=h_ hsm;have HB:=h_ hb0;have HF0:=h_ hf0;have HW:=h_ hw0;obtain⟨P,hP⟩:∃ P:List Sea→Sea→Bool,P=(fun (pre:List Sea) (s:Sea)=>evOk ⟨11,s.id,0,0,s.name,s.query,eS⟩&&decide (s.id≤x.tSea)&&risesI Sea.id pre s):=⟨_,rfl⟩;have HP:Hid (∀ pre f,P pre f=((fun (pre:List Sea) (s:Sea)=>evOk ⟨11,s.id,0,0,s.name,s.query,eS⟩&&decide (s.id≤x.tSea)&&risesI Sea.id pre s) pre f)):=by rw[hP];exact fun _ _=>rfl
 have HNo0:Hid (allG P [] x.seas=false→stOk x=false):=fun h=>by unfold stOk seasOk;rw[← hP,h];rfl
 have HYes0:Hid (allG P [] x.seas=true→seasOk x=(decide (x.seas.length≤32)&&decide (0≤x.tSea∧x.tSea≤1048576))):=fun h=>by unfold seasOk;rw[← hP,h];simp
 clear hS hsm hw0 hf0 hb0 hP;unfold stV;obtain⟨A,c⟩:=se;dsimp only at x1 x2 x3 x4 HS HB HW ⊢;go_enter Tryz.func17,Tryz.ntmps17;show Code.wp Tryz.prog (peel 0 (bodyOf Tryz.f17)) _ _ _
 refine peelK (k':=1) fun K hK=>?_
 conv in hdC _=>whnf
 go_wp2;rw[← HW.out];refine peelK (k':=2) fun K hK=>?_
 conv in hdC _=>whnf
 go_wp2
 go_loopw [3] (fun kv wr=>∃ k:Nat,k≤x.seas.length∧kv=.int .i64 k∧(∀ (j:Nat) (hj:j<x.seas.length),j<k→P (x.seas.take j) (x.seas[j]'hj)=true)∧Frm Nix w0 wr) (fun kv _=>x.seas.length - (intOf kv).toNat)
 case atStart=>exact⟨0,by omega,rfl,fun j hj h=>absurd h (by omega),Frm.refl _ _⟩
 case round=>
  obtain⟨k,hk,rfl,ht,hf⟩:=hrel;have HT:=h_ ht;have HF:=h_ hf;clear ht hf x0 x1 x2 x3 x4 x5 x6 x7 x8;obtain⟨x0,x1,x2,x3,x4,x5,x6,x7,x8⟩:=blk9 (HB.out.frm HF.out id)
  by_cases hlt:k<x.seas.length
  ·obtain⟨b,off,hA,-,hbl,hcell⟩:=(HS.out.seas.nix HF.out).at_ Sea.clen (by decide) (by omega)
   dsimp only at hA;subst hA;have HNo:=h_ (fun h=>HNo0.out (allG_no (p:=P) hlt h))
   have HStep:Hid (P (x.seas.take k) x.seas[k]=true→∀ (j:Nat) (hj:j<x.seas.length),j<k+1→P (x.seas.take j) (x.seas[j]'hj)=true):=fun h j hj hjk=>by
    by_cases e:j=k
    ·subst e;exact h
    ·exact HT.out j hj (by omega)
   have HCell:Hid (∀ W,Frm Nix wr W→∀ (i:Nat) (hi:i<x.seas.length) (j:Nat) (u:Value),(Sea.cells x.seas[i])[j]? =some u→W.cell? ⟨b,off+i * 3+j,none⟩=some u):=fun W hW i hi j u hu=>(hW.cell (p:=⟨b,off+i * 3+j,none⟩) hbl id).trans (hcell i hi j u hu)
   obtain⟨p0,p1,p2⟩:=Seacs (w:=wr) (b:=b) (off:=off+k * 3) (e:=x.seas[k]) (hcell k hlt);obtain⟨q,hq⟩:∃ q,x.seas[k]=q:=⟨_,rfl⟩;rw[hq] at p0 p1 p2 HNo HStep;clear hcell hq;have HPq:=h_ (HP.out (x.seas.take k) q);obtain⟨w1,hw1⟩:∃ w1,w1=wr.alloc (.cells #[.int .i64 q.id,.string q.name,.string q.query] 56):=⟨_,rfl⟩;have f1:Frm Nix wr w1:=by rw[hw1];exact(fR wr).alloc _
   have hb4:Blk w1 wr.heap.size 56 #[.int .i64 q.id,.string q.name,.string q.query]:=by rw[hw1];exact Blk.new _ _ _
   have HW1:=h_ hw1;have HF1:=h_ f1;have HB4:=h_ hb4;have hbx:=(HB.out.frm HF.out id).frm f1 id;have z:=fun y:FW (Frm Nix w1)=>blk9 (hbx.frm y.h id)
   have z0:=fun y=>(z y).1
   have z1:=fun y=>(z y).2.1
   have z2:=fun y=>(z y).2.2.1
   have z3:=fun y=>(z y).2.2.2.1
   have z4:=fun y=>(z y).2.2.2.2.1
   have z5:=fun y=>(z y).2.2.2.2.2.1
   have z6:=fun y=>(z y).2.2.2.2.2.2.1
   have z7:=fun y=>(z y).2.2.2.2.2.2.2.1
   have z8:=fun y=>(z y).2.2.2.2.2.2.2.2
   have HBx:=h_ hbx;have r0:=fun y:FW (Frm Nix w1)=>(show y.w.cell? ⟨wr.heap.size,0,none⟩=some (.int .i64 q.id) from (hb4.frm y.h id).cell 0)
   have r1:=fun y:FW (Frm Nix w1)=>(show y.w.cell? ⟨wr.heap.size,1,none⟩=some (.string q.name) from (hb4.frm y.h id).cell 1)
   have r2:=fun y:FW (Frm Nix w1)=>(show y.w.cell? ⟨wr.heap.size,2,none⟩=some (.string q.query) from (hb4.frm y.h id).cell 2)
   have KC:=fun y:FW (Frm Nix w1)=>(show Calls Tryz.prog 59 #[.agg #[.int .i64 11,.int .i64 q.id,.int .i64 0,.int .i64 0,.string q.name,.string q.query,.string ⟨#[]⟩]] y.w fun e w'=>e=.returned (.bool (evOk ⟨11,q.id,0,0,q.name,q.query,eS⟩))∧Frm Nix y.w w' from rCheck_any ⟨11,q.id,0,0,q.name,q.query,eS⟩ y.w)
   clear z hbx hb4 f1 hw1
   cases h0:evOk ⟨11,q.id,0,0,q.name,q.query,eS⟩ with
   | false=>
     rw[h0] at KC;go_wp2_with fail;rw[← HW1.out];refine wp_region_class (Frm Nix w1) ((fR w1).drew) (by kernel_rfl) (by kernel_rfl) ?_
     repeat (go_big_quiet_step (first
      | (rename_i y;go_at_call 59;refine y.call (KC y) ?_;exact fun w' hf=>y.h.trans hf)
      | fail))
     refine wpQuiet_nil ?_;rintro w5 ⟨⟨_,hfw5⟩,rfl⟩;go_wp2;go_ret
     exact⟨ret_bool (HNo.out (by rw[HPq.out,h0];simp)).symm,HF0.out.trans (HF.out.trans (HF1.out.trans hfw5))⟩
   | true=>
     rw[h0] at KC
     by_cases h1:x.tSea<q.id
     ·have k1:decide (x.tSea<q.id)=true:=decide_eq_true h1
      go_wp2_with fail;rw[← HW1.out];refine wp_region_class (Frm Nix w1) ((fR w1).drew) (by kernel_rfl) (by kernel_rfl) ?_
      repeat (go_big_quiet_step (first
       | (rename_i y;go_at_call 59;refine y.call (KC y) ?_;exact fun w' hf=>y.h.trans hf)
       | fail))
      refine wpQuiet_nil ?_;rintro w5 ⟨⟨_,hfw5⟩,rfl⟩;go_wp2;go_ret;exact⟨ret_bool (HNo.out (by rw[HPq.out,decide_eq_false (show ¬q.id≤x.tSea by omega)];simp)).symm,HF0.out.trans (HF.out.trans (HF1.out.trans hfw5))⟩
     have k1:decide (x.tSea<q.id)=false:=decide_eq_false h1;have hle:q.id≤x.tSea:=by omega
     by_cases hk0:0<k
     case neg=>
      have kA:decide ((0:Int)<(k:Int))=false:=by first | (simp;done) | (simp;omega)
      have kB:decide (0<k)=false:=by first | (simp;done) | (simp;omega)
      have hr:risesI Sea.id (x.seas.take k) q=true:=by rw[show k=0 by omega];exact rises_zero
      go_wp2_with fail;rw[← HW1.out];refine wp_region_class (Frm Nix w1) ((fR w1).drew) (by kernel_rfl) (by kernel_rfl) ?_
      repeat (go_big_quiet_step (first
       | (rename_i y;go_at_call 59;refine y.call (KC y) ?_;exact fun w' hf=>y.h.trans hf)
       | fail))
      refine wpQuiet_nil ?_;rintro w5 ⟨⟨_,hfw5⟩,rfl⟩;go_wp2;go_roundw
      case rel=>exact⟨k+1,by omega,by go_num,HStep.out (by rw[HPq.out,h0,hr,decide_eq_true hle];rfl),HF.out.trans (HF1.out.trans hfw5)⟩
      case measure=>simp[intOf];omega
     obtain⟨i,rfl⟩:∃ i,k=i+1:=⟨k - 1,by omega⟩;have kA:decide ((0:Int)<((i+1:Nat):Int))=true:=by first | (simp;done) | (simp;omega)
     have kA2:decide ((0:Int)<(i:Int)+1)=true:=by first | (simp;done) | (simp;omega)
     have hil:i<x.seas.length:=by omega
     have hr0:=rises_at (g:=Sea.id) (a:=q) (l:=x.seas) (k:=i) (by omega);have zp:=fun y:FW (Frm Nix w1)=>HCell.out y.w (HF1.out.trans y.h) i hil 0 _ rfl
     obtain⟨pr,hpr⟩:∃ pr,x.seas[i]=pr:=⟨_,rfl⟩;rw[hpr] at zp hr0;rw[Nat.add_zero] at zp;clear hpr
     by_cases h2:q.id≤pr.id
     ·have k2:decide (q.id≤pr.id)=true:=decide_eq_true h2
      have hr:risesI Sea.id (x.seas.take (i+1)) q=false:=by rw[hr0];exact decide_eq_false (by omega)
      go_wp2_with fail;rw[← HW1.out];refine wp_region_class (Frm Nix w1) ((fR w1).drew) (by kernel_rfl) (by kernel_rfl) ?_
      repeat (go_big_quiet_step (first
       | (rename_i y;go_at_call 59;refine y.call (KC y) ?_;exact fun w' hf=>y.h.trans hf)
       | fail))
      refine wpQuiet_nil ?_;rintro w5 ⟨⟨_,hfw5⟩,rfl⟩;go_wp2;go_ret;exact⟨ret_bool (HNo.out (by rw[HPq.out,hr];simp)).symm,HF0.out.trans (HF.out.trans (HF1.out.trans hfw5))⟩
     have k2:decide (q.id≤pr.id)=false:=decide_eq_false h2;have hr:risesI Sea.id (x.seas.take (i+1)) q=true:=by rw[hr0];exact decide_eq_true (by omega)
     go_wp2_with fail;rw[← HW1.out];refine wp_region_class (Frm Nix w1) ((fR w1).drew) (by kernel_rfl) (by kernel_rfl) ?_
     repeat (go_big_quiet_step (first
      | (rename_i y;go_at_call 59;refine y.call (KC y) ?_;exact fun w' hf=>y.h.trans hf)
      | fail))
     refine wpQuiet_nil ?_;rintro w5 ⟨⟨_,hfw5⟩,rfl⟩;go_wp2;go_roundw
     case rel=>exact⟨i+1+1,by omega,by go_num,HStep.out (by rw[HPq.out,h0,hr,decide_eq_true hle];rfl),HF.out.trans (HF1.out.trans hfw5)⟩
     case measure=>simp[intOf];omega
  ·obtain rfl:k=x.seas.length:=by omega
   have HAll:Hid (allG P [] x.seas=true):=allG_yes fun j hj h=>HT.out j hj h
   have HOk:=h_ (HYes0.out HAll.out);go_wp2;have HSe:=HOk;clear HOk;have HE:Hid (stOk x=(seasOk x&&decide (0≤x.clock)&&evOk ⟨13,0,0,x.clock,eS,eS,eS⟩&&folsOk x&&feesOk x&&itmsOk x)):=rfl;have KCl:=h_ (fun W=>(show Calls Tryz.prog 59 #[.agg #[.int .i64 13,.int .i64 0,.int .i64 0,.int .i64 x.clock,.string ⟨#[]⟩,.string ⟨#[]⟩,.string ⟨#[]⟩]] W fun e w'=>e=.returned (.bool (evOk ⟨13,0,0,x.clock,eS,eS,eS⟩))∧Frm Nix W w' from rCheck_any ⟨13,0,0,x.clock,eS,eS,eS⟩ W));have KFo:=h_ (fun W (hW:Frm Nix w0 W)=>(show Calls Tryz.prog 60 #[.agg #[.int .i64 x.clock,.slice fo.1 x.fols.length fo.2,.slice fe.1 x.fees.length fe.2,.slice it.1 x.itms.length it.2,.slice A x.seas.length c,.int .i64 x.tFol,.int .i64 x.tFee,.int .i64 x.tItm,.int .i64 x.tSea]] W fun e w'=>e=.returned (.bool (folsOk x))∧Frm Nix W w' from by have q:=rFolders_any (HS.out.nix hW) HSm.out;exact q));have KFe:=h_ (fun W (hW:Frm Nix w0 W)=>(show Calls Tryz.prog 61 #[.agg #[.int .i64 x.clock,.slice fo.1 x.fols.length fo.2,.slice fe.1 x.fees.length fe.2,.slice it.1 x.itms.length it.2,.slice A x.seas.length c,.int .i64 x.tFol,.int .i64 x.tFee,.int .i64 x.tItm,.int .i64 x.tSea]] W fun e w'=>e=.returned (.bool (feesOk x))∧Frm Nix W w' from by have q:=rFeeds_any (HS.out.nix hW) HSm.out;exact q));have KIt:=h_ (fun W (hW:Frm Nix w0 W)=>(show Calls Tryz.prog 62 #[.agg #[.int .i64 x.clock,.slice fo.1 x.fols.length fo.2,.slice fe.1 x.fees.length fe.2,.slice it.1 x.itms.length it.2,.slice A x.seas.length c,.int .i64 x.tFol,.int .i64 x.tFee,.int .i64 x.tItm,.int .i64 x.tSea]] W fun e w'=>e=.returned (.bool (itmsOk x))∧Frm Nix W w' from by have q:=rItems_any (HS.out.nix hW) HSm.out;exact q));simp only[peel,bodyOf,Tryz.f17]
   by_cases a1:x.seas.length≤32
   case neg=>
    have a2:(32:Int)<(x.seas.length:Int):=by omega
    go_wp2;go_ret;exact⟨ret_bool (by rw[HE.out,HSe.out,decide_eq_false a1]<;>first | rfl | (simp;done)),HF0.out.trans HF.out⟩
   have a2:¬(32:Int)<(x.seas.length:Int):=by omega
   by_cases b1:x.tSea<0
   case pos=>
    go_wp2;go_ret;exact⟨ret_bool (by rw[HE.out,HSe.out,decide_eq_false (show ¬(0≤x.tSea∧x.tSea≤1048576) by omega)]<;>first | rfl | (simp;done)),HF0.out.trans HF.out⟩
   by_cases b2:1048576<x.tSea
   case pos=>
    go_wp2;go_ret;exact⟨ret_bool (by rw[HE.out,HSe.out,decide_eq_false (show ¬(0≤x.tSea∧x.tSea≤1048576) by omega)]<;>first | rfl | (simp;done)),HF0.out.trans HF.out⟩
   have HSt:Hid (seasOk x=true):=by unfold Hid;rw[HSe.out,decide_eq_true a1,decide_eq_true (show (0≤x.tSea∧x.tSea≤1048576) by omega)];rfl
   rw[HSt.out] at HE
   by_cases c1:x.clock<0
   case pos=>
    go_wp2;go_ret;exact⟨ret_bool (by rw[HE.out,decide_eq_false (show ¬0≤x.clock by omega)]<;>first | rfl | (simp;done)),HF0.out.trans HF.out⟩
   rw[decide_eq_true (show 0≤x.clock by omega)] at HE
   cases d0:evOk ⟨13,0,0,x.clock,eS,eS,eS⟩ with
   | false=>
     rw[d0] at HE KCl;clear d0;go_wp2_with (go_at_call 59;refine(KCl.out _).mono ?_;rintro e w2 ⟨rfl,hf⟩;have Z2:Hid (Frm Nix w0 w2):=HF.out.trans hf;clear hf x0 x1 x2 x3 x4 x5 x6 x7 x8;obtain⟨x0,x1,x2,x3,x4,x5,x6,x7,x8⟩:=blk9 (HB.out.frm Z2.out id));go_ret
     exact⟨ret_bool (by rw[HE.out]<;>first | rfl | (simp;done)),HF0.out.trans Z2.out⟩
   | true=>
     rw[d0] at HE KCl;clear d0
     cases d1:folsOk x with
     | false=>
       rw[d1] at HE KFo;clear d1
       go_wp2_with (first
         | (go_at_call 60;refine(KFo.out _ Z2.out).mono ?_;rintro e w3 ⟨rfl,hf⟩;have Z3:Hid (Frm Nix w0 w3):=Z2.out.trans hf;clear hf x0 x1 x2 x3 x4 x5 x6 x7 x8;obtain⟨x0,x1,x2,x3,x4,x5,x6,x7,x8⟩:=blk9 (HB.out.frm Z3.out id))
         | (go_at_call 59;refine(KCl.out _).mono ?_;rintro e w2 ⟨rfl,hf⟩;have Z2:Hid (Frm Nix w0 w2):=HF.out.trans hf;clear hf x0 x1 x2 x3 x4 x5 x6 x7 x8;obtain⟨x0,x1,x2,x3,x4,x5,x6,x7,x8⟩:=blk9 (HB.out.frm Z2.out id)))
       go_ret
       exact⟨ret_bool (by rw[HE.out]<;>first | rfl | (simp;done)),HF0.out.trans Z3.out⟩
     | true=>
       rw[d1] at HE KFo;clear d1
       cases d2:feesOk x with
       | false=>
         rw[d2] at HE KFe;clear d2
         go_wp2_with (first
           | (go_at_call 61;refine(KFe.out _ Z3.out).mono ?_;rintro e w4 ⟨rfl,hf⟩;have Z4:Hid (Frm Nix w0 w4):=Z3.out.trans hf;clear hf x0 x1 x2 x3 x4 x5 x6 x7 x8;obtain⟨x0,x1,x2,x3,x4,x5,x6,x7,x8⟩:=blk9 (HB.out.frm Z4.out id))
           | (go_at_call 60;refine(KFo.out _ Z2.out).mono ?_;rintro e w3 ⟨rfl,hf⟩;have Z3:Hid (Frm Nix w0 w3):=Z2.out.trans hf;clear hf x0 x1 x2 x3 x4 x5 x6 x7 x8;obtain⟨x0,x1,x2,x3,x4,x5,x6,x7,x8⟩:=blk9 (HB.out.frm Z3.out id))
           | (go_at_call 59;refine(KCl.out _).mono ?_;rintro e w2 ⟨rfl,hf⟩;have Z2:Hid (Frm Nix w0 w2):=HF.out.trans hf;clear hf x0 x1 x2 x3 x4 x5 x6 x7 x8;obtain⟨x0,x1,x2,x3,x4,x5,x6,x7,x8⟩:=blk9 (HB.out.frm Z2.out id)))
         go_ret
         exact⟨ret_bool (by rw[HE.out]<;>first | rfl | (simp;done)),HF0.out.trans Z4.out⟩
       | true=>
         rw[d2] at HE KFe;clear d2
         cases d3:itmsOk x with
         | false=>
           rw[d3] at HE KIt;clear d3
           go_wp2_with (first
             | (go_at_call 62;refine(KIt.out _ Z4.out).mono ?_;rintro e w5 ⟨rfl,hf⟩;have Z5:Hid (Frm Nix w0 w5):=Z4.out.trans hf;clear hf x0 x1 x2 x3 x4 x5 x6 x7 x8;obtain⟨x0,x1,x2,x3,x4,x5,x6,x7,x8⟩:=blk9 (HB.out.frm Z5.out id))
             | (go_at_call 61;refine(KFe.out _ Z3.out).mono ?_;rintro e w4 ⟨rfl,hf⟩;have Z4:Hid (Frm Nix w0 w4):=Z3.out.trans hf;clear hf x0 x1 x2 x3 x4 x5 x6 x7 x8;obtain⟨x0,x1,x2,x3,x4,x5,x6,x7,x8⟩:=blk9 (HB.out.frm Z4.out id))
             | (go_at_call 60;refine(KFo.out _ Z2.out).mono ?_;rintro e w3 ⟨rfl,hf⟩;have Z3:Hid (Frm Nix w0 w3):=Z2.out.trans hf;clear hf x0 x1 x2 x3 x4 x5 x6 x7 x8;obtain⟨x0,x1,x2,x3,x4,x5,x6,x7,x8⟩:=blk9 (HB.out.frm Z3.out id))
             | (go_at_call 59;refine(KCl.out _).mono ?_;rintro e w2 ⟨rfl,hf⟩;have Z2:Hid (Frm Nix w0 w2):=HF.out.trans hf;clear hf x0 x1 x2 x3 x4 x5 x6 x7 x8;obtain⟨x0,x1,x2,x3,x4,x5,x6,x7,x8⟩:=blk9 (HB.out.frm Z2.out id)))
           go_ret
           exact⟨ret_bool (by rw[HE.out]<;>first | rfl | (simp;done)),HF0.out.trans Z5.out⟩
         | true=>
           rw[d3] at HE KIt;clear d3
           go_wp2_with (first
             | (go_at_call 62;refine(KIt.out _ Z4.out).mono ?_;rintro e w5 ⟨rfl,hf⟩;have Z5:Hid (Frm Nix w0 w5):=Z4.out.trans hf;clear hf x0 x1 x2 x3 x4 x5 x6 x7 x8;obtain⟨x0,x1,x2,x3,x4,x5,x6,x7,x8⟩:=blk9 (HB.out.frm Z5.out id))
             | (go_at_call 61;refine(KFe.out _ Z3.out).mono ?_;rintro e w4 ⟨rfl,hf⟩;have Z4:Hid (Frm Nix w0 w4):=Z3.out.trans hf;clear hf x0 x1 x2 x3 x4 x5 x6 x7 x8;obtain⟨x0,x1,x2,x3,x4,x5,x6,x7,x8⟩:=blk9 (HB.out.frm Z4.out id))
             | (go_at_call 60;refine(KFo.out _ Z2.out).mono ?_;rintro e w3 ⟨rfl,hf⟩;have Z3:Hid (Frm Nix w0 w3):=Z2.out.trans hf;clear hf x0 x1 x2 x3 x4 x5 x6 x7 x8;obtain⟨x0,x1,x2,x3,x4,x5,x6,x7,x8⟩:=blk9 (HB.out.frm Z3.out id))
             | (go_at_call 59;refine(KCl.out _).mono ?_;rintro e w2 ⟨rfl,hf⟩;have Z2:Hid (Frm Nix w0 w2):=HF.out.trans hf;clear hf x0 x1 x2 x3 x4 x5 x6 x7 x8;obtain⟨x0,x1,x2,x3,x4,x5,x6,x7,x8⟩:=blk9 (HB.out.frm Z2.out id)))
           go_ret;exact⟨ret_bool (by rw[HE.out]<;>first | rfl | (simp;done)),HF0.out.trans Z5.out⟩
theorem histR10{Q:Exit→Act→World→Prop}{wr:World}{bx b off k n c:Nat}{x y:St}{fo fe it se:Sl}{ev:Ev}{G:Nat→Prop}{bb:Bool}
  (hb:Blk wr bx 30 #[.int .i64 x.clock,.slice fo.1 x.fols.length fo.2,.slice fe.1 x.fees.length fe.2,.slice it.1 x.itms.length it.2,.slice se.1 x.seas.length se.2,.int .i64 x.tFol,.int .i64 x.tFee,.int .i64 x.tItm,.int .i64 x.tSea]) (hev:∀ W,Frm Nix wr W→(W.cell? ⟨b,off+k * 7,none⟩=some (.int .i64 ev.kind)∧W.cell? ⟨b,off+k * 7+1,none⟩=some (.int .i64 ev.a)∧W.cell? ⟨b,off+k * 7+2,none⟩=some (.int .i64 ev.b)∧W.cell? ⟨b,off+k * 7+3,none⟩=some (.int .i64 ev.n)∧W.cell? ⟨b,off+k * 7+4,none⟩=some (.string ev.s)∧W.cell? ⟨b,off+k * 7+5,none⟩=some (.string ev.t)∧W.cell? ⟨b,off+k * 7+6,none⟩=some (.string ev.u))) (hk:k<n) (hG:∀ k,G k→k<wr.heap.size)
  (hKA:∀ W,Frm Nix wr W→Calls Tryz.prog 12 #[stV fo fe it se x,.agg #[.int .i64 ev.kind,.int .i64 ev.a,.int .i64 ev.b,.int .i64 ev.n,.string ev.s,.string ev.t,.string ev.u]] W fun r w'=>∃ (fo fe it se:Sl) (ts:List (Sl×Itm)),r=.returned (.tuple #[stV fo fe it se y,.bool bb])∧StIn w' (fun k=>G k∨W.heap.size≤k) fo fe it se ts y∧Frm Nix W w')
  {u0 u1 u2 u6 u7 u8 u9 u10 u11 u12 u13 u14 u15 u16 u17 u18 u19 u20 u21 u22 u23 u24 u25 u26 u27 u28 u29 u30 u31 u32 u33 u34 u35 u36 u37 u38 u39 u40 u41:Value} (hP:∀ (e:_) (a:Act) (i:Nat) (v:Value) (w:World),Q (.panic e) (a.put (some i) v) w→Q (.panic e) a w) (hQ:∀ (w9:World) (g:Nat) (foy fey ity sey:Sl) (tsy:List (Sl×Itm)) (z27 z28 z29 z30 z31 z32 z33 z34 z35:Value),wr.heap.size≤g→Frm Nix wr w9→Blk w9 g 30 #[.int .i64 y.clock,.slice foy.1 y.fols.length foy.2,.slice fey.1 y.fees.length fey.2,.slice ity.1 y.itms.length ity.2,.slice sey.1 y.seas.length sey.2,.int .i64 y.tFol,.int .i64 y.tFee,.int .i64 y.tItm,.int .i64 y.tSea]→StIn w9 (fun k=>G k∨wr.heap.size≤k) foy fey ity sey tsy y→Q .normal ⟨#[u0,u1,u2,.slice (some ⟨b,off,none⟩) n c,.pointer (some ⟨bx,0,none⟩),.int .i64 k,.pointer (some ⟨g,0,none⟩),.bool bb,u8,u9,u10,u11,u12,u13,u14,u15,u16,u17,u18,u19,u20,u21,u22,u23,u24,u25,u26,z27,z28,z29,z30,z31,z32,z33,z34,z35,u36,u37,u38,u39,u40,u41],[]⟩ w9):
  Code.wp Tryz.prog (hdC (inC (hdC (sndC (loopC (inC (sndC (hdC (peel 5 (bodyOf Tryz.f4)))))))))) Q ⟨#[u0,u1,u2,.slice (some ⟨b,off,none⟩) n c,.pointer (some ⟨bx,0,none⟩),.int .i64 k,u6,u7,u8,u9,u10,u11,u12,u13,u14,u15,u16,u17,u18,u19,u20,u21,u22,u23,u24,u25,u26,u27,u28,u29,u30,u31,u32,u33,u34,u35,u36,u37,u38,u39,u40,u41],[]⟩ wr:=by
 have HC:Hid (∀ W,Frm Nix wr W→(W.cell? ⟨bx,0,none⟩=some (.int .i64 x.clock)∧W.cell? ⟨bx,1,none⟩=some (.slice fo.1 x.fols.length fo.2)∧W.cell? ⟨bx,2,none⟩=some (.slice fe.1 x.fees.length fe.2)∧W.cell? ⟨bx,3,none⟩=some (.slice it.1 x.itms.length it.2)∧W.cell? ⟨bx,4,none⟩=some (.slice se.1 x.seas.length se.2)∧W.cell? ⟨bx,5,none⟩=some (.int .i64 x.tFol)∧W.cell? ⟨bx,6,none⟩=some (.int .i64 x.tFee)∧W.cell? ⟨bx,7,none⟩=some (.int .i64 x.tItm)∧W.cell? ⟨bx,8,none⟩=some (.int .i64 x.tSea))∧(W.cell? ⟨b,off+k * 7,none⟩=some (.int .i64 ev.kind)∧W.cell? ⟨b,off+k * 7+1,none⟩=some (.int .i64 ev.a)∧W.cell? ⟨b,off+k * 7+2,none⟩=some (.int .i64 ev.b)∧W.cell? ⟨b,off+k * 7+3,none⟩=some (.int .i64 ev.n)∧W.cell? ⟨b,off+k * 7+4,none⟩=some (.string ev.s)∧W.cell? ⟨b,off+k * 7+5,none⟩=some (.string ev.t)∧W.cell? ⟨b,off+k * 7+6,none⟩=some (.string ev.u))):=fun W hW=>⟨blk9 (hb.frm hW id),hev W hW⟩
 have KA:=h_ hKA;have HP:=h_ hP;have HG:=h_ hG;have HQ:=h_ hQ;have HW0:Hid (Frm Nix wr wr.drew):=(fR wr).drew;have HWA:Hid (Frm Nix wr (wr.drew.alloc (.cells #[.int .i64 0,.slice none 0 0,.slice none 0 0,.slice none 0 0,.slice none 0 0,.int .i64 0,.int .i64 0,.int .i64 0,.int .i64 0] 30))):=HW0.out.alloc _;have HZ0:Hid (wr.heap.size≤wr.drew.heap.size):=HW0.out.size;have hki:(k:Int)<(n:Int):=by omega
 have hk0:(0:Int)≤(k:Int):=Int.natCast_nonneg _;clear hb hev hKA hP hQ hG;simp only[hdC,sndC,inC,loopC,peel,bodyOf,Tryz.f4];refine wp_region_held_drew (S:=fun W=>(W.cell? ⟨bx,0,none⟩=some (.int .i64 x.clock)∧W.cell? ⟨bx,1,none⟩=some (.slice fo.1 x.fols.length fo.2)∧W.cell? ⟨bx,2,none⟩=some (.slice fe.1 x.fees.length fe.2)∧W.cell? ⟨bx,3,none⟩=some (.slice it.1 x.itms.length it.2)∧W.cell? ⟨bx,4,none⟩=some (.slice se.1 x.seas.length se.2)∧W.cell? ⟨bx,5,none⟩=some (.int .i64 x.tFol)∧W.cell? ⟨bx,6,none⟩=some (.int .i64 x.tFee)∧W.cell? ⟨bx,7,none⟩=some (.int .i64 x.tItm)∧W.cell? ⟨bx,8,none⟩=some (.int .i64 x.tSea))∧(W.cell? ⟨b,off+k * 7,none⟩=some (.int .i64 ev.kind)∧W.cell? ⟨b,off+k * 7+1,none⟩=some (.int .i64 ev.a)∧W.cell? ⟨b,off+k * 7+2,none⟩=some (.int .i64 ev.b)∧W.cell? ⟨b,off+k * 7+3,none⟩=some (.int .i64 ev.n)∧W.cell? ⟨b,off+k * 7+4,none⟩=some (.string ev.s)∧W.cell? ⟨b,off+k * 7+5,none⟩=some (.string ev.t)∧W.cell? ⟨b,off+k * 7+6,none⟩=some (.string ev.u))) (by kernel_rfl) (HC.out _ HW0.out) fun hH=>?_
 refine tk (i:=0) HP rfl rfl hH ?_
 try simp only[lt,Act.put]
 refine tk (i:=1) HP rfl rfl hH ?_
 try simp only[lt,Act.put]
 refine tk (i:=2) HP rfl rfl hH ?_
 try simp only[lt,Act.put]
 refine tk (i:=3) HP rfl rfl hH ?_
 try simp only[lt,Act.put]
 refine tk (i:=4) HP rfl rfl hH ?_
 try simp only[lt,Act.put]
 refine rdy2 (i:=5) (j:=9) rfl rfl (fun K hK=>?_) (fun K hK=>?_)
 ·go_simp
  go_at_call 12;refine(KA.out _ HW0.out).mono ?_;rintro r w7 ⟨foy,fey,ity,sey,tsy,rfl,hs,hf⟩;have HS7:=h_ hs;have Z7:=h_ (HW0.out.trans hf);have HF7:=h_ hf;clear hs hf;unfold stV;dsimp only;refine hK.out _ _ (HC.out _ Z7.out) (fun hH=>?_);clear hK K
  try simp only[lt,Act.put]
  refine tk (i:=6) HP rfl rfl hH ?_
  try simp only[lt,Act.put]
  refine tk (i:=7) HP rfl rfl hH ?_
  try simp only[lt,Act.put]
  refine tk (i:=8) HP rfl rfl hH ?_
  try simp only[lt,Act.put]
  refine rdy1 (i:=9) rfl (fun K hK=>?_);go_simp;refine hK.out _ _ (HC.out _ (Z7.out.alloc _)) (fun hH=>?_);clear hK K
  try simp only[lt,Act.put]
  refine rdy1 (i:=10) rfl (fun K hK=>?_);go_simp;refine hK.out _ _ (HC.out _ (Z7.out.alloc _)) (fun hH=>?_);clear hK K
  try simp only[lt,Act.put]
  refine tk (i:=11) HP rfl rfl hH ?_
  try simp only[lt,Act.put]
  refine wpAnyH_done (by kernel_rfl) ?_ _;exact HQ.out _ _ _ _ _ _ _ _ _ _ _ _ _ _ _ _ Z7.out.size (Z7.out.alloc _) (Blk.new w7 _ _) ((HS7.out.nix ((fR w7).alloc _)).mono fun k hk=>hk.imp id fun h=>by have:=HZ0.out;omega)
 ·go_simp
  refine hK.out _ _ (HC.out _ HWA.out) (fun hH=>?_);clear hK K
  try simp only[lt,Act.put]
  refine rdy1 (i:=5) rfl (fun K hK=>?_);go_simp;go_at_call 12;refine(KA.out _ HWA.out).mono ?_;rintro r w7 ⟨foy,fey,ity,sey,tsy,rfl,hs,hf⟩;have HS7:=h_ hs;have Z7:=h_ (HWA.out.trans hf);have HF7:=h_ hf;clear hs hf;unfold stV;dsimp only;refine hK.out _ _ (HC.out _ Z7.out) (fun hH=>?_);clear hK K
  try simp only[lt,Act.put]
  refine tk (i:=6) HP rfl rfl hH ?_
  try simp only[lt,Act.put]
  refine tk (i:=7) HP rfl rfl hH ?_
  try simp only[lt,Act.put]
  refine tk (i:=8) HP rfl rfl hH ?_
  try simp only[lt,Act.put]
  refine rdy1 (i:=10) rfl (fun K hK=>?_);have hb8:Blk w7 wr.heap.size 30 #[.int .i64 0,.slice none 0 0,.slice none 0 0,.slice none 0 0,.slice none 0 0,.int .i64 0,.int .i64 0,.int .i64 0,.int .i64 0]:=(Blk.new wr.drew _ _).frm HF7.out id;have g0:=hb8.frozen 0;have c0:=(hb8.cell 0).trans rfl;have g1:=hb8.frozen 1;have c1:=(hb8.cell 1).trans rfl;have g2:=hb8.frozen 2;have c2:=(hb8.cell 2).trans rfl;have g3:=hb8.frozen 3;have c3:=(hb8.cell 3).trans rfl;have g4:=hb8.frozen 4;have c4:=(hb8.cell 4).trans rfl;have g5:=hb8.frozen 5;have c5:=(hb8.cell 5).trans rfl;have g6:=hb8.frozen 6;have c6:=(hb8.cell 6).trans rfl;have g7:=hb8.frozen 7;have c7:=(hb8.cell 7).trans rfl;have g8:=hb8.frozen 8;have c8:=(hb8.cell 8).trans rfl;go_simp;obtain⟨w9,hw9⟩:∃ w9,w9=w7.setCells wr.heap.size 0 [.int .i64 y.clock,.slice foy.1 y.fols.length foy.2,.slice fey.1 y.fees.length fey.2,.slice ity.1 y.itms.length ity.2,.slice sey.1 y.seas.length sey.2,.int .i64 y.tFol,.int .i64 y.tFee,.int .i64 y.tItm,.int .i64 y.tSea]:=⟨_,rfl⟩
  have hb9:Blk w9 wr.heap.size 30 #[.int .i64 y.clock,.slice foy.1 y.fols.length foy.2,.slice fey.1 y.fees.length fey.2,.slice ity.1 y.itms.length ity.2,.slice sey.1 y.seas.length sey.2,.int .i64 y.tFol,.int .i64 y.tFee,.int .i64 y.tItm,.int .i64 y.tSea]:=by
   have:=Blk.putL [.int .i64 y.clock,.slice foy.1 y.fols.length foy.2,.slice fey.1 y.fees.length fey.2,.slice ity.1 y.itms.length ity.2,.slice sey.1 y.seas.length sey.2,.int .i64 y.tFol,.int .i64 y.tFee,.int .i64 y.tItm,.int .i64 y.tSea] 0 hb8;rw[putL9] at this;rw[hw9];exact this
  have fe_:Frm (fun k=>k=wr.heap.size) w7 w9:=by rw[hw9];exact Frm.setCells _ 0 (Frm.refl _ _) (.inl rfl)
  simp only[World.setCells] at hw9;rw[← hw9];have HF9:Hid (Frm Nix wr w9):=Z7.out.next fe_ (fun k hk=>.inr (by omega))
  have HS9:Hid (StIn w9 (fun k=>G k∨wr.heap.size≤k) foy fey ity sey tsy y):=(HS7.out.frm fe_ fun k hk e=>by subst e;rcases hk with hk | hk;exact Nat.lt_irrefl _ (HG.out _ hk);simp at hk;omega).mono fun k hk=>hk.imp id fun h=>by simp at h;omega
  have HB9:=h_ hb9;clear fe_ hw9 hb9 hb8;refine hK.out _ _ (HC.out _ HF9.out) (fun hH=>?_);clear hK K
  try simp only[lt,Act.put]
  refine tk (i:=11) HP rfl rfl hH ?_
  try simp only[lt,Act.put]
  refine wpAnyH_done (by kernel_rfl) ?_ _;exact HQ.out _ _ _ _ _ _ _ _ _ _ _ _ _ _ _ _ (Nat.le_refl _) HF9.out HB9.out HS9.out
theorem leads_at{l:List Ev}{x z:St}(h:Leads x l z){k:Nat}(hk:k<l.length):fits (foldE x (l.take k)) l[k]=true:=by
 refine leads_fits (z:=z) (r:=l.drop (k+1)) ?_;have:=List.take_append_drop k l;rw[List.drop_eq_getElem_cons hk] at this;rw[this];exact h
theorem hist_l{w:World}{G:Nat→Prop}{fo fe it se:Sl}{ts:List (Sl×Itm)}{x:St}(h:StIn w G fo fe it se ts x)(hn:StNums x)(hl:largeS x=true):Calls Tryz.prog 4 #[stV fo fe it se x] w fun e w'=>e=.returned (.bool true)∧Frm Nix w w':=by
 obtain⟨w0,hw0,hf0,hb1⟩:=box_st w fo fe it se x;obtain⟨x0,x1,x2,x3,x4,x5,x6,x7,x8⟩:=blk9 hb1;have HX:=h_ (h.nix hf0);have HNum:=h_ hn;have HB:=h_ hb1;have HF0:=h_ hf0;have HW:=h_ hw0;have KX:Hid (∀ W,Frm Nix w0 W→Calls Tryz.prog 16 #[stV fo fe it se x] W fun e w'=>e=.returned (.bool (largeS x))∧Frm Nix W w'):=fun W hW=>rLargeSt_any (HX.out.nix hW)
 clear h hn hf0 hb1;rw[hw0] at x0 x1 x2 x3 x4 x5 x6 x7 x8;clear hw0;unfold stV;rw[hl] at KX;clear hl;go_enter Tryz.func4,Tryz.ntmps4
 go_wp2_with (first
  | (go_at_call 8;have _q:=Z1;refine(lives_any _).mono ?_;rintro e w2 ⟨rfl,hf⟩;have Z2:Hid (Frm Nix w0 w2):=Z1.out.trans hf;clear hf)
  | (go_at_call 16;rw[← HW.out];refine(KX.out _ (fR w0)).mono ?_;rintro e w1 ⟨rfl,hf⟩;have Z1:=h_ hf;clear hf;clear x0 x1 x2 x3 x4 x5 x6 x7 x8;obtain⟨x0,x1,x2,x3,x4,x5,x6,x7,x8⟩:=blk9 (HB.out.frm Z1.out id)))
 go_ret;exact⟨rfl,HF0.out.trans Z2.out⟩
theorem hist_no{w:World}{G:Nat→Prop}{fo fe it se:Sl}{ts:List (Sl×Itm)}{x:St}(h:StIn w G fo fe it se ts x)(hn:StNums x)(hl:largeS x=false)(hok:stOk x=false):Calls Tryz.prog 4 #[stV fo fe it se x] w fun e w'=>e=.returned (.bool true)∧Frm Nix w w':=by
 obtain⟨w0,hw0,hf0,hb1⟩:=box_st w fo fe it se x;obtain⟨x0,x1,x2,x3,x4,x5,x6,x7,x8⟩:=blk9 hb1;have HX:=h_ (h.nix hf0);have HNum:=h_ hn;have HB:=h_ hb1;have HF0:=h_ hf0;have HW:=h_ hw0;have KX:Hid (∀ W,Frm Nix w0 W→Calls Tryz.prog 16 #[stV fo fe it se x] W fun e w'=>e=.returned (.bool (largeS x))∧Frm Nix W w'):=fun W hW=>rLargeSt_any (HX.out.nix hW)
 clear h hn hf0 hb1;rw[hw0] at x0 x1 x2 x3 x4 x5 x6 x7 x8;clear hw0;unfold stV;have HSm:Hid (StSmall x):=small_large hl;have HOk:=h_ hok
 have KC:Hid (∀ W,Frm Nix w0 W→Calls Tryz.prog 17 #[stV fo fe it se x] W fun e w'=>e=.returned (.bool false)∧Frm Nix W w'):=fun W hW=>by
  have:=rStCheck_any (HX.out.nix hW) HSm.out;rw[HOk.out] at this;exact this
 rw[hl] at KX;clear hl hok;go_enter Tryz.func4,Tryz.ntmps4
 go_wp2_with (first
  | (go_at_call 8;have _q:=Z2;refine(lives_any _).mono ?_;rintro e w3 ⟨rfl,hf⟩;have Z3:Hid (Frm Nix w0 w3):=Z2.out.trans hf;clear hf)
  | (go_at_call 17;have _q:=Z1;refine(KC.out _ Z1.out).mono ?_;rintro e w2 ⟨rfl,hf⟩;have Z2:Hid (Frm Nix w0 w2):=Z1.out.trans hf;clear hf;clear x0 x1 x2 x3 x4 x5 x6 x7 x8;obtain⟨x0,x1,x2,x3,x4,x5,x6,x7,x8⟩:=blk9 (HB.out.frm Z2.out id))
  | (go_at_call 16;rw[← HW.out];refine(KX.out _ (fR w0)).mono ?_;rintro e w1 ⟨rfl,hf⟩;have Z1:=h_ hf;clear hf;clear x0 x1 x2 x3 x4 x5 x6 x7 x8;obtain⟨x0,x1,x2,x3,x4,x5,x6,x7,x8⟩:=blk9 (HB.out.frm Z1.out id)))
 go_ret;exact⟨rfl,HF0.out.trans Z3.out⟩
theorem hist_yes{w:World}{G:Nat→Prop}{fo fe it se:Sl}{ts:List (Sl×Itm)}{x:St}(h:StIn w G fo fe it se ts x)(hn:StNums x)(hl:largeS x=false)(hok:stOk x=true):Calls Tryz.prog 4 #[stV fo fe it se x] w fun e w'=>e=.returned (.bool true)∧Frm Nix w w':=by
 obtain⟨w0,hw0,hf0,hb1⟩:=box_st w fo fe it se x;obtain⟨x0,x1,x2,x3,x4,x5,x6,x7,x8⟩:=blk9 hb1;have HX:=h_ (h.nix hf0);have HNum:=h_ hn;have HB:=h_ hb1;have HF0:=h_ hf0;have HW:=h_ hw0;have KX:Hid (∀ W,Frm Nix w0 W→Calls Tryz.prog 16 #[stV fo fe it se x] W fun e w'=>e=.returned (.bool (largeS x))∧Frm Nix W w'):=fun W hW=>rLargeSt_any (HX.out.nix hW)
 clear h hn hf0 hb1;rw[hw0] at x0 x1 x2 x3 x4 x5 x6 x7 x8;clear hw0;unfold stV;have HSm:Hid (StSmall x):=small_large hl;have HOk:=h_ hok
 have KC:Hid (∀ W,Frm Nix w0 W→Calls Tryz.prog 17 #[stV fo fe it se x] W fun e w'=>e=.returned (.bool true)∧Frm Nix W w'):=fun W hW=>by
  have:=rStCheck_any (HX.out.nix hW) HSm.out;rw[HOk.out] at this;exact this
 have HPl:=past_large hl;have HPn:=past_nums HNum.out;obtain⟨l,hpl⟩:∃ l,pastS x=l:=⟨_,rfl⟩;have HLd:Hid (Leads st0 l x):=by rw[← hpl];exact lead_past x ((stOk_iff x).1 hok)
 obtain⟨n,hn⟩:∃ n,l.length=n:=⟨_,rfl⟩
 have KH:Hid (∀ W,Frm Nix w0 W→Calls Tryz.prog 18 #[stV fo fe it se x] W fun e w'=>∃ A c,e=.returned (.slice A n c)∧SlIn w' (fun k=>W.heap.size≤k) 7 (A,c) l.length (l.flatMap Ev.cells)∧Frm Nix W w'):=fun W hW=>by
  refine(History_yes (HX.out.nix hW) HSm.out HPl HPn HOk.out).mono ?_;rintro e w' ⟨A,c,rfl,hr⟩;rw[hpl] at hr;rw[hpl,hn];rw[hn] at hr;exact⟨A,c,rfl,hr.sl,hr.frm⟩
 have HN:=h_ hn;have hn9:n≤900000:=by rw[← hn,← hpl];exact HPl
 rw[hl] at KX;clear hl hok HPl HPn hpl hn;go_enter Tryz.func4,Tryz.ntmps4;show Code.wp Tryz.prog (peel 0 (bodyOf Tryz.f4)) _ _ _
 refine peelK (k':=1) fun K hK=>?_
 conv in hdC _=>whnf
 go_wp2;refine peelK (k':=2) fun K hK=>?_
 conv in hdC _=>whnf
 go_wp2_with (first
  | (go_at_call 17;have _q:=Z1;refine(KC.out _ Z1.out).mono ?_;rintro e w2 ⟨rfl,hf⟩;have Z2:Hid (Frm Nix w0 w2):=Z1.out.trans hf;clear hf;clear x0 x1 x2 x3 x4 x5 x6 x7 x8;obtain⟨x0,x1,x2,x3,x4,x5,x6,x7,x8⟩:=blk9 (HB.out.frm Z2.out id))
  | (go_at_call 16;rw[← HW.out];refine(KX.out _ (fR w0)).mono ?_;rintro e w1 ⟨rfl,hf⟩;have Z1:=h_ hf;clear hf;clear x0 x1 x2 x3 x4 x5 x6 x7 x8;obtain⟨x0,x1,x2,x3,x4,x5,x6,x7,x8⟩:=blk9 (HB.out.frm Z1.out id)))
 refine peelK (k':=3) fun K hK=>?_
 conv in hdC _=>whnf
 go_wp2_with (go_at_call 18;refine(KH.out _ Z2.out).mono ?_;rintro e w3 ⟨A,c,rfl,hs,hf⟩;have HV:=h_ hs.old;have Z3:Hid (Frm Nix w0 w3):=Z2.out.trans hf;clear hs hf;clear x0 x1 x2 x3 x4 x5 x6 x7 x8;obtain⟨x0,x1,x2,x3,x4,x5,x6,x7,x8⟩:=blk9 (HB.out.frm Z3.out id));refine peelK (k':=4) fun K hK=>?_
 conv in hdC _=>whnf
 go_wp2;obtain⟨gy,hgy⟩:∃ gy,w3.heap.size=gy:=⟨_,rfl⟩;obtain⟨w4,hw4⟩:∃ w4,w4=w3.alloc (.cells #[.int .i64 0,.slice none 0 0,.slice none 0 0,.slice none 0 0,.slice none 0 0,.int .i64 0,.int .i64 0,.int .i64 0,.int .i64 0] 30):=⟨_,rfl⟩;rw[← hw4];have B4:Hid (Blk w4 gy 30 #[.int .i64 0,.slice none 0 0,.slice none 0 0,.slice none 0 0,.slice none 0 0,.int .i64 0,.int .i64 0,.int .i64 0,.int .i64 0]):=by unfold Hid;rw[hw4,← hgy];exact Blk.new w3 _ _
 have hf4:Frm Nix w3 w4:=by rw[hw4];exact(fR w3).alloc _
 rw[hgy];have HGY:=h_ hgy;have Y4:=h_ hf4;clear hw4 hf4 hgy x0 x1 x2 x3 x4 x5 x6 x7 x8;refine peelK (k':=5) fun K hK=>?_
 conv in hdC _=>whnf
 go_wp2_with (go_at_call 8;refine(lives_any _).mono ?_;rintro e w5 ⟨rfl,hf⟩;have Y5:Hid (Frm Nix w3 w5):=Y4.out.trans hf;have B5:=h_ (B4.out.frm hf id);clear hf);refine peelK (k':=6) fun K hK=>?_
 conv in hdC _=>whnf
 go_wp2
 go_loopw [5,6,7] (fun kv _ _ wr=>∃ (k:Nat) (foy fey ity sey:Sl) (tsy:List (Sl×Itm)) (y:St),k≤n∧kv=.int .i64 k∧y=foldE st0 (l.take k)∧Blk wr gy 30 #[.int .i64 y.clock,.slice foy.1 y.fols.length foy.2,.slice fey.1 y.fees.length fey.2,.slice ity.1 y.itms.length ity.2,.slice sey.1 y.seas.length sey.2,.int .i64 y.tFol,.int .i64 y.tFee,.int .i64 y.tItm,.int .i64 y.tSea]∧StIn wr (fun k=>gy<k) foy fey ity sey tsy y∧Frm Nix w3 wr) (fun kv _ _ _=>n - (intOf kv).toNat)
 case atStart=>exact⟨0,(none,0),(none,0),(none,0),(none,0),[],st0,by omega,rfl,rfl,B5.out,StIn.zero _ _,Y5.out⟩
 case round=>
  obtain⟨k,foy,fey,ity,sey,tsy,y,hk,rfl,hx,hb,hs,hf⟩:=hrel;have HYk:=h_ hx;have HBy:=h_ hb;have HS:=h_ hs;have HF:=h_ hf;have HPy:Hid (StP y):=by rw[hx];exact foldE_ok _ st0_ok
  clear hx hb hs hf
  by_cases hlt:k<n
  ·have hkl:k<l.length:=by rw[HN.out];exact hlt
   have hft:=leads_at HLd.out hkl;rw[← HYk.out] at hft;obtain⟨b,off,hA,hgb,hbl,hcell⟩:=evs_cells HV.out HF.out hkl
   (try dsimp only at hA)
   subst hA;have HGb:Hid (b<gy):=by have:=hgb.2;rw[HGY.out] at this;exact this
   have HFT:=h_ (foldE_take (x:=st0) hkl);obtain⟨ev,hev⟩:∃ ev,l[k]=ev:=⟨_,rfl⟩;rw[hev] at hcell HFT hft
   have KA:Hid (∀ W,Frm Nix wr W→Calls Tryz.prog 12 #[stV foy fey ity sey y,.agg #[.int .i64 ev.kind,.int .i64 ev.a,.int .i64 ev.b,.int .i64 ev.n,.string ev.s,.string ev.t,.string ev.u]] W (ApOut W (fun k=>gy<k∧k<wr.heap.size) (applyS y ev).1 true)):=fun W hW=>by
    have:=rApply_any (HS.out.old.nix hW) HPy.out.small ev;rw[applyS_snd,hft] at this;exact this
   have HEV:Hid (∀ W,Frm Nix wr W→(W.cell? ⟨b,off+k * 7,none⟩=some (.int .i64 ev.kind)∧W.cell? ⟨b,off+k * 7+1,none⟩=some (.int .i64 ev.a)∧W.cell? ⟨b,off+k * 7+2,none⟩=some (.int .i64 ev.b)∧W.cell? ⟨b,off+k * 7+3,none⟩=some (.int .i64 ev.n)∧W.cell? ⟨b,off+k * 7+4,none⟩=some (.string ev.s)∧W.cell? ⟨b,off+k * 7+5,none⟩=some (.string ev.t)∧W.cell? ⟨b,off+k * 7+6,none⟩=some (.string ev.u))):=fun W hW=>hcell Nix W id hW
   obtain⟨z,hz⟩:∃ z,(applyS y ev).1=z:=⟨_,rfl⟩;rw[hz] at KA;have HZ:Hid (z=foldE st0 (l.take (k+1))):=by unfold Hid;rw[HFT.out,← HYk.out,hz]
   have hbB:=HBy.out.lt;clear hcell hev hz hft hgb;go_wp2;refine histR10 (bx:=gy) (b:=b) (off:=off) (k:=k) (x:=y) (y:=z) (ev:=ev) (bb:=true) (G:=fun k=>gy<k∧k<wr.heap.size) HBy.out HEV.out hlt (fun k h=>h.2) KA.out (fun _ _ _ _ _ h=>h) ?_;intro w8 g' foz fez itz sez tsz z27 z28 z29 z30 z31 z32 z33 z34 z35 hg' hf8 hb8 hs8;have hx8:=HBy.out.frm hf8 id;have HB8:=h_ hb8;have HX8:=h_ hx8;have HF8:=h_ hf8;have HG':=h_ hg'
   have HS8:Hid (StIn w8 (fun k=>gy<k) foz fez itz sez tsz z):=hs8.mono fun k hk=>by
    rcases hk with hk | hk
    ·exact hk.1
    ·omega
   clear hf8 hb8 hx8 hs8 hg';obtain⟨y0,y1,y2,y3,y4,y5,y6,y7,y8⟩:=blk9 HX8.out;obtain⟨z0,z1,z2,z3,z4,z5,z6,z7,z8⟩:=blk9 HB8.out;have g0:=HX8.out.frozen 0;have g1:=HX8.out.frozen 1;have g2:=HX8.out.frozen 2;have g3:=HX8.out.frozen 3;have g4:=HX8.out.frozen 4;have g5:=HX8.out.frozen 5;have g6:=HX8.out.frozen 6;have g7:=HX8.out.frozen 7;have g8:=HX8.out.frozen 8;go_wp2;obtain⟨w9,hw9⟩:∃ w9,w9=w8.setCells gy 0 [.int .i64 z.clock,.slice foz.1 z.fols.length foz.2,.slice fez.1 z.fees.length fez.2,.slice itz.1 z.itms.length itz.2,.slice sez.1 z.seas.length sez.2,.int .i64 z.tFol,.int .i64 z.tFee,.int .i64 z.tItm,.int .i64 z.tSea]:=⟨_,rfl⟩
   have hb9':Blk w9 gy 30 #[.int .i64 z.clock,.slice foz.1 z.fols.length foz.2,.slice fez.1 z.fees.length fez.2,.slice itz.1 z.itms.length itz.2,.slice sez.1 z.seas.length sez.2,.int .i64 z.tFol,.int .i64 z.tFee,.int .i64 z.tItm,.int .i64 z.tSea]:=by
    have:=Blk.putL [.int .i64 z.clock,.slice foz.1 z.fols.length foz.2,.slice fez.1 z.fees.length fez.2,.slice itz.1 z.itms.length itz.2,.slice sez.1 z.seas.length sez.2,.int .i64 z.tFol,.int .i64 z.tFee,.int .i64 z.tItm,.int .i64 z.tSea] 0 HX8.out;rw[putL9] at this;rw[hw9];exact this
   have fe_:Frm (fun k=>k=gy) w8 w9:=by rw[hw9];exact Frm.setCells _ 0 (Frm.refl _ _) (.inl rfl)
   simp only[World.setCells] at hw9;rw[← hw9];have HS9:Hid (StIn w9 (fun k=>gy<k) foz fez itz sez tsz z):=HS8.out.frm fe_ fun k hk e=>by omega
   have HB9:=h_ hb9';have HFw:Hid (Frm Nix w3 w9):=(HF.out.trans HF8.out).next fe_ fun k hk=>.inr (by have:=HGY.out;omega)
   clear y0 y1 y2 y3 y4 y5 y6 y7 y8 z0 z1 z2 z3 z4 z5 z6 z7 z8 g0 g1 g2 g3 g4 g5 g6 g7 g8 hb9' fe_ hw9 HB8 HX8 HF8 HS8 KA HEV;go_roundw
   case rel=>exact⟨k+1,foz,fez,itz,sez,tsz,z,by omega,by go_num,HZ.out,HB9.out,HS9.out,HFw.out⟩
   case measure=>simp[intOf];omega
  ·obtain rfl:k=n:=by omega
   have hyx:y=x:=by rw[HYk.out,List.take_of_length_le (by rw[HN.out];exact Nat.le_refl _)];exact HLd.out.fold
   subst hyx
   have KS:Hid (∀ W,Frm Nix wr W→Calls Tryz.prog 9 #[stV fo fe it se y,.agg #[.int .i64 y.clock,.slice foy.1 y.fols.length foy.2,.slice fey.1 y.fees.length fey.2,.slice ity.1 y.itms.length ity.2,.slice sey.1 y.seas.length sey.2,.int .i64 y.tFol,.int .i64 y.tFee,.int .i64 y.tItm,.int .i64 y.tSea]] W fun e w'=>e=.returned (.bool true)∧Frm Nix W w'):=fun W hW=>by
    have:=rStSame_any ((HX.out.nix (Z3.out.trans HF.out)).nix hW) (HS.out.nix hW) HPy.out.small HPy.out.small;rw[decide_eq_true rfl] at this;exact this
   obtain⟨x0,x1,x2,x3,x4,x5,x6,x7,x8⟩:=blk9 (HB.out.frm (Z3.out.trans HF.out) id);obtain⟨y0,y1,y2,y3,y4,y5,y6,y7,y8⟩:=blk9 HBy.out;go_wp2;simp only[peel,bodyOf,Tryz.f4];go_wp2_with (go_at_call 9;refine(KS.out _ (fR _)).mono ?_;rintro e wa ⟨rfl,hf⟩;have ZA:=h_ hf;clear hf);go_ret;exact⟨rfl,HF0.out.trans ((Z3.out.trans HF.out).trans ZA.out)⟩
theorem hist_walk{w:World}{G:Nat→Prop}{fo fe it se:Sl}{ts:List (Sl×Itm)}{x:St}(h:StIn w G fo fe it se ts x)(hn:StNums x):Calls Tryz.prog 4 #[stV fo fe it se x] w fun e w'=>e=.returned (.bool true)∧Frm Nix w w':=by
 cases h1:largeS x with
 | true=>exact hist_l h hn h1
 | false=>
   cases h2:stOk x with
   | true=>exact hist_yes h hn h1 h2
   | false=>exact hist_no h hn h1 h2
end Go.Proofs.YtlafbakoefcifaaGreat
