/-
  Contracts: the document's Check: items.
-/
import Derived.Test.YtlafbakoefcifaaGreatGa65
import Derived.Deep.RegionHeld3
set_option linter.unusedVariables false
set_option linter.unusedSimpArgs false
set_option maxRecDepth 100000
set_option maxHeartbeats 16000000
namespace Go.Proofs.YtlafbakoefcifaaGreat
open Go.RowKit Go.Lib
theorem bytesLess_lt_:∀ a b:List UInt8,Op.bytesLess a b=decide (a<b)
 | [],[]=>by simp[Op.bytesLess]
 | [],_::_=>by simp[Op.bytesLess]
 | _::_,[]=>by simp[Op.bytesLess]
 | a::la,b::lb=>by
   rw[Bool.eq_iff_iff];simp only[Op.bytesLess,bytesLess_lt_ la lb,Bool.or_eq_true,Bool.and_eq_true,beq_iff_eq,decide_eq_true_eq,List.cons_lt_cons_iff]
theorem blt(a b:ByteArray):Op.bytesLess a.toList b.toList=decide (ltB a b):=by
 rw[bytesLess_lt_,ByteArray.toList_eq,ByteArray.toList_eq];rfl
theorem rItems_any{w:World}{fo fe it se:Sl}{ts:List (Sl×Itm)}{x:St}{G:Nat→Prop}(hS:StIn w G fo fe it se ts x)(hsm:StSmall x):
  Calls Tryz.prog 62 #[stV fo fe it se x] w fun e w'=>e=.returned (.bool (itmsOk x))∧Frm Nix w w':=by
 obtain⟨w0,hw0,hf0,hb0⟩:=box_st w fo fe it se x;have hcap:=hsm.itms;obtain⟨x0,x1,x2,x3,x4,x5,x6,x7,x8⟩:=blk9 hb0;have HS:=h_ (hS.nix hf0);have HSm:=h_ hsm;have HB:=h_ hb0;have HF0:=h_ hf0;have HW:=h_ hw0;obtain⟨P,hP⟩:∃ P:List Itm→Itm→Bool,P=(fun (pre:List Itm) (t:Itm)=>evOk ⟨7,t.id,t.feed,t.date,t.guid,t.title,t.link⟩&&decide (t.id≤x.tItm)&&risesI Itm.id pre t&&isI Fee.id t.feed x.fees&&decide (t.tags.length≤8)&&tagsRise t.tags&&!(pre.any fun g=>g.feed=t.feed∧g.guid=t.guid)):=⟨_,rfl⟩;have HP:Hid (∀ pre f,P pre f=((fun (pre:List Itm) (t:Itm)=>evOk ⟨7,t.id,t.feed,t.date,t.guid,t.title,t.link⟩&&decide (t.id≤x.tItm)&&risesI Itm.id pre t&&isI Fee.id t.feed x.fees&&decide (t.tags.length≤8)&&tagsRise t.tags&&!(pre.any fun g=>g.feed=t.feed∧g.guid=t.guid)) pre f)):=by rw[hP];exact fun _ _=>rfl
 have HNo0:Hid (allG P [] x.itms=false→itmsOk x=false):=fun h=>by unfold itmsOk;rw[← hP,h];rfl
 have HYes0:Hid (allG P [] x.itms=true→itmsOk x=(decide (x.itms.length≤1024)&&decide (0≤x.tItm∧x.tItm≤1048576)&&decide (x.tItm=0∨0<x.tFee))):=fun h=>by unfold itmsOk;rw[← hP,h];simp
 clear hS hsm hw0 hf0 hb0 hP;unfold stV;obtain⟨A,c⟩:=it;dsimp only at x1 x2 x3 x4 HS HB HW ⊢;go_enter Tryz.func62,Tryz.ntmps62;show Code.wp Tryz.prog (peel 0 (bodyOf Tryz.f62)) _ _ _
 refine peelK (k':=1) fun K hK=>?_
 conv in hdC _=>whnf
 go_wp2;rw[← HW.out];refine peelK (k':=2) fun K hK=>?_
 conv in hdC _=>whnf
 go_wp2
 go_loopw [3] (fun kv wr=>∃ k:Nat,k≤x.itms.length∧kv=.int .i64 k∧(∀ (j:Nat) (hj:j<x.itms.length),j<k→P (x.itms.take j) (x.itms[j]'hj)=true)∧Frm Nix w0 wr) (fun kv _=>x.itms.length - (intOf kv).toNat)
 case atStart=>exact⟨0,by omega,rfl,fun j hj h=>absurd h (by omega),Frm.refl _ _⟩
 case round=>
  obtain⟨k,hk,rfl,ht,hf⟩:=hrel;have HT:=h_ ht;have HF:=h_ hf;clear ht hf x0 x1 x2 x3 x4 x5 x6 x7 x8;obtain⟨x0,x1,x2,x3,x4,x5,x6,x7,x8⟩:=blk9 (HB.out.frm HF.out id)
  by_cases hlt:k<x.itms.length
  ·obtain⟨hkt,het⟩:=itms_at HS.out hlt
   obtain⟨b,off,hA,-,hbl,hcell⟩:=(HS.out.itms.row.nix HF.out).at_ itmC_len (by decide) (by omega);dsimp only at hA;subst hA;have HNo:=h_ (fun h=>HNo0.out (allG_no (p:=P) hlt h))
   have HStep:Hid (P (x.itms.take k) x.itms[k]=true→∀ (j:Nat) (hj:j<x.itms.length),j<k+1→P (x.itms.take j) (x.itms[j]'hj)=true):=fun h j hj hjk=>by
    by_cases e:j=k
    ·subst e;exact h
    ·exact HT.out j hj (by omega)
   have HCell:Hid (∀ (i:Nat) (hi:i<x.itms.length),∃ p:Sl×Itm,p.2=x.itms[i]∧∀ W,Frm Nix wr W→∀ (j:Nat) (u:Value),(itmC p)[j]? =some u→W.cell? ⟨b,off+i * 9+j,none⟩=some u):=fun i hi=>by
    obtain⟨hit,hie⟩:=itms_at HS.out hi;exact⟨_,hie,fun W hW j u hu=>(hW.cell (p:=⟨b,off+i * 9+j,none⟩) hbl id).trans (hcell i hit j u hu)⟩
   have htg:=HS.out.itms.tags _ (List.getElem_mem hkt);have hc:=hcell k hkt;have hs8:=HSm.out.tags _ (List.getElem_mem hlt);obtain⟨tp,htp⟩:∃ tp,ts[k]=tp:=⟨_,rfl⟩;rw[htp] at hc het htg;obtain⟨tv,q⟩:=tp;dsimp only at het htg;rw[← het] at HNo HStep hs8;obtain⟨p0,p1,p2,p3,p4,p5,p6,p7,p8⟩:=itmcs (w:=wr) (b:=b) (off:=off+k * 9) (p:=(tv,q)) hc;dsimp only at p0 p1 p2 p3 p4 p5 p6 p7 p8;have HTg:=h_ htg;clear hc htp het htg;have HPq:=h_ (HP.out (x.itms.take k) q);obtain⟨w1,hw1⟩:∃ w1,w1=wr.alloc (.cells #[.int .i64 q.id,.int .i64 q.feed,.int .i64 q.date,.string q.guid,.string q.title,.string q.link,.bool q.read,.bool q.star,.slice tv.1 q.tags.length tv.2] 54):=⟨_,rfl⟩;have f1:Frm Nix wr w1:=by rw[hw1];exact(fR wr).alloc _
   have hb4:Blk w1 wr.heap.size 54 #[.int .i64 q.id,.int .i64 q.feed,.int .i64 q.date,.string q.guid,.string q.title,.string q.link,.bool q.read,.bool q.star,.slice tv.1 q.tags.length tv.2]:=by rw[hw1];exact Blk.new _ _ _
   have HW1:=h_ hw1;have HF1:=h_ f1;have HB4:=h_ hb4;have hbx:=(HB.out.frm HF.out id).frm f1 id;have z:=fun y:FW (Frm Nix w1)=>blk9 (hbx.frm y.h id)
   have z0:=fun y=>(z y).1
   have z1:=fun y=>(z y).2.1
   have z2:=fun y=>(z y).2.2.1
   have z3:=fun y=>(z y).2.2.2.1
   have z4:=fun y=>(z y).2.2.2.2.1
   have z5:=fun y=>(z y).2.2.2.2.2.1
   have z6:=fun y=>(z y).2.2.2.2.2.2.1
   have z7:=fun y=>(z y).2.2.2.2.2.2.2.1
   have z8:=fun y=>(z y).2.2.2.2.2.2.2.2
   have HBx:=h_ hbx;have r0:=fun y:FW (Frm Nix w1)=>(show y.w.cell? ⟨wr.heap.size,0,none⟩=some (.int .i64 q.id) from (hb4.frm y.h id).cell 0)
   have r1:=fun y:FW (Frm Nix w1)=>(show y.w.cell? ⟨wr.heap.size,1,none⟩=some (.int .i64 q.feed) from (hb4.frm y.h id).cell 1)
   have r2:=fun y:FW (Frm Nix w1)=>(show y.w.cell? ⟨wr.heap.size,2,none⟩=some (.int .i64 q.date) from (hb4.frm y.h id).cell 2)
   have r3:=fun y:FW (Frm Nix w1)=>(show y.w.cell? ⟨wr.heap.size,3,none⟩=some (.string q.guid) from (hb4.frm y.h id).cell 3)
   have r4:=fun y:FW (Frm Nix w1)=>(show y.w.cell? ⟨wr.heap.size,4,none⟩=some (.string q.title) from (hb4.frm y.h id).cell 4)
   have r5:=fun y:FW (Frm Nix w1)=>(show y.w.cell? ⟨wr.heap.size,5,none⟩=some (.string q.link) from (hb4.frm y.h id).cell 5)
   have r6:=fun y:FW (Frm Nix w1)=>(show y.w.cell? ⟨wr.heap.size,6,none⟩=some (.bool q.read) from (hb4.frm y.h id).cell 6)
   have r7:=fun y:FW (Frm Nix w1)=>(show y.w.cell? ⟨wr.heap.size,7,none⟩=some (.bool q.star) from (hb4.frm y.h id).cell 7)
   have r8:=fun y:FW (Frm Nix w1)=>(show y.w.cell? ⟨wr.heap.size,8,none⟩=some (.slice tv.1 q.tags.length tv.2) from (hb4.frm y.h id).cell 8)
   have KC:=fun y:FW (Frm Nix w1)=>(show Calls Tryz.prog 59 #[.agg #[.int .i64 7,.int .i64 q.id,.int .i64 q.feed,.int .i64 q.date,.string q.guid,.string q.title,.string q.link]] y.w fun e w'=>e=.returned (.bool (evOk ⟨7,q.id,q.feed,q.date,q.guid,q.title,q.link⟩))∧Frm Nix y.w w' from rCheck_any ⟨7,q.id,q.feed,q.date,q.guid,q.title,q.link⟩ y.w)
   have KD:=fun y:FW (Frm Nix w1)=>(show Calls Tryz.prog 27 #[.agg #[.int .i64 x.clock,.slice fo.1 x.fols.length fo.2,.slice fe.1 x.fees.length fe.2,.slice (some ⟨b,off,none⟩) x.itms.length c,.slice se.1 x.seas.length se.2,.int .i64 x.tFol,.int .i64 x.tFee,.int .i64 x.tItm,.int .i64 x.tSea],.int .i64 q.feed] y.w fun e w'=>e=.returned (.int .i64 (posR Fee.id q.feed x.fees))∧Frm Nix y.w w' from rFeed_any ((HS.out.nix (HF.out.trans f1)).nix y.h) HSm.out q.feed)
   clear z hbx hb4 f1 hw1
   cases h0:evOk ⟨7,q.id,q.feed,q.date,q.guid,q.title,q.link⟩ with
   | false=>
     rw[h0] at KC;go_wp2_with fail;rw[← HW1.out];refine wp_region_class (Frm Nix w1) ((fR w1).drew) (by kernel_rfl) (by kernel_rfl) ?_
     repeat (go_big_quiet_step (first
      | (rename_i y;go_at_call 59;refine y.call (KC y) ?_;exact fun w' hf=>y.h.trans hf)
      | (rename_i y;go_at_call 27;refine y.call (KD y) ?_;exact fun w' hf=>y.h.trans hf)
      | fail))
     refine wpQuiet_nil ?_;rintro w5 ⟨⟨_,hfw5⟩,rfl⟩;go_wp2;go_ret
     exact⟨ret_bool (HNo.out (by rw[HPq.out,h0];simp)).symm,HF0.out.trans (HF.out.trans (HF1.out.trans hfw5))⟩
   | true=>
     rw[h0] at KC
     by_cases h1:x.tItm<q.id
     ·have k1:decide (x.tItm<q.id)=true:=decide_eq_true h1
      go_wp2_with fail;rw[← HW1.out];refine wp_region_class (Frm Nix w1) ((fR w1).drew) (by kernel_rfl) (by kernel_rfl) ?_
      repeat (go_big_quiet_step (first
       | (rename_i y;go_at_call 59;refine y.call (KC y) ?_;exact fun w' hf=>y.h.trans hf)
       | (rename_i y;go_at_call 27;refine y.call (KD y) ?_;exact fun w' hf=>y.h.trans hf)
       | fail))
      refine wpQuiet_nil ?_;rintro w5 ⟨⟨_,hfw5⟩,rfl⟩;go_wp2;go_ret;exact⟨ret_bool (HNo.out (by rw[HPq.out,decide_eq_false (show ¬q.id≤x.tItm by omega)];simp)).symm,HF0.out.trans (HF.out.trans (HF1.out.trans hfw5))⟩
     have k1:decide (x.tItm<q.id)=false:=decide_eq_false h1;have hle:q.id≤x.tItm:=by omega
     by_cases hk0:0<k
     case neg=>
      have kA:decide ((0:Int)<(k:Int))=false:=by first | (simp;done) | (simp;omega)
      have kB:decide (0<k)=false:=by first | (simp;done) | (simp;omega)
      have hr:risesI Itm.id (x.itms.take k) q=true:=by rw[show k=0 by omega];exact rises_zero
      cases h4:isI Fee.id q.feed x.fees with
      | false=>
        rw[posR_end h4] at KD;go_wp2_with fail;rw[← HW1.out];refine wp_region_class (Frm Nix w1) ((fR w1).drew) (by kernel_rfl) (by kernel_rfl) ?_
        repeat (go_big_quiet_step (first
         | (rename_i y;go_at_call 59;refine y.call (KC y) ?_;exact fun w' hf=>y.h.trans hf)
         | (rename_i y;go_at_call 27;refine y.call (KD y) ?_;exact fun w' hf=>y.h.trans hf)
         | fail))
        refine wpQuiet_nil ?_;rintro w5 ⟨⟨_,hfw5⟩,rfl⟩;go_wp2;go_ret
        exact⟨ret_bool (HNo.out (by rw[HPq.out,h4];simp)).symm,HF0.out.trans (HF.out.trans (HF1.out.trans hfw5))⟩
      | true=>
        obtain⟨pp,-,hpp,-⟩:=posR_at h4;rw[hpp] at KD;have k5:decide ((pp:Int)<0)=false:=by simp
        by_cases h5:8<q.tags.length
        ·have k6:decide ((8:Int)<(q.tags.length:Int))=true:=by first | (simp;done) | (simp;omega)
         have k7:decide (8<q.tags.length)=true:=by first | (simp;done) | (simp;omega)
         go_wp2_with fail;rw[← HW1.out];refine wp_region_class (Frm Nix w1) ((fR w1).drew) (by kernel_rfl) (by kernel_rfl) ?_
         repeat (go_big_quiet_step (first
          | (rename_i y;go_at_call 59;refine y.call (KC y) ?_;exact fun w' hf=>y.h.trans hf)
          | (rename_i y;go_at_call 27;refine y.call (KD y) ?_;exact fun w' hf=>y.h.trans hf)
          | fail))
         refine wpQuiet_nil ?_;rintro w5 ⟨⟨_,hfw5⟩,rfl⟩;go_wp2;go_ret;exact⟨ret_bool (HNo.out (by rw[HPq.out,decide_eq_false (show ¬q.tags.length≤8 by omega)];simp)).symm,HF0.out.trans (HF.out.trans (HF1.out.trans hfw5))⟩
        have k6:decide ((8:Int)<(q.tags.length:Int))=false:=by first | (simp;done) | (simp;omega)
        have k7:decide (8<q.tags.length)=false:=by first | (simp;done) | (simp;omega)
        have h8:q.tags.length≤8:=by omega
        go_wp2_with fail;rw[← HW1.out];refine wp_region_class (Frm Nix w1) ((fR w1).drew) (by kernel_rfl) (by kernel_rfl) ?_
        repeat (go_big_quiet_step (first
         | (rename_i y;go_at_call 59;refine y.call (KC y) ?_;exact fun w' hf=>y.h.trans hf)
         | (rename_i y;go_at_call 27;refine y.call (KD y) ?_;exact fun w' hf=>y.h.trans hf)
         | fail))
        refine wpQuiet_nil ?_;rintro w5 ⟨⟨_,hfw5⟩,rfl⟩;have HF5:=h_ hfw5;clear hfw5;have HTg0:=h_ ((HTg.out.nix HF.out).nix HF1.out);obtain⟨tA,tc⟩:=tv;dsimp only at r8;have HTNo:Hid (tagsRise q.tags=false→itmsOk x=false):=fun h=>HNo.out (by rw[HPq.out,h];simp)
        have hcapt:=hs8;go_wp2
        go_loopw [5] (fun jv wv=>∃ j:Nat,j≤q.tags.length∧jv=.int .i64 j∧(∀ (i:Nat) (hi:i<q.tags.length),i<j→tagOk q.tags[i]=true∧(i=0∨∃ h0:0<i,ltB (q.tags[i - 1]'(by omega)) q.tags[i]))∧Frm Nix w1 wv) (fun jv _=>q.tags.length - (intOf jv).toNat)
        case atStart=>exact⟨0,by omega,rfl,fun i hi h=>absurd h (by omega),HF5.out⟩
        case round=>
         obtain⟨t,htl,rfl,ht2,hf2⟩:=hrel;have HTT:=h_ ht2;have HF2:=h_ hf2;clear ht2 hf2;have c8:=r8 ⟨wr,HF2.out⟩;have c0:=r0 ⟨wr,HF2.out⟩;dsimp only at c8 c0
         by_cases htk:t<q.tags.length
         ·have htg2:=HTg0.out.nix HF2.out
          rw[str_flat] at htg2;obtain⟨b3,off3,hA3,-,hbl3,hcell3⟩:=htg2.at_ (f:=fun i=>[Value.string i]) (fun _=>rfl) (by decide) (by omega);dsimp only at hA3;subst hA3
          have HTC:Hid (∀ W,Frm Nix wr W→∀ i (hi:i<q.tags.length),W.cell? ⟨b3,off3+i,none⟩=some (.string q.tags[i])):=fun W hW i hi=>by
           have h0:=hcell3 i hi 0 _ rfl;rw[Nat.mul_one,Nat.add_zero] at h0;exact(hW.cell (p:=⟨b3,off3+i,none⟩) hbl3 id).trans h0
          have HTS:Hid (tagOk q.tags[t]=true∧(t=0∨∃ h0:0<t,ltB (q.tags[t - 1]'(by omega)) q.tags[t])→∀ (i:Nat) (hi:i<q.tags.length),i<t+1→tagOk q.tags[i]=true∧(i=0∨∃ h0:0<i,ltB (q.tags[i - 1]'(by omega)) q.tags[i])):=fun h i hi hit=>by
           by_cases e:i=t
           ·subst e;exact h
           ·exact HTT.out i hi (by omega)
          have HTF:Hid (¬(tagOk q.tags[t]=true∧(t=0∨∃ h0:0<t,ltB (q.tags[t - 1]'(by omega)) q.tags[t]))→itmsOk x=false):=fun h=>HTNo.out (Bool.eq_false_iff.2 fun hr=>h ((tagsRise_all q.tags).1 hr t htk))
          have s1:=fun y:FW (Frm Nix wr)=>HTC.out y.w y.h t htk
          have u8:=fun y:FW (Frm Nix wr)=>r8 ⟨y.w,HF2.out.trans y.h⟩
          have u0:=fun y:FW (Frm Nix wr)=>r0 ⟨y.w,HF2.out.trans y.h⟩
          dsimp only at u8 u0;obtain⟨tq,htq⟩:∃ tq,q.tags[t]=tq:=⟨_,rfl⟩;rw[htq] at s1 HTS HTF;have KT:=fun y:FW (Frm Nix wr)=>(show Calls Tryz.prog 99 #[.string tq] y.w fun e w'=>e=.returned (.bool (tagOk tq))∧Frm Nix y.w w' from rTag_any tq y.w)
          clear htg2 hcell3
          cases hto:tagOk tq with
          | false=>
            rw[hto] at KT;have HE:=h_ (HTF.out (fun e=>by rw[hto] at e;cases e.1));go_wp2_with fail;refine wp_region_class (Frm Nix wr) ((fR wr).drew) (by kernel_rfl) (by kernel_rfl) ?_
            repeat (go_big_quiet_step (first
             | (rename_i y;go_at_call 99;refine y.call (KT y) ?_;exact fun w' hf=>y.h.trans hf)
             | fail))
            refine wpQuiet_nil ?_;rintro w7 ⟨⟨_,hfw7⟩,rfl⟩;go_wp2;go_ret
            exact⟨ret_bool HE.out.symm,HF0.out.trans (HF.out.trans (HF1.out.trans (HF2.out.trans hfw7)))⟩
          | true=>
            rw[hto] at KT
            by_cases ht0:0<t
            case neg=>
             have kC:decide ((0:Int)<(t:Int))=false:=by first | (simp;done) | (simp;omega)
             have kD:decide (0<t)=false:=by first | (simp;done) | (simp;omega)
             have HE:=h_ (HTS.out ⟨hto,.inl (by omega)⟩);go_wp2_with fail;refine wp_region_class (Frm Nix wr) ((fR wr).drew) (by kernel_rfl) (by kernel_rfl) ?_
             repeat (go_big_quiet_step (first
              | (rename_i y;go_at_call 99;refine y.call (KT y) ?_;exact fun w' hf=>y.h.trans hf)
              | fail))
             refine wpQuiet_nil ?_;rintro w7 ⟨⟨_,hfw7⟩,rfl⟩;go_wp2;go_roundw
             case rel=>exact⟨t+1,by omega,by go_num,HE.out,HF2.out.trans hfw7⟩
             case measure=>simp[intOf];omega
            obtain⟨ti,rfl⟩:∃ ti,t=ti+1:=⟨t - 1,by omega⟩;have kC:decide ((0:Int)<((ti+1:Nat):Int))=true:=by first | (simp;done) | (simp;omega)
            have kD:decide ((0:Int)<(ti:Int)+1)=true:=by first | (simp;done) | (simp;omega)
            have s0:=fun y:FW (Frm Nix wr)=>HTC.out y.w y.h ti (by omega)
            have htil:ti<q.tags.length:=by omega
            have HTS2:Hid (ltB (q.tags[ti]'htil) tq→_):=fun h=>HTS.out ⟨hto,.inr ⟨by omega,h⟩⟩
            have HTF2:Hid (¬ltB (q.tags[ti]'htil) tq→itmsOk x=false):=fun h=>HTF.out fun e=>by
             rcases e.2 with e | ⟨_,e⟩
             ·omega
             ·exact h e
            obtain⟨tp0,htp0⟩:∃ tp0,q.tags[ti]'htil=tp0:=⟨_,rfl⟩;rw[htp0] at s0 HTS2 HTF2;have hbl:=blt tp0 tq
            by_cases hlt2:ltB tp0 tq
            ·rw[decide_eq_true hlt2] at hbl
             have HE:=h_ (HTS2.out hlt2);go_wp2_with fail;refine wp_region_class (Frm Nix wr) ((fR wr).drew) (by kernel_rfl) (by kernel_rfl) ?_
             repeat (go_big_quiet_step (first
              | (rename_i y;go_at_call 99;refine y.call (KT y) ?_;exact fun w' hf=>y.h.trans hf)
              | fail))
             refine wpQuiet_nil ?_;rintro w7 ⟨⟨_,hfw7⟩,rfl⟩;go_wp2;go_roundw
             case rel=>exact⟨ti+1+1,by omega,by go_num,HE.out,HF2.out.trans hfw7⟩
             case measure=>simp[intOf];omega
            ·rw[decide_eq_false hlt2] at hbl
             have HE:=h_ (HTF2.out hlt2);go_wp2_with fail;refine wp_region_class (Frm Nix wr) ((fR wr).drew) (by kernel_rfl) (by kernel_rfl) ?_
             repeat (go_big_quiet_step (first
              | (rename_i y;go_at_call 99;refine y.call (KT y) ?_;exact fun w' hf=>y.h.trans hf)
              | fail))
             refine wpQuiet_nil ?_;rintro w7 ⟨⟨_,hfw7⟩,rfl⟩;go_wp2;go_ret;exact⟨ret_bool HE.out.symm,HF0.out.trans (HF.out.trans (HF1.out.trans (HF2.out.trans hfw7)))⟩
         ·have htt:t=q.tags.length:=by omega
          have HTR:Hid (tagsRise q.tags=true):=(tagsRise_all q.tags).2 fun j hj=>HTT.out j hj (by omega)
          have HFt:=HF2;clear HF2;go_wp2
          go_loopw [6] (fun jv wv=>∃ j:Nat,j≤k∧jv=.int .i64 j∧(x.itms.take j).any (fun g=>decide (g.feed=q.feed∧g.guid=q.guid))=false∧Frm Nix w1 wv) (fun jv _=>k - (intOf jv).toNat)
          case atStart=>exact⟨0,by omega,rfl,by simp,HFt.out⟩
          case round=>
           obtain⟨j,hj,rfl,ht2,hf2⟩:=hrel;have HT2:=h_ ht2;have HF2:=h_ hf2;clear ht2 hf2
           by_cases hjk:j<k
           ·exfalso
            omega
           ·obtain rfl:j=k:=by omega
            have HE:=HT2;go_wp2;go_roundw
            case rel=>exact⟨j+1,by omega,by go_num,HStep.out (by rw[HPq.out,h0,hr,decide_eq_true hle,h4,decide_eq_true h8,HTR.out,HE.out];rfl),HF.out.trans (HF1.out.trans HF2.out)⟩
            case measure=>simp[intOf];omega
     obtain⟨i,rfl⟩:∃ i,k=i+1:=⟨k - 1,by omega⟩;have kA:decide ((0:Int)<((i+1:Nat):Int))=true:=by first | (simp;done) | (simp;omega)
     have kA2:decide ((0:Int)<(i:Int)+1)=true:=by first | (simp;done) | (simp;omega)
     have hil:i<x.itms.length:=by omega
     have hr0:=rises_at (g:=Itm.id) (a:=q) (l:=x.itms) (k:=i) (by omega);obtain⟨pv,hpe,hpc⟩:=HCell.out i hil;have zp:=fun y:FW (Frm Nix w1)=>hpc y.w (HF1.out.trans y.h) 0 _ rfl
     rw[← hpe] at hr0;obtain⟨pw,pr⟩:=pv;dsimp only at zp hr0;rw[Nat.add_zero] at zp;clear hpe hpc
     by_cases h2:q.id≤pr.id
     ·have k2:decide (q.id≤pr.id)=true:=decide_eq_true h2
      have hr:risesI Itm.id (x.itms.take (i+1)) q=false:=by rw[hr0];exact decide_eq_false (by omega)
      go_wp2_with fail;rw[← HW1.out];refine wp_region_class (Frm Nix w1) ((fR w1).drew) (by kernel_rfl) (by kernel_rfl) ?_
      repeat (go_big_quiet_step (first
       | (rename_i y;go_at_call 59;refine y.call (KC y) ?_;exact fun w' hf=>y.h.trans hf)
       | (rename_i y;go_at_call 27;refine y.call (KD y) ?_;exact fun w' hf=>y.h.trans hf)
       | fail))
      refine wpQuiet_nil ?_;rintro w5 ⟨⟨_,hfw5⟩,rfl⟩;go_wp2;go_ret;exact⟨ret_bool (HNo.out (by rw[HPq.out,hr];simp)).symm,HF0.out.trans (HF.out.trans (HF1.out.trans hfw5))⟩
     have k2:decide (q.id≤pr.id)=false:=decide_eq_false h2;have hr:risesI Itm.id (x.itms.take (i+1)) q=true:=by rw[hr0];exact decide_eq_true (by omega)
     cases h4:isI Fee.id q.feed x.fees with
     | false=>
       rw[posR_end h4] at KD;go_wp2_with fail;rw[← HW1.out];refine wp_region_class (Frm Nix w1) ((fR w1).drew) (by kernel_rfl) (by kernel_rfl) ?_
       repeat (go_big_quiet_step (first
        | (rename_i y;go_at_call 59;refine y.call (KC y) ?_;exact fun w' hf=>y.h.trans hf)
        | (rename_i y;go_at_call 27;refine y.call (KD y) ?_;exact fun w' hf=>y.h.trans hf)
        | fail))
       refine wpQuiet_nil ?_;rintro w5 ⟨⟨_,hfw5⟩,rfl⟩;go_wp2;go_ret
       exact⟨ret_bool (HNo.out (by rw[HPq.out,h4];simp)).symm,HF0.out.trans (HF.out.trans (HF1.out.trans hfw5))⟩
     | true=>
       obtain⟨pp,-,hpp,-⟩:=posR_at h4;rw[hpp] at KD;have k5:decide ((pp:Int)<0)=false:=by simp
       by_cases h5:8<q.tags.length
       ·have k6:decide ((8:Int)<(q.tags.length:Int))=true:=by first | (simp;done) | (simp;omega)
        have k7:decide (8<q.tags.length)=true:=by first | (simp;done) | (simp;omega)
        go_wp2_with fail;rw[← HW1.out];refine wp_region_class (Frm Nix w1) ((fR w1).drew) (by kernel_rfl) (by kernel_rfl) ?_
        repeat (go_big_quiet_step (first
         | (rename_i y;go_at_call 59;refine y.call (KC y) ?_;exact fun w' hf=>y.h.trans hf)
         | (rename_i y;go_at_call 27;refine y.call (KD y) ?_;exact fun w' hf=>y.h.trans hf)
         | fail))
        refine wpQuiet_nil ?_;rintro w5 ⟨⟨_,hfw5⟩,rfl⟩;go_wp2;go_ret;exact⟨ret_bool (HNo.out (by rw[HPq.out,decide_eq_false (show ¬q.tags.length≤8 by omega)];simp)).symm,HF0.out.trans (HF.out.trans (HF1.out.trans hfw5))⟩
       have k6:decide ((8:Int)<(q.tags.length:Int))=false:=by first | (simp;done) | (simp;omega)
       have k7:decide (8<q.tags.length)=false:=by first | (simp;done) | (simp;omega)
       have h8:q.tags.length≤8:=by omega
       go_wp2_with fail;rw[← HW1.out];refine wp_region_class (Frm Nix w1) ((fR w1).drew) (by kernel_rfl) (by kernel_rfl) ?_
       repeat (go_big_quiet_step (first
        | (rename_i y;go_at_call 59;refine y.call (KC y) ?_;exact fun w' hf=>y.h.trans hf)
        | (rename_i y;go_at_call 27;refine y.call (KD y) ?_;exact fun w' hf=>y.h.trans hf)
        | fail))
       refine wpQuiet_nil ?_;rintro w5 ⟨⟨_,hfw5⟩,rfl⟩;have HF5:=h_ hfw5;clear hfw5;have HTg0:=h_ ((HTg.out.nix HF.out).nix HF1.out);obtain⟨tA,tc⟩:=tv;dsimp only at r8;have HTNo:Hid (tagsRise q.tags=false→itmsOk x=false):=fun h=>HNo.out (by rw[HPq.out,h];simp)
       have hcapt:=hs8;go_wp2
       go_loopw [5] (fun jv wv=>∃ j:Nat,j≤q.tags.length∧jv=.int .i64 j∧(∀ (i:Nat) (hi:i<q.tags.length),i<j→tagOk q.tags[i]=true∧(i=0∨∃ h0:0<i,ltB (q.tags[i - 1]'(by omega)) q.tags[i]))∧Frm Nix w1 wv) (fun jv _=>q.tags.length - (intOf jv).toNat)
       case atStart=>exact⟨0,by omega,rfl,fun i hi h=>absurd h (by omega),HF5.out⟩
       case round=>
        obtain⟨t,htl,rfl,ht2,hf2⟩:=hrel;have HTT:=h_ ht2;have HF2:=h_ hf2;clear ht2 hf2;have c8:=r8 ⟨wr,HF2.out⟩;have c0:=r0 ⟨wr,HF2.out⟩;dsimp only at c8 c0
        by_cases htk:t<q.tags.length
        ·have htg2:=HTg0.out.nix HF2.out
         rw[str_flat] at htg2;obtain⟨b3,off3,hA3,-,hbl3,hcell3⟩:=htg2.at_ (f:=fun i=>[Value.string i]) (fun _=>rfl) (by decide) (by omega);dsimp only at hA3;subst hA3
         have HTC:Hid (∀ W,Frm Nix wr W→∀ i (hi:i<q.tags.length),W.cell? ⟨b3,off3+i,none⟩=some (.string q.tags[i])):=fun W hW i hi=>by
          have h0:=hcell3 i hi 0 _ rfl;rw[Nat.mul_one,Nat.add_zero] at h0;exact(hW.cell (p:=⟨b3,off3+i,none⟩) hbl3 id).trans h0
         have HTS:Hid (tagOk q.tags[t]=true∧(t=0∨∃ h0:0<t,ltB (q.tags[t - 1]'(by omega)) q.tags[t])→∀ (i:Nat) (hi:i<q.tags.length),i<t+1→tagOk q.tags[i]=true∧(i=0∨∃ h0:0<i,ltB (q.tags[i - 1]'(by omega)) q.tags[i])):=fun h i hi hit=>by
          by_cases e:i=t
          ·subst e;exact h
          ·exact HTT.out i hi (by omega)
         have HTF:Hid (¬(tagOk q.tags[t]=true∧(t=0∨∃ h0:0<t,ltB (q.tags[t - 1]'(by omega)) q.tags[t]))→itmsOk x=false):=fun h=>HTNo.out (Bool.eq_false_iff.2 fun hr=>h ((tagsRise_all q.tags).1 hr t htk))
         have s1:=fun y:FW (Frm Nix wr)=>HTC.out y.w y.h t htk
         have u8:=fun y:FW (Frm Nix wr)=>r8 ⟨y.w,HF2.out.trans y.h⟩
         have u0:=fun y:FW (Frm Nix wr)=>r0 ⟨y.w,HF2.out.trans y.h⟩
         dsimp only at u8 u0;obtain⟨tq,htq⟩:∃ tq,q.tags[t]=tq:=⟨_,rfl⟩;rw[htq] at s1 HTS HTF;have KT:=fun y:FW (Frm Nix wr)=>(show Calls Tryz.prog 99 #[.string tq] y.w fun e w'=>e=.returned (.bool (tagOk tq))∧Frm Nix y.w w' from rTag_any tq y.w)
         clear htg2 hcell3
         cases hto:tagOk tq with
         | false=>
           rw[hto] at KT;have HE:=h_ (HTF.out (fun e=>by rw[hto] at e;cases e.1));go_wp2_with fail;refine wp_region_class (Frm Nix wr) ((fR wr).drew) (by kernel_rfl) (by kernel_rfl) ?_
           repeat (go_big_quiet_step (first
            | (rename_i y;go_at_call 99;refine y.call (KT y) ?_;exact fun w' hf=>y.h.trans hf)
            | fail))
           refine wpQuiet_nil ?_;rintro w7 ⟨⟨_,hfw7⟩,rfl⟩;go_wp2;go_ret
           exact⟨ret_bool HE.out.symm,HF0.out.trans (HF.out.trans (HF1.out.trans (HF2.out.trans hfw7)))⟩
         | true=>
           rw[hto] at KT
           by_cases ht0:0<t
           case neg=>
            have kC:decide ((0:Int)<(t:Int))=false:=by first | (simp;done) | (simp;omega)
            have kD:decide (0<t)=false:=by first | (simp;done) | (simp;omega)
            have HE:=h_ (HTS.out ⟨hto,.inl (by omega)⟩);go_wp2_with fail;refine wp_region_class (Frm Nix wr) ((fR wr).drew) (by kernel_rfl) (by kernel_rfl) ?_
            repeat (go_big_quiet_step (first
             | (rename_i y;go_at_call 99;refine y.call (KT y) ?_;exact fun w' hf=>y.h.trans hf)
             | fail))
            refine wpQuiet_nil ?_;rintro w7 ⟨⟨_,hfw7⟩,rfl⟩;go_wp2;go_roundw
            case rel=>exact⟨t+1,by omega,by go_num,HE.out,HF2.out.trans hfw7⟩
            case measure=>simp[intOf];omega
           obtain⟨ti,rfl⟩:∃ ti,t=ti+1:=⟨t - 1,by omega⟩;have kC:decide ((0:Int)<((ti+1:Nat):Int))=true:=by first | (simp;done) | (simp;omega)
           have kD:decide ((0:Int)<(ti:Int)+1)=true:=by first | (simp;done) | (simp;omega)
           have s0:=fun y:FW (Frm Nix wr)=>HTC.out y.w y.h ti (by omega)
           have htil:ti<q.tags.length:=by omega
           have HTS2:Hid (ltB (q.tags[ti]'htil) tq→_):=fun h=>HTS.out ⟨hto,.inr ⟨by omega,h⟩⟩
           have HTF2:Hid (¬ltB (q.tags[ti]'htil) tq→itmsOk x=false):=fun h=>HTF.out fun e=>by
            rcases e.2 with e | ⟨_,e⟩
            ·omega
            ·exact h e
           obtain⟨tp0,htp0⟩:∃ tp0,q.tags[ti]'htil=tp0:=⟨_,rfl⟩;rw[htp0] at s0 HTS2 HTF2;have hbl:=blt tp0 tq
           by_cases hlt2:ltB tp0 tq
           ·rw[decide_eq_true hlt2] at hbl
            have HE:=h_ (HTS2.out hlt2);go_wp2_with fail;refine wp_region_class (Frm Nix wr) ((fR wr).drew) (by kernel_rfl) (by kernel_rfl) ?_
            repeat (go_big_quiet_step (first
             | (rename_i y;go_at_call 99;refine y.call (KT y) ?_;exact fun w' hf=>y.h.trans hf)
             | fail))
            refine wpQuiet_nil ?_;rintro w7 ⟨⟨_,hfw7⟩,rfl⟩;go_wp2;go_roundw
            case rel=>exact⟨ti+1+1,by omega,by go_num,HE.out,HF2.out.trans hfw7⟩
            case measure=>simp[intOf];omega
           ·rw[decide_eq_false hlt2] at hbl
            have HE:=h_ (HTF2.out hlt2);go_wp2_with fail;refine wp_region_class (Frm Nix wr) ((fR wr).drew) (by kernel_rfl) (by kernel_rfl) ?_
            repeat (go_big_quiet_step (first
             | (rename_i y;go_at_call 99;refine y.call (KT y) ?_;exact fun w' hf=>y.h.trans hf)
             | fail))
            refine wpQuiet_nil ?_;rintro w7 ⟨⟨_,hfw7⟩,rfl⟩;go_wp2;go_ret;exact⟨ret_bool HE.out.symm,HF0.out.trans (HF.out.trans (HF1.out.trans (HF2.out.trans hfw7)))⟩
        ·have htt:t=q.tags.length:=by omega
         have HTR:Hid (tagsRise q.tags=true):=(tagsRise_all q.tags).2 fun j hj=>HTT.out j hj (by omega)
         have HFt:=HF2;clear HF2;go_wp2
         go_loopw [6] (fun jv wv=>∃ j:Nat,j≤(i+1)∧jv=.int .i64 j∧(x.itms.take j).any (fun g=>decide (g.feed=q.feed∧g.guid=q.guid))=false∧Frm Nix w1 wv) (fun jv _=>(i+1) - (intOf jv).toNat)
         case atStart=>exact⟨0,by omega,rfl,by simp,HFt.out⟩
         case round=>
          obtain⟨j,hj,rfl,ht2,hf2⟩:=hrel;have HT2:=h_ ht2;have HF2:=h_ hf2;clear ht2 hf2
          by_cases hjk:j<(i+1)
          ·have hjl:j<x.itms.length:=by omega
           have hkl:(i+1)≤x.itms.length:=by omega
           obtain⟨gp,hge,hgc⟩:=HCell.out j hjl;have hs1:=fun he=>fst_step (p:=fun g:Itm=>decide (g.feed=q.feed∧g.guid=q.guid)) hjl HT2.out (decide_eq_false he)
           have hs2:=fun he=>take_any_ (l:=x.itms) (q:=fun g:Itm=>decide (g.feed=q.feed∧g.guid=q.guid)) (k:=j) (i:=(i+1)) hjk hkl (decide_eq_true he)
           rw[← hge] at hs1 hs2;obtain⟨gv,g⟩:=gp;dsimp only at hs1 hs2;have HS1:=h_ hs1;have HS2:=h_ hs2;have g0:=fun y:FW (Frm Nix wr)=>hgc y.w (HF1.out.trans (HF2.out.trans y.h)) 0 _ rfl
           have g1:=fun y:FW (Frm Nix wr)=>hgc y.w (HF1.out.trans (HF2.out.trans y.h)) 1 _ rfl
           have g2:=fun y:FW (Frm Nix wr)=>hgc y.w (HF1.out.trans (HF2.out.trans y.h)) 2 _ rfl
           have g3:=fun y:FW (Frm Nix wr)=>hgc y.w (HF1.out.trans (HF2.out.trans y.h)) 3 _ rfl
           have g4:=fun y:FW (Frm Nix wr)=>hgc y.w (HF1.out.trans (HF2.out.trans y.h)) 4 _ rfl
           have g5:=fun y:FW (Frm Nix wr)=>hgc y.w (HF1.out.trans (HF2.out.trans y.h)) 5 _ rfl
           have g6:=fun y:FW (Frm Nix wr)=>hgc y.w (HF1.out.trans (HF2.out.trans y.h)) 6 _ rfl
           have g7:=fun y:FW (Frm Nix wr)=>hgc y.w (HF1.out.trans (HF2.out.trans y.h)) 7 _ rfl
           have g8:=fun y:FW (Frm Nix wr)=>hgc y.w (HF1.out.trans (HF2.out.trans y.h)) 8 _ rfl
           have y0:=fun y:FW (Frm Nix wr)=>r0 ⟨y.w,HF2.out.trans y.h⟩
           have y1:=fun y:FW (Frm Nix wr)=>r1 ⟨y.w,HF2.out.trans y.h⟩
           have y2:=fun y:FW (Frm Nix wr)=>r2 ⟨y.w,HF2.out.trans y.h⟩
           have y3:=fun y:FW (Frm Nix wr)=>r3 ⟨y.w,HF2.out.trans y.h⟩
           have y4:=fun y:FW (Frm Nix wr)=>r4 ⟨y.w,HF2.out.trans y.h⟩
           have y5:=fun y:FW (Frm Nix wr)=>r5 ⟨y.w,HF2.out.trans y.h⟩
           have y6:=fun y:FW (Frm Nix wr)=>r6 ⟨y.w,HF2.out.trans y.h⟩
           have y7:=fun y:FW (Frm Nix wr)=>r7 ⟨y.w,HF2.out.trans y.h⟩
           have y8:=fun y:FW (Frm Nix wr)=>r8 ⟨y.w,HF2.out.trans y.h⟩
           have v0:=fun y:FW (Frm Nix wr)=>z0 ⟨y.w,HF2.out.trans y.h⟩
           have v1:=fun y:FW (Frm Nix wr)=>z1 ⟨y.w,HF2.out.trans y.h⟩
           have v2:=fun y:FW (Frm Nix wr)=>z2 ⟨y.w,HF2.out.trans y.h⟩
           have v3:=fun y:FW (Frm Nix wr)=>z3 ⟨y.w,HF2.out.trans y.h⟩
           have v4:=fun y:FW (Frm Nix wr)=>z4 ⟨y.w,HF2.out.trans y.h⟩
           have v5:=fun y:FW (Frm Nix wr)=>z5 ⟨y.w,HF2.out.trans y.h⟩
           have v6:=fun y:FW (Frm Nix wr)=>z6 ⟨y.w,HF2.out.trans y.h⟩
           have v7:=fun y:FW (Frm Nix wr)=>z7 ⟨y.w,HF2.out.trans y.h⟩
           have v8:=fun y:FW (Frm Nix wr)=>z8 ⟨y.w,HF2.out.trans y.h⟩
           dsimp only at g0 g1 g2 g3 g4 g5 g6 g7 g8 y0 y1 y2 y3 y4 y5 y6 y7 y8 v0 v1 v2 v3 v4 v5 v6 v7 v8;rw[Nat.add_zero] at g0;clear hge hgc hs1 hs2
           by_cases he0:g.feed=q.feed
           case neg=>
            have hq2:(g.feed==q.feed)=false:=by simp[he0]
            go_wp2_with fail;refine wp_region_class (Frm Nix wr) ((fR wr).drew) (by kernel_rfl) (by kernel_rfl) ?_
            repeat (go_big_quiet_step (first
             | fail))
            refine wpQuiet_nil ?_;rintro w7 ⟨⟨_,hfw7⟩,rfl⟩;go_wp2;go_roundw
            case rel=>exact⟨j+1,by omega,by go_num,HS1.out (fun e=>he0 e.1),HF2.out.trans hfw7⟩
            case measure=>simp[intOf];omega
           have hy0:(g.feed==q.feed)=true:=by rw[he0];simp
           by_cases he1:g.guid=q.guid
           case neg=>
            obtain⟨hq1,hq2⟩:=str_ne he1;go_wp2_with fail;refine wp_region_class (Frm Nix wr) ((fR wr).drew) (by kernel_rfl) (by kernel_rfl) ?_
            repeat (go_big_quiet_step (first
             | fail))
            refine wpQuiet_nil ?_;rintro w7 ⟨⟨_,hfw7⟩,rfl⟩;go_wp2;go_roundw
            case rel=>exact⟨j+1,by omega,by go_num,HS1.out (fun e=>he1 e.2),HF2.out.trans hfw7⟩
            case measure=>simp[intOf];omega
           have hy1:(g.guid.toList==q.guid.toList)=true:=by rw[he1];simp
           have HE:=h_ (HS2.out ⟨he0,he1⟩);go_wp2_with fail;refine wp_region_class (Frm Nix wr) ((fR wr).drew) (by kernel_rfl) (by kernel_rfl) ?_
           repeat (go_big_quiet_step (first
            | fail))
           refine wpQuiet_nil ?_;rintro w7 ⟨⟨_,hfw7⟩,rfl⟩;go_wp2;go_ret;exact⟨ret_bool (HNo.out (by rw[HPq.out,HE.out];simp)).symm,HF0.out.trans (HF.out.trans (HF1.out.trans (HF2.out.trans hfw7)))⟩
          ·(have hji:j=i+1:=(by omega));subst hji
           have HE:=HT2;go_wp2;go_roundw
           case rel=>exact⟨i+1+1,by omega,by go_num,HStep.out (by rw[HPq.out,h0,hr,decide_eq_true hle,h4,decide_eq_true h8,HTR.out,HE.out];rfl),HF.out.trans (HF1.out.trans HF2.out)⟩
           case measure=>simp[intOf];omega
  ·obtain rfl:k=x.itms.length:=by omega
   have HAll:Hid (allG P [] x.itms=true):=allG_yes fun j hj h=>HT.out j hj h
   have HOk:=h_ (HYes0.out HAll.out);go_wp2;simp only[peel,bodyOf,Tryz.f62]
   by_cases a1:x.itms.length≤1024
   case neg=>
    have a2:¬(x.itms.length:Int)≤1024:=by omega
    go_wp2;go_ret;exact⟨ret_bool (by rw[HOk.out,decide_eq_false a1];rfl),HF0.out.trans HF.out⟩
   have a2:(x.itms.length:Int)≤1024:=by omega
   by_cases b1:0≤x.tItm
   case neg=>
    go_wp2;go_ret;exact⟨ret_bool (by rw[HOk.out,decide_eq_false (show ¬(0≤x.tItm∧x.tItm≤1048576) by omega)];simp),HF0.out.trans HF.out⟩
   by_cases b2:x.tItm≤1048576
   case neg=>
    go_wp2;go_ret;exact⟨ret_bool (by rw[HOk.out,decide_eq_false (show ¬(0≤x.tItm∧x.tItm≤1048576) by omega)];simp),HF0.out.trans HF.out⟩
   by_cases b3:x.tItm=0
   ·have kE:(x.tItm==0)=true:=by rw[b3];rfl
    have HE:Hid (itmsOk x=true):=by unfold Hid;rw[HOk.out,decide_eq_true a1,decide_eq_true (show (0≤x.tItm∧x.tItm≤1048576) by omega),decide_eq_true (show x.tItm=0∨0<x.tFee from .inl b3)];rfl
    clear b3;go_wp2;go_ret;exact⟨ret_bool HE.out.symm,HF0.out.trans HF.out⟩
   have kE:(x.tItm==0)=false:=by simp[b3]
   by_cases b4:0<x.tFee
   case neg=>
    go_wp2;go_ret;exact⟨ret_bool (by rw[HOk.out,decide_eq_false (show ¬(x.tItm=0∨0<x.tFee) by omega)];simp),HF0.out.trans HF.out⟩
   go_wp2;go_ret;exact⟨ret_bool (by rw[HOk.out,decide_eq_true a1,decide_eq_true (show (0≤x.tItm∧x.tItm≤1048576) by omega),decide_eq_true (show x.tItm=0∨0<x.tFee from .inr b4)];rfl),HF0.out.trans HF.out⟩
end Go.Proofs.YtlafbakoefcifaaGreat
