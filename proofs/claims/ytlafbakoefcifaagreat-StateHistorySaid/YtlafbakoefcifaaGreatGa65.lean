/-
  Plain: states too large to be looked at; a list looked at one by one, with what stands ahead. No program in sight.
-/
import Derived.Test.YtlafbakoefcifaaGreatGa38
import Derived.Test.YtlafbakoefcifaaGreatGa43
import Derived.Test.YtlafbakoefcifaaGreatGa44
import Derived.Test.YtlafbakoefcifaaGreatGa41
import Derived.Deep.RegionHeld3
set_option linter.unusedVariables false
set_option linter.unusedSimpArgs false
set_option maxRecDepth 100000
set_option maxHeartbeats 16000000
namespace Go.Proofs.YtlafbakoefcifaaGreat
open Go.RowKit Go.Lib
section
def largeFol(f:Fol):Bool:=decide (1000<(f.name.size:Int))
def largeFee(f:Fee):Bool:=decide (1000<(f.url.size:Int))||decide (1000<(f.title.size:Int))
def largeTag(s:ByteArray):Bool:=decide (300<(s.size:Int))
def largeItm(t:Itm):Bool:=(decide (1000<(t.guid.size:Int))||(decide (1000<(t.title.size:Int))||(decide (1000<(t.link.size:Int))||decide (20<(t.tags.length:Int)))))||t.tags.any largeTag
def largeSea(s:Sea):Bool:=decide (1000<(s.name.size:Int))||decide (1000<(s.query.size:Int))
def largeS(x:St):Bool:=(decide (70<(x.fols.length:Int))||(decide (70<(x.fees.length:Int))||(decide (120<(x.itms.length:Int))||decide (40<(x.seas.length:Int)))))||(x.fols.any largeFol||(x.fees.any largeFee||(x.itms.any largeItm||x.seas.any largeSea)))
theorem large_itms{x:St}(h:largeS x=false):x.fols.length≤70∧x.fees.length≤70∧x.itms.length≤120∧x.seas.length≤40∧∀ t ∈ x.itms,t.tags.length≤20:=by
 unfold largeS at h;simp only[Bool.or_eq_false_iff,decide_eq_false_iff_not] at h;obtain⟨⟨h1,h2,h3,h4⟩,-,-,h7,-⟩:=h;refine⟨by omega,by omega,by omega,by omega,fun t ht=>?_⟩;have:=List.any_eq_false.1 h7 t ht;simp only[Bool.not_eq_true] at this;unfold largeItm at this;simp only[Bool.or_eq_false_iff,decide_eq_false_iff_not] at this;omega
theorem small_large{x:St}(h:largeS x=false):StSmall x:=by
 obtain⟨h1,h2,h3,h4,h5⟩:=large_itms h;exact⟨by omega,by omega,by omega,by omega,fun t ht=>by have:=h5 t ht;omega⟩
theorem past_large{x:St}(h:largeS x=false):(pastS x).length≤900000:=by
 obtain⟨h1,h2,h3,h4,h5⟩:=large_itms h;have:=past_len x 20 h5;have:x.itms.length * (20+3)≤120 * 23:=Nat.mul_le_mul_right _ h3;omega
section
variable {α:Type} {p:List α→α→Bool} {l:List α} {k:Nat}
theorem allG_all:allG p [] l=true↔∀ (j:Nat) (h:j<l.length),p (l.take j) l[j]=true:=by
 rw[allG_iff];constructor
 ·intro h j hj
  have:=h (l.take j) l[j] (l.drop (j+1)) (by rw[← List.drop_eq_getElem_cons hj,List.take_append_drop])
  simpa using this
 ·intro h A a B e
  subst e;have:=h A.length (by simp)
  simpa using this
theorem allG_no(h:k<l.length)(hn:p (l.take k) l[k]=false):allG p [] l=false:=by
 refine Bool.eq_false_iff.2 fun ha=>?_
 rw[allG_all.1 ha k h] at hn
 cases hn
theorem allG_yes(h:∀ (j:Nat) (hj:j<l.length),j<l.length→p (l.take j) l[j]=true):allG p [] l=true:=allG_all.2 fun j hj=>h j hj hj
theorem take_any_{q:α→Bool}{i:Nat}(hk:k<i)(hi:i≤l.length)(he:q (l[k]'(by omega))=true):(l.take i).any q=true:=
 List.any_eq_true.2 ⟨_,List.mem_take_iff_getElem.2 ⟨k,by omega,rfl⟩,he⟩
theorem rises_zero{g:α→Int}{a:α}:risesI g (l.take 0) a=true:=by simp[risesI]
theorem rises_at{g:α→Int}{a:α}(h:k+1≤l.length):risesI g (l.take (k+1)) a=decide (g (l[k]'(by omega))<g a):=by
 have hk:k<l.length:=by omega
 have e:(l.take (k+1)).getLast? =some l[k]:=by
  rw[List.take_succ_eq_append_getElem hk];exact List.getLast?_concat
 unfold risesI;rw[e]
end
theorem tagsRise_all:∀ l:List ByteArray,tagsRise l=true↔∀ (j:Nat) (h:j<l.length),tagOk l[j]=true∧(j=0∨∃ h0:0<j,ltB (l[j - 1]'(by omega)) l[j])
 | []=>by simp[tagsRise]
 | [a]=>by
   simp[tagsRise]
 | a::b::r=>by
   rw[tagsRise,Bool.and_eq_true,Bool.and_eq_true,tagsRise_all (b::r)];simp only[decide_eq_true_eq];constructor
   ·rintro⟨⟨h1,h2⟩,h3⟩ j hj
    cases j with
    | zero=>exact⟨h1,.inl rfl⟩
    | succ j=>
      have:=h3 j (by simpa using hj);refine⟨this.1,.inr ⟨by omega,?_⟩⟩;rcases this.2 with h0 | ⟨h0,hlt⟩
      ·subst h0
       exact h2
      ·obtain⟨j,rfl⟩:∃ j',j=j'+1:=⟨j - 1,by omega⟩
       exact hlt
   ·intro h
    refine⟨⟨(h 0 (by simp)).1,?_⟩,fun j hj=>?_⟩
    ·rcases(h 1 (by simp)).2 with h1 | ⟨_,h1⟩
     ·omega
     ·exact h1
    ·have:=h (j+1) (by simpa using hj)
     refine⟨this.1,?_⟩;rcases this.2 with h1 | ⟨h0,hlt⟩
     ·omega
     ·cases j with
      | zero=>exact .inl rfl
      | succ j=>exact .inr ⟨by omega,hlt⟩
end
theorem rFolders_any{w:World}{fo fe it se:Sl}{ts:List (Sl×Itm)}{x:St}{G:Nat→Prop}(hS:StIn w G fo fe it se ts x)(hsm:StSmall x):
  Calls Tryz.prog 60 #[stV fo fe it se x] w fun e w'=>e=.returned (.bool (folsOk x))∧Frm Nix w w':=by
 obtain⟨w0,hw0,hf0,hb0⟩:=box_st w fo fe it se x;have hcap:=hsm.fols;obtain⟨x0,x1,x2,x3,x4,x5,x6,x7,x8⟩:=blk9 hb0;have HS:=h_ (hS.nix hf0);have HSm:=h_ hsm;have HB:=h_ hb0;have HF0:=h_ hf0;have HW:=h_ hw0;obtain⟨P,hP⟩:∃ P:List Fol→Fol→Bool,P=(fun (pre:List Fol) (f:Fol)=>evOk ⟨1,f.id,f.inn,0,f.name,eS,eS⟩&&decide (f.id≤x.tFol)&&risesI Fol.id pre f&&decide (deepS x f.id≤7)&&!(pre.any fun g=>g.inn=f.inn∧g.name=f.name)):=⟨_,rfl⟩;have HP:Hid (∀ pre f,P pre f=((fun (pre:List Fol) (f:Fol)=>evOk ⟨1,f.id,f.inn,0,f.name,eS,eS⟩&&decide (f.id≤x.tFol)&&risesI Fol.id pre f&&decide (deepS x f.id≤7)&&!(pre.any fun g=>g.inn=f.inn∧g.name=f.name)) pre f)):=by rw[hP];exact fun _ _=>rfl
 have HNo0:Hid (allG P [] x.fols=false→folsOk x=false):=fun h=>by unfold folsOk;rw[← hP,h];rfl
 have HYes0:Hid (allG P [] x.fols=true→folsOk x=(decide (x.fols.length≤64)&&decide (0≤x.tFol∧x.tFol≤1048576))):=fun h=>by unfold folsOk;rw[← hP,h];simp
 clear hS hsm hw0 hf0 hb0 hP;unfold stV;obtain⟨A,c⟩:=fo;dsimp only at x1 x2 x3 x4 HS HB HW ⊢;go_enter Tryz.func60,Tryz.ntmps60;show Code.wp Tryz.prog (peel 0 (bodyOf Tryz.f60)) _ _ _
 refine peelK (k':=1) fun K hK=>?_
 conv in hdC _=>whnf
 go_wp2;rw[← HW.out];refine peelK (k':=2) fun K hK=>?_
 conv in hdC _=>whnf
 go_wp2
 go_loopw [3] (fun kv wr=>∃ k:Nat,k≤x.fols.length∧kv=.int .i64 k∧(∀ (j:Nat) (hj:j<x.fols.length),j<k→P (x.fols.take j) (x.fols[j]'hj)=true)∧Frm Nix w0 wr) (fun kv _=>x.fols.length - (intOf kv).toNat)
 case atStart=>exact⟨0,by omega,rfl,fun j hj h=>absurd h (by omega),Frm.refl _ _⟩
 case round=>
  obtain⟨k,hk,rfl,ht,hf⟩:=hrel;have HT:=h_ ht;have HF:=h_ hf;clear ht hf x0 x1 x2 x3 x4 x5 x6 x7 x8;obtain⟨x0,x1,x2,x3,x4,x5,x6,x7,x8⟩:=blk9 (HB.out.frm HF.out id)
  by_cases hlt:k<x.fols.length
  ·obtain⟨b,off,hA,-,hbl,hcell⟩:=(HS.out.fols.nix HF.out).at_ Fol.clen (by decide) (by omega)
   dsimp only at hA;subst hA;have HNo:=h_ (fun h=>HNo0.out (allG_no (p:=P) hlt h))
   have HStep:Hid (P (x.fols.take k) x.fols[k]=true→∀ (j:Nat) (hj:j<x.fols.length),j<k+1→P (x.fols.take j) (x.fols[j]'hj)=true):=fun h j hj hjk=>by
    by_cases e:j=k
    ·subst e;exact h
    ·exact HT.out j hj (by omega)
   have HCell:Hid (∀ W,Frm Nix wr W→∀ (i:Nat) (hi:i<x.fols.length) (j:Nat) (u:Value),(Fol.cells x.fols[i])[j]? =some u→W.cell? ⟨b,off+i * 3+j,none⟩=some u):=fun W hW i hi j u hu=>(hW.cell (p:=⟨b,off+i * 3+j,none⟩) hbl id).trans (hcell i hi j u hu)
   obtain⟨p0,p1,p2⟩:=Folcs (w:=wr) (b:=b) (off:=off+k * 3) (e:=x.fols[k]) (hcell k hlt);obtain⟨q,hq⟩:∃ q,x.fols[k]=q:=⟨_,rfl⟩;rw[hq] at p0 p1 p2 HNo HStep;clear hcell hq;have HPq:=h_ (HP.out (x.fols.take k) q);obtain⟨w1,hw1⟩:∃ w1,w1=wr.alloc (.cells #[.int .i64 q.id,.int .i64 q.inn,.string q.name] 49):=⟨_,rfl⟩;have f1:Frm Nix wr w1:=by rw[hw1];exact(fR wr).alloc _
   have hb4:Blk w1 wr.heap.size 49 #[.int .i64 q.id,.int .i64 q.inn,.string q.name]:=by rw[hw1];exact Blk.new _ _ _
   have HW1:=h_ hw1;have HF1:=h_ f1;have HB4:=h_ hb4;have hbx:=(HB.out.frm HF.out id).frm f1 id;have z:=fun y:FW (Frm Nix w1)=>blk9 (hbx.frm y.h id)
   have z0:=fun y=>(z y).1
   have z1:=fun y=>(z y).2.1
   have z2:=fun y=>(z y).2.2.1
   have z3:=fun y=>(z y).2.2.2.1
   have z4:=fun y=>(z y).2.2.2.2.1
   have z5:=fun y=>(z y).2.2.2.2.2.1
   have z6:=fun y=>(z y).2.2.2.2.2.2.1
   have z7:=fun y=>(z y).2.2.2.2.2.2.2.1
   have z8:=fun y=>(z y).2.2.2.2.2.2.2.2
   have HBx:=h_ hbx;have r0:=fun y:FW (Frm Nix w1)=>(show y.w.cell? ⟨wr.heap.size,0,none⟩=some (.int .i64 q.id) from (hb4.frm y.h id).cell 0)
   have r1:=fun y:FW (Frm Nix w1)=>(show y.w.cell? ⟨wr.heap.size,1,none⟩=some (.int .i64 q.inn) from (hb4.frm y.h id).cell 1)
   have r2:=fun y:FW (Frm Nix w1)=>(show y.w.cell? ⟨wr.heap.size,2,none⟩=some (.string q.name) from (hb4.frm y.h id).cell 2)
   have KC:=fun y:FW (Frm Nix w1)=>(show Calls Tryz.prog 59 #[.agg #[.int .i64 1,.int .i64 q.id,.int .i64 q.inn,.int .i64 0,.string q.name,.string ⟨#[]⟩,.string ⟨#[]⟩]] y.w fun e w'=>e=.returned (.bool (evOk ⟨1,q.id,q.inn,0,q.name,eS,eS⟩))∧Frm Nix y.w w' from rCheck_any ⟨1,q.id,q.inn,0,q.name,eS,eS⟩ y.w)
   have KD:=fun y:FW (Frm Nix w1)=>(show Calls Tryz.prog 23 #[.agg #[.int .i64 x.clock,.slice (some ⟨b,off,none⟩) x.fols.length c,.slice fe.1 x.fees.length fe.2,.slice it.1 x.itms.length it.2,.slice se.1 x.seas.length se.2,.int .i64 x.tFol,.int .i64 x.tFee,.int .i64 x.tItm,.int .i64 x.tSea],.int .i64 q.id] y.w fun e w'=>e=.returned (.int .i64 (deepS x q.id))∧Frm Nix y.w w' from rDeep_any ((HS.out.nix (HF.out.trans f1)).nix y.h) HSm.out q.id)
   clear z hbx hb4 f1 hw1
   cases h0:evOk ⟨1,q.id,q.inn,0,q.name,eS,eS⟩ with
   | false=>
     rw[h0] at KC;go_wp2_with fail;rw[← HW1.out];refine wp_region_class (Frm Nix w1) ((fR w1).drew) (by kernel_rfl) (by kernel_rfl) ?_
     repeat (go_big_quiet_step (first
      | (rename_i y;go_at_call 59;refine y.call (KC y) ?_;exact fun w' hf=>y.h.trans hf)
      | (rename_i y;go_at_call 23;refine y.call (KD y) ?_;exact fun w' hf=>y.h.trans hf)
      | fail))
     refine wpQuiet_nil ?_;rintro w5 ⟨⟨_,hfw5⟩,rfl⟩;go_wp2;go_ret
     exact⟨ret_bool (HNo.out (by rw[HPq.out,h0];simp)).symm,HF0.out.trans (HF.out.trans (HF1.out.trans hfw5))⟩
   | true=>
     rw[h0] at KC
     by_cases h1:x.tFol<q.id
     ·have k1:decide (x.tFol<q.id)=true:=decide_eq_true h1
      go_wp2_with fail;rw[← HW1.out];refine wp_region_class (Frm Nix w1) ((fR w1).drew) (by kernel_rfl) (by kernel_rfl) ?_
      repeat (go_big_quiet_step (first
       | (rename_i y;go_at_call 59;refine y.call (KC y) ?_;exact fun w' hf=>y.h.trans hf)
       | (rename_i y;go_at_call 23;refine y.call (KD y) ?_;exact fun w' hf=>y.h.trans hf)
       | fail))
      refine wpQuiet_nil ?_;rintro w5 ⟨⟨_,hfw5⟩,rfl⟩;go_wp2;go_ret;exact⟨ret_bool (HNo.out (by rw[HPq.out,decide_eq_false (show ¬q.id≤x.tFol by omega)];simp)).symm,HF0.out.trans (HF.out.trans (HF1.out.trans hfw5))⟩
     have k1:decide (x.tFol<q.id)=false:=decide_eq_false h1;have hle:q.id≤x.tFol:=by omega
     by_cases hk0:0<k
     case neg=>
      have kA:decide ((0:Int)<(k:Int))=false:=by first | (simp;done) | (simp;omega)
      have kB:decide (0<k)=false:=by first | (simp;done) | (simp;omega)
      have hr:risesI Fol.id (x.fols.take k) q=true:=by rw[show k=0 by omega];exact rises_zero
      by_cases h3:7<deepS x q.id
      ·have k3:decide ((7:Int)<((deepS x q.id:Nat):Int))=true:=by first | (simp;done) | (simp;omega)
       have k4:decide (7<deepS x q.id)=true:=by first | (simp;done) | (simp;omega)
       go_wp2_with fail;rw[← HW1.out];refine wp_region_class (Frm Nix w1) ((fR w1).drew) (by kernel_rfl) (by kernel_rfl) ?_
       repeat (go_big_quiet_step (first
        | (rename_i y;go_at_call 59;refine y.call (KC y) ?_;exact fun w' hf=>y.h.trans hf)
        | (rename_i y;go_at_call 23;refine y.call (KD y) ?_;exact fun w' hf=>y.h.trans hf)
        | fail))
       refine wpQuiet_nil ?_;rintro w5 ⟨⟨_,hfw5⟩,rfl⟩;go_wp2;go_ret;exact⟨ret_bool (HNo.out (by rw[HPq.out,decide_eq_false (show ¬deepS x q.id≤7 by omega)];simp)).symm,HF0.out.trans (HF.out.trans (HF1.out.trans hfw5))⟩
      have k3:decide ((7:Int)<((deepS x q.id:Nat):Int))=false:=by first | (simp;done) | (simp;omega)
      have k4:decide (7<deepS x q.id)=false:=by first | (simp;done) | (simp;omega)
      have hd7:deepS x q.id≤7:=by omega
      go_wp2_with fail;rw[← HW1.out];refine wp_region_class (Frm Nix w1) ((fR w1).drew) (by kernel_rfl) (by kernel_rfl) ?_
      repeat (go_big_quiet_step (first
       | (rename_i y;go_at_call 59;refine y.call (KC y) ?_;exact fun w' hf=>y.h.trans hf)
       | (rename_i y;go_at_call 23;refine y.call (KD y) ?_;exact fun w' hf=>y.h.trans hf)
       | fail))
      refine wpQuiet_nil ?_;rintro w5 ⟨⟨_,hfw5⟩,rfl⟩;have HF5:=h_ hfw5;clear hfw5;go_wp2
      go_loopw [5] (fun jv wv=>∃ j:Nat,j≤k∧jv=.int .i64 j∧(x.fols.take j).any (fun g=>decide (g.inn=q.inn∧g.name=q.name))=false∧Frm Nix w1 wv) (fun jv _=>k - (intOf jv).toNat)
      case atStart=>exact⟨0,by omega,rfl,by simp,HF5.out⟩
      case round=>
       obtain⟨j,hj,rfl,ht2,hf2⟩:=hrel;have HT2:=h_ ht2;have HF2:=h_ hf2;clear ht2 hf2
       by_cases hjk:j<k
       ·exfalso
        omega
       ·obtain rfl:j=k:=by omega
        have HE:=HT2;go_wp2;go_roundw
        case rel=>exact⟨j+1,by omega,by go_num,HStep.out (by rw[HPq.out,h0,hr,decide_eq_true hle,decide_eq_true hd7,HE.out];rfl),HF.out.trans (HF1.out.trans HF2.out)⟩
        case measure=>simp[intOf];omega
     obtain⟨i,rfl⟩:∃ i,k=i+1:=⟨k - 1,by omega⟩;have kA:decide ((0:Int)<((i+1:Nat):Int))=true:=by first | (simp;done) | (simp;omega)
     have kA2:decide ((0:Int)<(i:Int)+1)=true:=by first | (simp;done) | (simp;omega)
     have hil:i<x.fols.length:=by omega
     have hr0:=rises_at (g:=Fol.id) (a:=q) (l:=x.fols) (k:=i) (by omega);have zp:=fun y:FW (Frm Nix w1)=>HCell.out y.w (HF1.out.trans y.h) i hil 0 _ rfl
     obtain⟨pr,hpr⟩:∃ pr,x.fols[i]=pr:=⟨_,rfl⟩;rw[hpr] at zp hr0;rw[Nat.add_zero] at zp;clear hpr
     by_cases h2:q.id≤pr.id
     ·have k2:decide (q.id≤pr.id)=true:=decide_eq_true h2
      have hr:risesI Fol.id (x.fols.take (i+1)) q=false:=by rw[hr0];exact decide_eq_false (by omega)
      go_wp2_with fail;rw[← HW1.out];refine wp_region_class (Frm Nix w1) ((fR w1).drew) (by kernel_rfl) (by kernel_rfl) ?_
      repeat (go_big_quiet_step (first
       | (rename_i y;go_at_call 59;refine y.call (KC y) ?_;exact fun w' hf=>y.h.trans hf)
       | (rename_i y;go_at_call 23;refine y.call (KD y) ?_;exact fun w' hf=>y.h.trans hf)
       | fail))
      refine wpQuiet_nil ?_;rintro w5 ⟨⟨_,hfw5⟩,rfl⟩;go_wp2;go_ret;exact⟨ret_bool (HNo.out (by rw[HPq.out,hr];simp)).symm,HF0.out.trans (HF.out.trans (HF1.out.trans hfw5))⟩
     have k2:decide (q.id≤pr.id)=false:=decide_eq_false h2;have hr:risesI Fol.id (x.fols.take (i+1)) q=true:=by rw[hr0];exact decide_eq_true (by omega)
     by_cases h3:7<deepS x q.id
     ·have k3:decide ((7:Int)<((deepS x q.id:Nat):Int))=true:=by first | (simp;done) | (simp;omega)
      have k4:decide (7<deepS x q.id)=true:=by first | (simp;done) | (simp;omega)
      go_wp2_with fail;rw[← HW1.out];refine wp_region_class (Frm Nix w1) ((fR w1).drew) (by kernel_rfl) (by kernel_rfl) ?_
      repeat (go_big_quiet_step (first
       | (rename_i y;go_at_call 59;refine y.call (KC y) ?_;exact fun w' hf=>y.h.trans hf)
       | (rename_i y;go_at_call 23;refine y.call (KD y) ?_;exact fun w' hf=>y.h.trans hf)
       | fail))
      refine wpQuiet_nil ?_;rintro w5 ⟨⟨_,hfw5⟩,rfl⟩;go_wp2;go_ret;exact⟨ret_bool (HNo.out (by rw[HPq.out,decide_eq_false (show ¬deepS x q.id≤7 by omega)];simp)).symm,HF0.out.trans (HF.out.trans (HF1.out.trans hfw5))⟩
     have k3:decide ((7:Int)<((deepS x q.id:Nat):Int))=false:=by first | (simp;done) | (simp;omega)
     have k4:decide (7<deepS x q.id)=false:=by first | (simp;done) | (simp;omega)
     have hd7:deepS x q.id≤7:=by omega
     go_wp2_with fail;rw[← HW1.out];refine wp_region_class (Frm Nix w1) ((fR w1).drew) (by kernel_rfl) (by kernel_rfl) ?_
     repeat (go_big_quiet_step (first
      | (rename_i y;go_at_call 59;refine y.call (KC y) ?_;exact fun w' hf=>y.h.trans hf)
      | (rename_i y;go_at_call 23;refine y.call (KD y) ?_;exact fun w' hf=>y.h.trans hf)
      | fail))
     refine wpQuiet_nil ?_;rintro w5 ⟨⟨_,hfw5⟩,rfl⟩;have HF5:=h_ hfw5;clear hfw5;go_wp2
     go_loopw [5] (fun jv wv=>∃ j:Nat,j≤(i+1)∧jv=.int .i64 j∧(x.fols.take j).any (fun g=>decide (g.inn=q.inn∧g.name=q.name))=false∧Frm Nix w1 wv) (fun jv _=>(i+1) - (intOf jv).toNat)
     case atStart=>exact⟨0,by omega,rfl,by simp,HF5.out⟩
     case round=>
      obtain⟨j,hj,rfl,ht2,hf2⟩:=hrel;have HT2:=h_ ht2;have HF2:=h_ hf2;clear ht2 hf2
      by_cases hjk:j<(i+1)
      ·have hjl:j<x.fols.length:=by omega
       have hkl:(i+1)≤x.fols.length:=by omega
       have hs1:=fun he=>fst_step (p:=fun g:Fol=>decide (g.inn=q.inn∧g.name=q.name)) hjl HT2.out (decide_eq_false he)
       have hs2:=fun he=>take_any_ (l:=x.fols) (q:=fun g:Fol=>decide (g.inn=q.inn∧g.name=q.name)) (k:=j) (i:=(i+1)) hjk hkl (decide_eq_true he)
       have hgc:=fun y:FW (Frm Nix wr)=>HCell.out y.w (HF1.out.trans (HF2.out.trans y.h)) j hjl
       obtain⟨g,hg⟩:∃ g,x.fols[j]=g:=⟨_,rfl⟩;rw[hg] at hs1 hs2 hgc;have HS1:=h_ hs1;have HS2:=h_ hs2;have g0:=fun y:FW (Frm Nix wr)=>hgc y 0 _ rfl
       have g1:=fun y:FW (Frm Nix wr)=>hgc y 1 _ rfl
       have g2:=fun y:FW (Frm Nix wr)=>hgc y 2 _ rfl
       have y0:=fun y:FW (Frm Nix wr)=>r0 ⟨y.w,HF2.out.trans y.h⟩
       have y1:=fun y:FW (Frm Nix wr)=>r1 ⟨y.w,HF2.out.trans y.h⟩
       have y2:=fun y:FW (Frm Nix wr)=>r2 ⟨y.w,HF2.out.trans y.h⟩
       have v0:=fun y:FW (Frm Nix wr)=>z0 ⟨y.w,HF2.out.trans y.h⟩
       have v1:=fun y:FW (Frm Nix wr)=>z1 ⟨y.w,HF2.out.trans y.h⟩
       have v2:=fun y:FW (Frm Nix wr)=>z2 ⟨y.w,HF2.out.trans y.h⟩
       have v3:=fun y:FW (Frm Nix wr)=>z3 ⟨y.w,HF2.out.trans y.h⟩
       have v4:=fun y:FW (Frm Nix wr)=>z4 ⟨y.w,HF2.out.trans y.h⟩
       have v5:=fun y:FW (Frm Nix wr)=>z5 ⟨y.w,HF2.out.trans y.h⟩
       have v6:=fun y:FW (Frm Nix wr)=>z6 ⟨y.w,HF2.out.trans y.h⟩
       have v7:=fun y:FW (Frm Nix wr)=>z7 ⟨y.w,HF2.out.trans y.h⟩
       have v8:=fun y:FW (Frm Nix wr)=>z8 ⟨y.w,HF2.out.trans y.h⟩
       dsimp only at g0 g1 g2 y0 y1 y2 v0 v1 v2 v3 v4 v5 v6 v7 v8;rw[Nat.add_zero] at g0;clear hg hgc hs1 hs2
       by_cases he0:g.inn=q.inn
       case neg=>
        have hq2:(g.inn==q.inn)=false:=by simp[he0]
        go_wp2_with fail;refine wp_region_class (Frm Nix wr) ((fR wr).drew) (by kernel_rfl) (by kernel_rfl) ?_
        repeat (go_big_quiet_step (first
         | fail))
        refine wpQuiet_nil ?_;rintro w7 ⟨⟨_,hfw7⟩,rfl⟩;go_wp2;go_roundw
        case rel=>exact⟨j+1,by omega,by go_num,HS1.out (fun e=>he0 e.1),HF2.out.trans hfw7⟩
        case measure=>simp[intOf];omega
       have hy0:(g.inn==q.inn)=true:=by rw[he0];simp
       by_cases he1:g.name=q.name
       case neg=>
        obtain⟨hq1,hq2⟩:=str_ne he1;go_wp2_with fail;refine wp_region_class (Frm Nix wr) ((fR wr).drew) (by kernel_rfl) (by kernel_rfl) ?_
        repeat (go_big_quiet_step (first
         | fail))
        refine wpQuiet_nil ?_;rintro w7 ⟨⟨_,hfw7⟩,rfl⟩;go_wp2;go_roundw
        case rel=>exact⟨j+1,by omega,by go_num,HS1.out (fun e=>he1 e.2),HF2.out.trans hfw7⟩
        case measure=>simp[intOf];omega
       have hy1:(g.name.toList==q.name.toList)=true:=by rw[he1];simp
       have HE:=h_ (HS2.out ⟨he0,he1⟩);go_wp2_with fail;refine wp_region_class (Frm Nix wr) ((fR wr).drew) (by kernel_rfl) (by kernel_rfl) ?_
       repeat (go_big_quiet_step (first
        | fail))
       refine wpQuiet_nil ?_;rintro w7 ⟨⟨_,hfw7⟩,rfl⟩;go_wp2;go_ret;exact⟨ret_bool (HNo.out (by rw[HPq.out,HE.out];simp)).symm,HF0.out.trans (HF.out.trans (HF1.out.trans (HF2.out.trans hfw7)))⟩
      ·(have hji:j=i+1:=(by omega));subst hji
       have HE:=HT2;go_wp2;go_roundw
       case rel=>exact⟨i+1+1,by omega,by go_num,HStep.out (by rw[HPq.out,h0,hr,decide_eq_true hle,decide_eq_true hd7,HE.out];rfl),HF.out.trans (HF1.out.trans HF2.out)⟩
       case measure=>simp[intOf];omega
  ·obtain rfl:k=x.fols.length:=by omega
   have HAll:Hid (allG P [] x.fols=true):=allG_yes fun j hj h=>HT.out j hj h
   have HOk:=h_ (HYes0.out HAll.out);go_wp2;simp only[peel,bodyOf,Tryz.f60]
   by_cases a1:x.fols.length≤64
   case neg=>
    have a2:¬(x.fols.length:Int)≤64:=by omega
    go_wp2;go_ret;exact⟨ret_bool (by rw[HOk.out,decide_eq_false a1];rfl),HF0.out.trans HF.out⟩
   have a2:(x.fols.length:Int)≤64:=by omega
   by_cases b1:0≤x.tFol
   case neg=>
    go_wp2;go_ret;exact⟨ret_bool (by rw[HOk.out,decide_eq_false (show ¬(0≤x.tFol∧x.tFol≤1048576) by omega)];simp),HF0.out.trans HF.out⟩
   by_cases b2:x.tFol≤1048576
   case neg=>
    go_wp2;go_ret;exact⟨ret_bool (by rw[HOk.out,decide_eq_false (show ¬(0≤x.tFol∧x.tFol≤1048576) by omega)];simp),HF0.out.trans HF.out⟩
   go_wp2;go_ret;exact⟨ret_bool (by rw[HOk.out,decide_eq_true a1,decide_eq_true (show (0≤x.tFol∧x.tFol≤1048576) by omega)];rfl),HF0.out.trans HF.out⟩
end Go.Proofs.YtlafbakoefcifaaGreat
