/- Words. -/
import Derived.Test.YtaecjmiobllhmaaGreatGp02
import Derived.Test.YtaecjmiobllhmaaGreatGp04
set_option linter.unusedVariables false
set_option linter.unusedSimpArgs false
set_option maxRecDepth 100000
set_option maxHeartbeats 16000000
namespace Go.Proofs.YtaecjmiobllhmaaGreat
open Go.RowKit Go.Lib
def FirstOut(w:World)(x:Nat×Nat)(e:Ending)(w':World):Prop:=e=.returned (.tuple #[.int .i32 x.1,.int .i64 x.2])∧w=w'
theorem bat_get(s:ByteArray)(k:Nat)(h:k<s.size):(s[k]'h).toNat=bat (bys s) k:=by
 unfold bat;rw[List.getD_eq_getElem?_getD,List.getElem?_eq_getElem (by rw[←size_bys];exact h)];rfl
theorem First2(s:ByteArray)(w:World)(hs:s.size≤1000000)(h0:0<s.size)(hb:192≤bat (bys s) 0∧bat (bys s) 0<224):
  Calls Tryz.prog 197 #[.string s] w (FirstOut w (decodeL (bys s))):=by
 have HB:=h_ hb;have hb0:=bat_get s 0 h0;obtain⟨C,hC⟩:∃C,bat (bys s) 0=C:=⟨_,rfl⟩;rw[hC] at hb0 hb;have HC:=h_ hC;have b1:(192:Int)≤(C:Int):=by omega
 have b2:(C:Int)<224:=by omega
 clear hC hb
 by_cases hsz:s.size<2
 ·have hd:decide ((s.size:Int)<2)=true:=by simp;omega
  have HR:Hid (decodeL (bys s)=(65533,1)):=by
   refine dec2_no HB.out 1 ⟨by omega,by omega⟩ λht=>?_
   have:=tl_len ht;rw[←size_bys] at this;omega
  go_enter Tryz.func197,Tryz.ntmps197;go_wp2
  go_ret2
  refine⟨?_,rfl⟩;rw[HR.out];rfl
 have hd:decide ((s.size:Int)<2)=false:=by simp;omega
 go_enter Tryz.func197,Tryz.ntmps197;go_wp2
 go_loop [6,8] (λr i=>∃k:Nat,1≤k∧k≤2∧i=.int .i64 k∧r=.int .i32 (accF (C - 192) (bys s) k)∧∀j,1≤j∧j<k→isTl (bys s) j) (λ_ i=>2 - (intOf i).toNat)
 case atStart=>exact⟨1,by omega,by omega,rfl,by rw[accF_one];go_num,λj hj=>by omega⟩
 case round=>
  obtain⟨k,hk1,hk2,rfl,rfl,hall⟩:=hrel;have HA:=h_ hall;clear hall
  by_cases hlt:k<2
  ·have hks:k<s.size:=by omega
   have hbk:=bat_get s k hks;obtain⟨T,hT⟩:∃T,bat (bys s) k=T:=⟨_,rfl⟩;have hT256:=bat_lt (bys s) k;rw[hT] at hbk hT256
   by_cases ht:128≤T∧T<192
   ·have HS:Hid (accF (C - 192) (bys s) (k+1)=accF (C - 192) (bys s) k * 64+(T - 128)):=by unfold Hid;rw[accF_succ _ _ k hk1,hT]
    have hle:=accF_le (C - 192) (bys s) (by omega) k (by omega)
    have HT:Hid (∀j,1≤j∧j<k+1→isTl (bys s) j):=λj hj=>by
     by_cases e:j=k
     ·subst e
      unfold isTl;omega
     ·exact HA.out j (by omega)
    have hdt:decide (128≤(T:Int)∧(T:Int)<192)=true:=by simp;omega
    have t1:(128:Int)≤(T:Int):=by omega
    have KT:=rtail_any (T:Int);rw[hdt] at KT;clear hT ht hdt;generalize accF (C - 192) (bys s) k=Acc at *;go_wp2_with (go_at_call 216;refine(KT _).mono ?_;rintro e w' ⟨rfl,rfl⟩)
    go_round
    case rel=>exact⟨k+1,by omega,by omega,by go_num,by rw[HS.out];go_num,HT.out⟩
    case measure=>simp[intOf];omega
   ·have HR:Hid (decodeL (bys s)=(65533,1)):=dec2_no HB.out k ⟨hk1,hlt⟩ (by unfold isTl;omega)
    have hdt:decide (128≤(T:Int)∧(T:Int)<192)=false:=by simp;omega
    have KT:=rtail_any (T:Int);rw[hdt] at KT;clear hT ht hdt;go_wp2_with (go_at_call 216;refine(KT _).mono ?_;rintro e w' ⟨rfl,rfl⟩)
    go_ret2
    refine⟨?_,rfl⟩;rw[HR.out];rfl
  ·obtain rfl:k=2:=by omega
   have hdec:=dec2_yes HB.out HA.out;rw[HC.out] at hdec;have hle:=accF_le (C - 192) (bys s) (by omega) 2 (by omega);obtain⟨Acc,hAcc⟩:∃Acc,accF (C - 192) (bys s) 2=Acc:=⟨_,rfl⟩;rw[hAcc] at hdec hle;have HD:=h_ hdec;have HAcc:=h_ hAcc;clear hdec
   by_cases hbad:Acc<128∨1114111<Acc∨(55296≤Acc∧Acc≤57343)
   ·have HR:Hid (decodeL (bys s)=(65533,1)):=by
     unfold Hid;rw[HD.out,outOf,if_pos hbad]
    have HBad:=h_ hbad;clear hbad;go_wp2
    all_goals first
     | (go_ret2
        refine⟨?_,rfl⟩;rw[HR.out]
        rfl)
     | (exfalso;have:=HBad.out;simp_all;done)
     | (exfalso;have:=HBad.out;simp_all;omega)
   ·have HR:Hid (decodeL (bys s)=(Acc,2)):=by
     unfold Hid;rw[HD.out,outOf,if_neg hbad]
    have d1:decide ((Acc:Int)<128)=false:=by simp;omega
    have d2:decide ((1114111:Int)<(Acc:Int))=false:=by simp;omega
    have HBad:=h_ hbad;clear hbad;go_wp2
    all_goals first
     | (exfalso;have:=HBad.out;simp_all;done)
     | (exfalso;have:=HBad.out;simp_all;omega)
     | (go_ret2
        refine⟨?_,rfl⟩;rw[HR.out];rfl)
theorem First3(s:ByteArray)(w:World)(hs:s.size≤1000000)(h0:0<s.size)(hb:224≤bat (bys s) 0∧bat (bys s) 0<240):
  Calls Tryz.prog 197 #[.string s] w (FirstOut w (decodeL (bys s))):=by
 have HB:=h_ hb;have hb0:=bat_get s 0 h0;obtain⟨C,hC⟩:∃C,bat (bys s) 0=C:=⟨_,rfl⟩;rw[hC] at hb0 hb;have HC:=h_ hC;have b1:(224:Int)≤(C:Int):=by omega
 have b2:(C:Int)<240:=by omega
 clear hC hb
 by_cases hsz:s.size<3
 ·have hd:decide ((s.size:Int)<3)=true:=by simp;omega
  have HR:Hid (decodeL (bys s)=(65533,1)):=by
   refine dec3_no HB.out 2 ⟨by omega,by omega⟩ λht=>?_
   have:=tl_len ht;rw[←size_bys] at this;omega
  go_enter Tryz.func197,Tryz.ntmps197;go_wp2
  go_ret2
  refine⟨?_,rfl⟩;rw[HR.out];rfl
 have hd:decide ((s.size:Int)<3)=false:=by simp;omega
 go_enter Tryz.func197,Tryz.ntmps197;go_wp2
 go_loop [6,8] (λr i=>∃k:Nat,1≤k∧k≤3∧i=.int .i64 k∧r=.int .i32 (accF (C - 224) (bys s) k)∧∀j,1≤j∧j<k→isTl (bys s) j) (λ_ i=>3 - (intOf i).toNat)
 case atStart=>exact⟨1,by omega,by omega,rfl,by rw[accF_one];go_num,λj hj=>by omega⟩
 case round=>
  obtain⟨k,hk1,hk2,rfl,rfl,hall⟩:=hrel;have HA:=h_ hall;clear hall
  by_cases hlt:k<3
  ·have hks:k<s.size:=by omega
   have hbk:=bat_get s k hks;obtain⟨T,hT⟩:∃T,bat (bys s) k=T:=⟨_,rfl⟩;have hT256:=bat_lt (bys s) k;rw[hT] at hbk hT256
   by_cases ht:128≤T∧T<192
   ·have HS:Hid (accF (C - 224) (bys s) (k+1)=accF (C - 224) (bys s) k * 64+(T - 128)):=by unfold Hid;rw[accF_succ _ _ k hk1,hT]
    have hle:=accF_le (C - 224) (bys s) (by omega) k (by omega)
    have HT:Hid (∀j,1≤j∧j<k+1→isTl (bys s) j):=λj hj=>by
     by_cases e:j=k
     ·subst e
      unfold isTl;omega
     ·exact HA.out j (by omega)
    have hdt:decide (128≤(T:Int)∧(T:Int)<192)=true:=by simp;omega
    have t1:(128:Int)≤(T:Int):=by omega
    have KT:=rtail_any (T:Int);rw[hdt] at KT;clear hT ht hdt;generalize accF (C - 224) (bys s) k=Acc at *;go_wp2_with (go_at_call 216;refine(KT _).mono ?_;rintro e w' ⟨rfl,rfl⟩)
    go_round
    case rel=>exact⟨k+1,by omega,by omega,by go_num,by rw[HS.out];go_num,HT.out⟩
    case measure=>simp[intOf];omega
   ·have HR:Hid (decodeL (bys s)=(65533,1)):=dec3_no HB.out k ⟨hk1,hlt⟩ (by unfold isTl;omega)
    have hdt:decide (128≤(T:Int)∧(T:Int)<192)=false:=by simp;omega
    have KT:=rtail_any (T:Int);rw[hdt] at KT;clear hT ht hdt;go_wp2_with (go_at_call 216;refine(KT _).mono ?_;rintro e w' ⟨rfl,rfl⟩)
    go_ret2
    refine⟨?_,rfl⟩;rw[HR.out];rfl
  ·obtain rfl:k=3:=by omega
   have hdec:=dec3_yes HB.out HA.out;rw[HC.out] at hdec;have hle:=accF_le (C - 224) (bys s) (by omega) 3 (by omega);obtain⟨Acc,hAcc⟩:∃Acc,accF (C - 224) (bys s) 3=Acc:=⟨_,rfl⟩;rw[hAcc] at hdec hle;have HD:=h_ hdec;have HAcc:=h_ hAcc;clear hdec
   by_cases hbad:Acc<2048∨1114111<Acc∨(55296≤Acc∧Acc≤57343)
   ·have HR:Hid (decodeL (bys s)=(65533,1)):=by
     unfold Hid;rw[HD.out,outOf,if_pos hbad]
    have HBad:=h_ hbad;clear hbad;go_wp2
    all_goals first
     | (go_ret2
        refine⟨?_,rfl⟩;rw[HR.out]
        rfl)
     | (exfalso;have:=HBad.out;simp_all;done)
     | (exfalso;have:=HBad.out;simp_all;omega)
   ·have HR:Hid (decodeL (bys s)=(Acc,3)):=by
     unfold Hid;rw[HD.out,outOf,if_neg hbad]
    have d1:decide ((Acc:Int)<2048)=false:=by simp;omega
    have d2:decide ((1114111:Int)<(Acc:Int))=false:=by simp;omega
    have HBad:=h_ hbad;clear hbad;go_wp2
    all_goals first
     | (exfalso;have:=HBad.out;simp_all;done)
     | (exfalso;have:=HBad.out;simp_all;omega)
     | (go_ret2
        refine⟨?_,rfl⟩;rw[HR.out];rfl)
theorem First4(s:ByteArray)(w:World)(hs:s.size≤1000000)(h0:0<s.size)(hb:240≤bat (bys s) 0∧bat (bys s) 0<248):
  Calls Tryz.prog 197 #[.string s] w (FirstOut w (decodeL (bys s))):=by
 have HB:=h_ hb;have hb0:=bat_get s 0 h0;obtain⟨C,hC⟩:∃C,bat (bys s) 0=C:=⟨_,rfl⟩;rw[hC] at hb0 hb;have HC:=h_ hC;have b1:(240:Int)≤(C:Int):=by omega
 have b2:(C:Int)<248:=by omega
 clear hC hb
 by_cases hsz:s.size<4
 ·have hd:decide ((s.size:Int)<4)=true:=by simp;omega
  have HR:Hid (decodeL (bys s)=(65533,1)):=by
   refine dec4_no HB.out 3 ⟨by omega,by omega⟩ λht=>?_
   have:=tl_len ht;rw[←size_bys] at this;omega
  go_enter Tryz.func197,Tryz.ntmps197;go_wp2
  go_ret2
  refine⟨?_,rfl⟩;rw[HR.out];rfl
 have hd:decide ((s.size:Int)<4)=false:=by simp;omega
 go_enter Tryz.func197,Tryz.ntmps197;go_wp2
 go_loop [6,8] (λr i=>∃k:Nat,1≤k∧k≤4∧i=.int .i64 k∧r=.int .i32 (accF (C - 240) (bys s) k)∧∀j,1≤j∧j<k→isTl (bys s) j) (λ_ i=>4 - (intOf i).toNat)
 case atStart=>exact⟨1,by omega,by omega,rfl,by rw[accF_one];go_num,λj hj=>by omega⟩
 case round=>
  obtain⟨k,hk1,hk2,rfl,rfl,hall⟩:=hrel;have HA:=h_ hall;clear hall
  by_cases hlt:k<4
  ·have hks:k<s.size:=by omega
   have hbk:=bat_get s k hks;obtain⟨T,hT⟩:∃T,bat (bys s) k=T:=⟨_,rfl⟩;have hT256:=bat_lt (bys s) k;rw[hT] at hbk hT256
   by_cases ht:128≤T∧T<192
   ·have HS:Hid (accF (C - 240) (bys s) (k+1)=accF (C - 240) (bys s) k * 64+(T - 128)):=by unfold Hid;rw[accF_succ _ _ k hk1,hT]
    have hle:=accF_le (C - 240) (bys s) (by omega) k (by omega)
    have HT:Hid (∀j,1≤j∧j<k+1→isTl (bys s) j):=λj hj=>by
     by_cases e:j=k
     ·subst e
      unfold isTl;omega
     ·exact HA.out j (by omega)
    have hdt:decide (128≤(T:Int)∧(T:Int)<192)=true:=by simp;omega
    have t1:(128:Int)≤(T:Int):=by omega
    have KT:=rtail_any (T:Int);rw[hdt] at KT;clear hT ht hdt;generalize accF (C - 240) (bys s) k=Acc at *;go_wp2_with (go_at_call 216;refine(KT _).mono ?_;rintro e w' ⟨rfl,rfl⟩)
    go_round
    case rel=>exact⟨k+1,by omega,by omega,by go_num,by rw[HS.out];go_num,HT.out⟩
    case measure=>simp[intOf];omega
   ·have HR:Hid (decodeL (bys s)=(65533,1)):=dec4_no HB.out k ⟨hk1,hlt⟩ (by unfold isTl;omega)
    have hdt:decide (128≤(T:Int)∧(T:Int)<192)=false:=by simp;omega
    have KT:=rtail_any (T:Int);rw[hdt] at KT;clear hT ht hdt;go_wp2_with (go_at_call 216;refine(KT _).mono ?_;rintro e w' ⟨rfl,rfl⟩)
    go_ret2
    refine⟨?_,rfl⟩;rw[HR.out];rfl
  ·obtain rfl:k=4:=by omega
   have hdec:=dec4_yes HB.out HA.out;rw[HC.out] at hdec;have hle:=accF_le (C - 240) (bys s) (by omega) 4 (by omega);obtain⟨Acc,hAcc⟩:∃Acc,accF (C - 240) (bys s) 4=Acc:=⟨_,rfl⟩;rw[hAcc] at hdec hle;have HD:=h_ hdec;have HAcc:=h_ hAcc;clear hdec
   by_cases hbad:Acc<65536∨1114111<Acc∨(55296≤Acc∧Acc≤57343)
   ·have HR:Hid (decodeL (bys s)=(65533,1)):=by
     unfold Hid;rw[HD.out,outOf,if_pos hbad]
    have HBad:=h_ hbad;clear hbad;go_wp2
    all_goals first
     | (go_ret2
        refine⟨?_,rfl⟩;rw[HR.out]
        rfl)
     | (exfalso;have:=HBad.out;simp_all;done)
     | (exfalso;have:=HBad.out;simp_all;omega)
   ·have HR:Hid (decodeL (bys s)=(Acc,4)):=by
     unfold Hid;rw[HD.out,outOf,if_neg hbad]
    have d0:(65536:Int)≤(Acc:Int):=by omega
    have d2:(Acc:Int)≤1114111:=by omega
    have d3:¬(Acc:Int)≤57343:=by omega
    clear hle;have HBad:=h_ hbad;clear hbad;go_wp2
    all_goals first
     | (exfalso;have:=HBad.out;simp_all;done)
     | (exfalso;have:=HBad.out;simp_all;omega)
     | (go_ret2
        refine⟨?_,rfl⟩;rw[HR.out];rfl)
theorem First_any(s:ByteArray)(w:World)(hs:s.size≤1000000)(h0:0<s.size):
  Calls Tryz.prog 197 #[.string s] w (FirstOut w (decodeL (bys s))):=by
 by_cases h2:192≤bat (bys s) 0∧bat (bys s) 0<224
 ·exact First2 s w hs h0 h2
 by_cases h3:224≤bat (bys s) 0∧bat (bys s) 0<240
 ·exact First3 s w hs h0 h3
 by_cases h4:240≤bat (bys s) 0∧bat (bys s) 0<248
 ·exact First4 s w hs h0 h4
 have hb0:=bat_get s 0 h0
 by_cases h1:bat (bys s) 0<128
 ·have HR:=h_ (dec1 h1)
  generalize bat (bys s) 0=C at *;clear h2 h3 h4;go_enter Tryz.func197,Tryz.ntmps197;go_wp2
  all_goals first
   | (go_ret2
      refine⟨?_,rfl⟩;rw[HR.out]
      done)
   | (go_ret2
      refine⟨?_,rfl⟩;rw[HR.out]
      rfl)
   | (exfalso;omega)
 ·have HR:=h_ (decBad (l:=bys s) (by omega))
  generalize bat (bys s) 0=C at *;have HH:Hid ((128≤C∧C<192)∨248≤C):=by unfold Hid;omega
  clear h2 h3 h4;go_enter Tryz.func197,Tryz.ntmps197;go_wp2
  all_goals first
   | (go_ret2
      refine⟨?_,rfl⟩;rw[HR.out]
      rfl)
   | (exfalso;have:=HH.out;simp_all;done)
   | (exfalso;have:=HH.out;simp_all;omega)
def rvs(l:List Nat):List Value:=l.map λ(r:Nat)=>Value.int .i32 (r:Int)
theorem rvs_append(a b:List Nat):rvs (a++b)=rvs a++rvs b:=by simp[rvs]
theorem rvs_at(l:List Nat)(k:Nat)(h:k<l.length):(rvs l)[k]? =some (.int .i32 (l[k]:Int)):=by simp[rvs,List.getElem?_eq_getElem h]
theorem elemR:ElemOk Tryz.prog 206 21 4:=⟨Tryz.underlying206,⟨.int .i32 0,by kernel_rfl,rfl⟩⟩
theorem elemB:ElemOk Tryz.prog 173 5 1:=⟨Tryz.underlying173,⟨.int .u8 0,by kernel_rfl,rfl⟩⟩
theorem elemS:ElemOk Tryz.prog 80 9 16:=⟨Tryz.underlying80,⟨.string ⟨#[]⟩,by kernel_rfl,rfl⟩⟩
theorem RowIn.ne_row{e e':TypeId}{w0 w0' w1:World}{v v':Value}{n n':Nat}{xs xs':List Value}(h:RowIn e w0 w1 v n xs)(h':RowIn e' w0' w1 v' n' xs')(hne:e≠e'){k:Nat}(hk:v.ownBlock=some k):v'.ownBlock≠some k:=by
 rcases h.own.2 with ⟨rfl,_⟩ | ⟨g,cap,cur,rfl,_,hh,_⟩
 ·simp[Value.ownBlock] at hk
 ·have:g=k:=by simpa [Value.ownBlock] using hk
  subst this;exact h'.ne_blk (t:=e) (cs:=cur) hh (Ne.symm hne)
def RunesOut(w:World)(l:List Nat)(e:Ending)(w':World):Prop:=
 ∃A c,e=.returned (.slice A l.length c)∧RowIn 21 w w' (.slice A l.length c) l.length (rvs l)
def strLen:Value→Nat | .string s=>s.size | _=>0
theorem bys_cut(s:ByteArray)(k:Nat):bys (s.extract k s.size)=(bys s).drop k:=by
 show (s.extract k s.size).data.toList=_
 rw[extract_data];exact List.take_of_length_le (by rw[List.length_drop,size_bys];exact Nat.le_refl _)
theorem Runes_any(s:ByteArray)(w:World)(hs:s.size≤1000000):
  Calls Tryz.prog 194 #[.string s] w (RunesOut w (runesD (bys s))):=by
 go_enter Tryz.func194,Tryz.ntmps194;go_wp2
 go_loopw [0,3] (λsv v wr=>∃(x:ByteArray) (done:List Nat),sv=.string x∧x.size+done.length≤s.size∧RowIn 21 w wr v done.length (rvs done)∧done++runesD (bys x)=runesD (bys s)) (λsv _ _=>strLen sv)
 case atStart=>exact⟨s,[],rfl,by simp,RowIn.nil_ _ (Frm.refl _ _),rfl⟩
 case round=>
  obtain⟨x,done,rfl,hx,hrow,hd⟩:=hrel;have HD:=h_ hd;have HR:=h_ hrow;obtain⟨A,c,rfl,-,-,-,-⟩:=hrow.shape;clear hd hrow
  by_cases h0:0<x.size
  ·have hne:bys x≠[]:=λe=>by
    have h1:(bys x).length=0:=by rw[e];rfl
    rw[←size_bys] at h1;omega
   have hle:=decodeL_le _ hne;have hw:=decodeL_width (bys x);rw[←size_bys] at hle;have hstep:=runesD_step (bys x) hne;have kf:=First_any x wr (by omega) h0;obtain⟨R,K,hRK⟩:∃R K,decodeL (bys x)=(R,K):=⟨_,_,rfl⟩;rw[hRK] at hle hw hstep kf;simp only at hle hw hstep;have HStep:=h_ hstep;have KF:=h_ kf;have HCut:=h_ (bys_cut x K);obtain⟨v2,w2,hrun,hrow2,-,-⟩:=HR.out.push elemR (.int .i32 (R:Int)) rfl (by unfold maxLen;omega) (by omega);have HR2:=h_ hrow2;clear hrow2 hstep kf hRK;have hk0:(0:Int)≤(K:Int):=Int.natCast_nonneg _;have hk1:(K:Int)≤(x.size:Int):=by omega
   have hx0:decide ((0:Int)<(x.size:Int))=true:=by simp;omega
   go_wp2_with (first
    | (go_at_call 197;refine KF.out.mono ?_;rintro e w' ⟨rfl,rfl⟩)
    | (at_builtin;refine wpList_append_run hrun rfl _ _ rfl rfl rfl ?_))
   go_roundw
   case rel=>
    refine⟨x.extract K x.size,done++[R],rfl,?_,?_,?_⟩
    ·have:(x.extract K x.size).size=x.size - K:=by rw[size_bys,HCut.out,List.length_drop,←size_bys]
     rw[this,List.length_append,List.length_singleton];omega
    ·rw[List.length_append,List.length_singleton,rvs_append]
     exact HR2.out
    ·rw[HCut.out,←HD.out,HStep.out]
     simp
   case measure=>
    have:(x.extract K x.size).size=x.size - K:=by rw[size_bys,HCut.out,List.length_drop,←size_bys]
    simp only[strLen,this];omega
  ·have h1:(bys x).length=0:=by
    have:=size_bys x;omega
   have hz:bys x=[]:=List.eq_nil_of_length_eq_zero h1
   have HE:Hid (done=runesD (bys s)):=by
    have:=HD.out;rw[hz,runesD_nil,List.append_nil] at this;exact this
   have hx0:decide ((0:Int)<(x.size:Int))=false:=decide_eq_false (by omega);clear hz h1;go_wp2;go_ret;rw[←HE.out];exact⟨A,c,rfl,HR.out⟩
theorem encodeRuneZ_cells(r:Int):runeCells r=(encodeRuneZ r).map λx=>Value.int .u8 x:=rfl
theorem one_any(r:Nat)(hv:Vr r)(w:World):
  Calls Tryz.prog 215 #[.int .i32 r] w λe w'=>e=.returned (.slice (some ⟨w.heap.size,0,none⟩) (runeCells r).length (runeCells r).length)∧w'=w.alloc (.cells (runeCells r).toArray 5):=by
 unfold Vr at hv;have d1:¬(r:Int)<0:=by omega
 have d2:¬(1114111:Int)<(r:Int):=by omega
 by_cases c1:r≤127
 ·have e:=encodeRuneZ_one (r:=(r:Int)) (by omega) (by omega)
  rw[encodeRuneZ_cells,e];go_enter Tryz.func215,Tryz.ntmps215;go_wp2;go_ret;exact⟨rfl,rfl⟩
 by_cases c2:r≤2047
 ·have e:=encodeRuneZ_two (r:=(r:Int)) (by omega) (by omega)
  rw[encodeRuneZ_cells,e];go_enter Tryz.func215,Tryz.ntmps215;go_wp2;go_ret;exact⟨rfl,rfl⟩
 by_cases c3:r≤65535
 ·have e:=encodeRuneZ_three (r:=(r:Int)) (by omega)
  rw[encodeRuneZ_cells,e];have b1:(2048:Int)≤(r:Int):=by omega
  have b2:(r:Int)≤65535:=by omega
  have hs:(r:Int)<55296∨(57344:Int)≤(r:Int):=by omega
  generalize (r:Int)=R at *;obtain⟨x,hx⟩:∃x,R / 4096=x:=⟨_,rfl⟩;obtain⟨Q,hQ⟩:∃Q,R / 64=Q:=⟨_,rfl⟩;obtain⟨y,hy⟩:∃y,Q % 64=y:=⟨_,rfl⟩;obtain⟨z,hz⟩:∃z,R % 64=z:=⟨_,rfl⟩;rw[hx,hQ,hy,hz];have x0:0≤x:=by omega
  have x1:x≤15:=by omega
  have q0:0≤Q:=by omega
  have q1:Q≤1024:=by omega
  have y0:0≤y:=by omega
  have y1:y≤63:=by omega
  have z0:0≤z:=by omega
  have z1:z≤63:=by omega
  clear c1 c2 c3 hv e d2 d1;rcases hs with b3 | b3
  ·go_enter Tryz.func215,Tryz.ntmps215
   go_wp2;go_ret;exact⟨rfl,rfl⟩
  ·go_enter Tryz.func215,Tryz.ntmps215
   go_wp2;go_ret;exact⟨rfl,rfl⟩
 ·have e:=encodeRuneZ_four (r:=(r:Int)) (by omega) (by omega)
  rw[encodeRuneZ_cells,e];have d3:(65536:Int)≤(r:Int):=by omega
  have d4:(r:Int)≤1114111:=by omega
  generalize (r:Int)=R at *;obtain⟨x,hx⟩:∃x,R / 262144=x:=⟨_,rfl⟩;obtain⟨Q,hQ⟩:∃Q,R / 64=Q:=⟨_,rfl⟩;obtain⟨T,hT⟩:∃T,R / 4096=T:=⟨_,rfl⟩;obtain⟨y,hy⟩:∃y,Q % 64=y:=⟨_,rfl⟩;obtain⟨u,hu⟩:∃u,T % 64=u:=⟨_,rfl⟩;obtain⟨z,hz⟩:∃z,R % 64=z:=⟨_,rfl⟩;rw[hx,hQ,hT,hy,hu,hz];have x0:0≤x:=by omega
  have x1:x≤4:=by omega
  have q0:0≤Q:=by omega
  have q1:Q≤20000:=by omega
  have t0:0≤T:=by omega
  have t1:T≤300:=by omega
  have y0:0≤y:=by omega
  have y1:y≤63:=by omega
  have u0:0≤u:=by omega
  have u1:u≤63:=by omega
  have z0:0≤z:=by omega
  have z1:z≤63:=by omega
  clear c1 c2 c3 hv e d2 d1;go_enter Tryz.func215,Tryz.ntmps215;go_wp2;go_ret;exact⟨rfl,rfl⟩
theorem str_of{w:World}{G:Nat→Prop}{A:Option Addr}{n c:Nat}{l:List UInt8}(hr:Rd w G 1 A n (byteCells l)):(convert 173 9 (.slice A n c)).run Tryz.prog w=.ok (.string (ofB l)) w:=by
 have hl:l.length=n:=by have:=hr.1;rw[byteCells_length] at this;omega
 subst hl;rcases A with _ | ad
 ·have h0:l=[]:=by
   rcases l with _ | ⟨a,l⟩
   ·rfl
   ·obtain⟨ad,h,-⟩:=hr.2 (by simp)
    cases h
  subst h0;exact run_convert_bytes_nil w 173 5 Tryz.underlying173 Tryz.underlying5 0 c 9 Tryz.underlying9
 ·refine run_convert_bytes_back w 173 9 5 ad c l Tryz.underlying173 Tryz.underlying5 Tryz.underlying9 λj hj=>?_
  obtain⟨ad',e,-,-,hc⟩:=hr.2 (by omega);injection e with e;subst e;exact hc j _ (by simp[byteCells,List.getElem?_eq_getElem hj])
theorem byteCells_one(l:List UInt8):∀u∈byteCells l,u.oneCell'=true:=by
 intro u hu;obtain⟨x,-,rfl⟩:=List.mem_map.1 hu;rfl
theorem Put_any(A:Option Addr)(n c:Nat)(l:List Nat)(hv:∀r∈l,Vr r)(hl:l.length=n)(hn:n≤10000000)(G:Nat→Prop)(w:World)(hr:Rd w G 1 A n (rvs l))(hlt:∀k,G k→k<w.heap.size):
  Calls Tryz.prog 196 #[.slice A n c] w λe w'=>e=.returned (.string (ofB (enc l)))∧Frm Nix w w':=by
 have HR:=h_ hr;have HL:=h_ hl;have HV:=h_ hv;clear hr hl hv;go_enter Tryz.func196,Tryz.ntmps196;go_wp2
 go_loopw [3,4] (λv i wr=>∃k:Nat,k≤n∧i=.int .i64 k∧RowIn 5 w wr v (enc (l.take k)).length (byteCells (enc (l.take k)))) (λ_ i _=>n - (intOf i).toNat)
 case atStart=>exact⟨0,Nat.zero_le _,rfl,RowIn.nil_ _ (Frm.refl _ _)⟩
 case round=>
  obtain⟨k,hk,rfl,hrow⟩:=hrel;have HRow:=h_ hrow;obtain⟨B,c',rfl,-,-,-,-⟩:=hrow.shape;clear hrow
  by_cases hlt2:k<n
  ·have hkl:k<l.length:=by rw[HL.out];exact hlt2
   obtain⟨ad,u,rfl,hG,hla,hu,hcu⟩:=HR.out.at_ hlt2;rw[rvs_at l k hkl] at hu;injection hu with hu;subst hu;have cr:=(HRow.out.frm.cell (p:=ad.add k) (by rw[block_of_add];exact hla) id).trans hcu;have hx:=HV.out l[k] (List.getElem_mem hkl);have KO:=h_ (one_any l[k] hx wr);have hts:=enc_take_succ l k hkl;have hel:=enc_len (l.take k);have htl:=List.length_take_le k l;have hr4:=runeCells_le (l[k]:Int);have e2:byteCells (encR l[k])=runeCells (l[k]:Int):=byteCells_encodeRune _;have e3:(encR l[k]).length=(runeCells (l[k]:Int)).length:=by rw[runeCells_length];rfl
   have hrow2:=HRow.out.more ((fR wr).alloc (.cells (runeCells (l[k]:Int)).toArray 5));obtain⟨v2,w2,hrun,hrow3,-,-⟩:=hrow2.app elemB (m:=(runeCells (l[k]:Int)).length) (ys:=runeCells (l[k]:Int)) (runeCells (l[k]:Int)).length (Rd.of_obj (heap_alloc_new wr (.cells (runeCells (l[k]:Int)).toArray 5)) (runeCells (l[k]:Int)).length (by simp)) (by rw[←e2];exact byteCells_one _) (by unfold maxLen;omega) (by omega)
   have HR3:Hid (RowIn 5 w w2 v2 (enc (l.take (k+1))).length (byteCells (enc (l.take (k+1))))):=by
    unfold Hid;rw[hts,List.length_append,byteCells_append,e2,e3];exact hrow3
   have hk0:(0:Int)≤(k:Int):=Int.natCast_nonneg _;have hk1:(k:Int)<(n:Int):=by omega
   clear hts hel htl hr4 e2 e3 hrow2 hrow3 hcu hx;generalize l[k]=R at *
   go_wp2_with (first
    | (go_at_call 215;refine KO.out.mono ?_;rintro e w' ⟨rfl,rfl⟩)
    | (at_builtin;refine wpList_append_run hrun rfl _ _ rfl rfl rfl ?_))
   go_roundw
   case rel=>exact⟨k+1,by omega,by go_num,HR3.out⟩
   case measure=>simp[intOf];omega
  ·obtain rfl:k=n:=by omega
   have HS:=h_ (str_of (c:=c') HRow.out.rd);have HE:Hid (l.take k=l):=List.take_of_length_le (by rw[HL.out];exact Nat.le_refl _);have HF:=h_ HRow.out.frm;have hS:=HS.out;rw[HE.out] at hS;rw[HE.out];generalize hE:ofB (enc l)=S at *;generalize (enc l).length=N at *;have HES:=h_ hE;clear hE;go_wp2;go_ret;exact⟨by rw[HES.out];rfl,HF.out⟩
def mixR(l:List Nat)(k:Nat):List Value:=rvs (((l.take k).map foldR)++l.drop k)
theorem mixR_at(l:List Nat)(k:Nat)(h:k<l.length):(mixR l k)[k]? =some (.int .i32 (l[k]:Int)):=by
 have hl:((l.take k).map foldR).length=k:=by simp;omega
 unfold mixR rvs;rw[List.getElem?_map,List.getElem?_append_right (by omega),hl,Nat.sub_self,List.drop_eq_getElem_cons h];rfl
theorem mixR_set(l:List Nat)(k:Nat)(h:k<l.length):(mixR l k).set k (.int .i32 (foldR l[k]:Int))=mixR l (k+1):=by
 have hl:((l.take k).map foldR).length=k:=by simp;omega
 unfold mixR rvs;rw[←List.map_set (f:=λr:Nat=>Value.int .i32 (r:Int)) (a:=foldR l[k]),List.set_append_right _ _ (by omega),hl,Nat.sub_self,List.drop_eq_getElem_cons h,List.take_succ_eq_append_getElem h];simp only[List.set_cons_zero,List.map_append,List.map_cons,List.map_nil,List.append_assoc,List.singleton_append]
theorem rFold_any(s:ByteArray)(w:World)(hs:s.size≤1000000):
  Calls Tryz.prog 198 #[.string s] w λe w'=>e=.returned (.string (ofB (foldS (bys s))))∧Frm Nix w w':=by
 have hrl:=runesD_len (bys s);rw[←size_bys] at hrl;have hval:=runesD_valid (bys s);have KR:=h_ (Runes_any s w hs);have HFS:Hid (foldS (bys s)=enc ((runesD (bys s)).map foldR)):=rfl;have HV:=h_ hval;generalize runesD (bys s)=l at *;clear hval;go_enter Tryz.func198,Tryz.ntmps198;go_wp2_with fail;refine KR.out.mono ?_;rintro e w1 ⟨A,c,rfl,hrow0⟩
 have HR0:Hid (RowIn 21 w w1 (.slice A l.length c) l.length (mixR l 0)):=by
  unfold Hid;have:mixR l 0=rvs l:=by simp[mixR]
  rw[this];exact hrow0
 clear hrow0;go_wp2
 go_loopw [4] (λi wr=>∃k:Nat,k≤l.length∧i=.int .i64 k∧RowIn 21 w wr (.slice A l.length c) l.length (mixR l k)) (λi _=>l.length - (intOf i).toNat)
 case atStart=>exact⟨0,Nat.zero_le _,rfl,HR0.out⟩
 case round=>
  obtain⟨k,hk,rfl,hrow⟩:=hrel;have HRow:=h_ hrow;clear HR0
  by_cases hlt:k<l.length
  ·obtain⟨g,rfl,hcell,hfz,hrow2,-,hgl⟩:=hrow.set_ k hlt (.int .i32 (foldR l[k]:Int))
   rw[mixR_at l k hlt] at hcell;rw[mixR_set l k hlt] at hrow2;have HR2:=h_ hrow2;have hx:=HV.out l[k] (List.getElem_mem hlt);have hR:l[k]≤1114111:=by unfold Vr at hx;omega
   have KF:=rfold_any l[k] wr hR;have hk0:(0:Int)≤(k:Int):=Int.natCast_nonneg _;have hk1:(k:Int)<(l.length:Int):=by omega
   clear hrow hrow2 hx;generalize l[k]=R at *;go_wp2_with (go_at_call 217;refine KF.mono ?_;rintro e w' ⟨rfl,rfl⟩);go_roundw
   case rel=>exact⟨k+1,by omega,by go_num,HR2.out⟩
   case measure=>simp[intOf];omega
  ·obtain rfl:k=l.length:=by omega
   have e1:mixR l l.length=rvs (l.map foldR):=by simp[mixR]
   rw[e1] at hrow
   have hvl:∀r∈l.map foldR,Vr r:=λr hr=>by
    obtain⟨x,hx,rfl⟩:=List.mem_map.1 hr;exact foldR_valid (HV.out x hx)
   have KP:=h_ (Put_any A l.length c (l.map foldR) hvl (by simp) (by omega) _ wr hrow.rd (λk hk=>(hrow.own.lt k hk).2));have HF:=h_ hrow.frm;clear hrow e1 hvl;go_wp2_with fail;refine KP.out.mono ?_;rintro e w3 ⟨rfl,f3⟩;go_wp2;go_ret;exact⟨by rw[HFS.out];rfl,HF.out.trans f3⟩
section
theorem take32_lt(cur:List Nat)(r:Nat)(h:cur.length<32):(cur++[r]).take 32=cur.take 32++[r]:=by
 rw[List.take_of_length_le (by simp;omega),List.take_of_length_le (by omega)]
theorem take32_ge(cur:List Nat)(r:Nat)(h:¬cur.length<32):(cur++[r]).take 32=cur.take 32:=by
 rw[List.take_append_of_le_length (by omega)]
def svs(l:List (List Nat)):List Value:=l.map λx=>Value.string (ofB (enc x))
theorem svs_append(a b:List (List Nat)):svs (a++b)=svs a++svs b:=by simp[svs]
structure WordsTo(w2:World)(fr:List Nat)(k:Nat)(done:List (List Nat))(cur:List Nat)(o v:Value)(wr:World):Prop where
 out:RowIn 9 w2 wr o done.length (svs done)
 word:RowIn 21 w2 wr v (cur.take 32).length (rvs (cur.take 32))
 eq:done++(splitW cur (fr.drop k)).map (·.take 32)=wordsR fr
 end_:k=fr.length+1→cur=[]
 val:∀r∈cur,Vr r
section
variable {w2 wr w3 w4:World} {fr:List Nat} {k:Nat} {done:List (List Nat)} {cur:List Nat} {o v v':Value}
theorem WordsTo.letter(h:WordsTo w2 fr k done cur o v wr)(hk:k<fr.length)(hl:letterR fr[k]=true)(hv:Vr fr[k])(h32:cur.length<32)(h1:RowIn 21 w2 w3 v' ((cur.take 32).length+1) (rvs (cur.take 32)++[.int .i32 (fr[k]:Int)]))(hf:Frm (λk=>v.ownBlock=some k) wr w3):
  WordsTo w2 fr (k+1) done (cur++[fr[k]]) o v' w3:=by
 refine⟨h.out.far hf (λi hi=>(h.word.own.lt i hi).1) (λi hi hj=>h.word.ne_row h.out (by decide) hj hi),?_,?_,λe=>by omega,λr hr=>?_⟩
 ·rw[take32_lt _ _ h32,List.length_append,rvs_append]
  exact h1
 ·rw[←h.eq,List.drop_eq_getElem_cons hk]
  simp only[splitW,hl,if_true]
 ·rcases List.mem_append.1 hr with hr | hr
  ·exact h.val r hr
  ·simp at hr
   rw[hr];exact hv
theorem WordsTo.over(h:WordsTo w2 fr k done cur o v wr)(hk:k<fr.length)(hl:letterR fr[k]=true)(hv:Vr fr[k])(h32:¬cur.length<32):WordsTo w2 fr (k+1) done (cur++[fr[k]]) o v wr:=by
 refine⟨h.out,?_,?_,λe=>by omega,λr hr=>?_⟩
 ·rw[take32_ge _ _ h32]
  exact h.word
 ·rw[←h.eq,List.drop_eq_getElem_cons hk]
  simp only[splitW,hl,if_true]
 ·rcases List.mem_append.1 hr with hr | hr
  ·exact h.val r hr
  ·simp at hr
   rw[hr];exact hv
theorem splitW_at(fr:List Nat)(k:Nat)(cur:List Nat)(h:(∀hk:k<fr.length,letterR fr[k]=false)):splitW cur (fr.drop k)=(if cur=[] then [] else [cur])++splitW [] (fr.drop (k+1)):=by
 by_cases hk:k<fr.length
 ·rw[List.drop_eq_getElem_cons hk]
  simp[splitW,h hk]
 ·rw[List.drop_eq_nil_iff.2 (by omega),List.drop_eq_nil_iff.2 (by omega)]
  simp[splitW]
theorem WordsTo.ends(h:WordsTo w2 fr k done cur o v wr)(hk:∀hk:k<fr.length,letterR fr[k]=false)(hc:cur≠[])(h1:RowIn 9 w2 w3 v' (done.length+1) (svs done++[.string (ofB (enc (cur.take 32)))])):
  WordsTo w2 fr (k+1) (done++[cur.take 32]) [] v' (.slice none 0 0) w3:=by
 refine⟨by rw[List.length_append,svs_append];exact h1,RowIn.nil_ _ h1.frm,?_,λ_=>rfl,λ_ h=>by cases h⟩;rw[←h.eq,splitW_at fr k cur hk,if_neg hc];simp
theorem WordsTo.none_(h:WordsTo w2 fr k done cur o v wr)(hk:∀hk:k<fr.length,letterR fr[k]=false)(hc:cur=[]):WordsTo w2 fr (k+1) done cur o v wr:=by
 refine⟨h.out,h.word,?_,λ_=>hc,h.val⟩;rw[←h.eq,splitW_at fr k cur hk,if_pos hc,hc];simp
theorem WordsTo.all(h:WordsTo w2 fr (fr.length+1) done cur o v wr):done=wordsR fr:=by
 have:=h.eq;rw[h.end_ rfl,List.drop_eq_nil_iff.2 (by omega)] at this
 simpa [splitW] using this
end
theorem rWords_any(s:ByteArray)(w:World)(hs:s.size≤200000):
  Calls Tryz.prog 156 #[.string s] w (StrsOut w (wordsB s)):=by
 have hfl:=enc_len (folds (bys s));have hrl:=runesD_len (bys s);have hfn:(folds (bys s)).length=(runesD (bys s)).length:=by simp[folds]
 rw[←size_bys] at hrl
 have hsz:(ofB (foldS (bys s))).size≤1000000:=by
  rw[size_bys,bys_ofB];unfold foldS;omega
 have hlen:(folds (bys s)).length≤200000:=by omega
 have KF:=h_ (rFold_any s w (by omega));have KR:=λW=>Runes_any (ofB (foldS (bys s))) W hsz
 rw[show bys (ofB (foldS (bys s)))=enc (folds (bys s)) from rfl,runesD_enc' _ (folds_valid _)] at KR;have hwb:wordsB s=(wordsR (folds (bys s))).map λx=>ofB (enc x):=by simp[wordsB,wordsL,ofB]
 have hval:=folds_valid (bys s);generalize folds (bys s)=fr at *;generalize ofB (foldS (bys s))=S at *;have HKR:=h_ KR;have HW:=h_ hwb;have HV:=h_ hval;clear KR hwb hval hfl hrl hfn;go_enter Tryz.func156,Tryz.ntmps156;go_wp2_with fail;refine KF.out.mono ?_;rintro e w1 ⟨rfl,f1⟩;go_wp2_with fail;refine(HKR.out w1).mono ?_;rintro e w2 ⟨B,cB,rfl,hrow0⟩;have HL:=h_ hrow0;have HF2:=h_ (f1.trans hrow0.frm);have hst:Hid (WordsTo w2 fr 0 [] [] (.slice none 0 0) (.slice none 0 0) w2):=⟨RowIn.nil_ _ (Frm.refl _ _),RowIn.nil_ _ (Frm.refl _ _),rfl,λ_=>rfl,λ_ h=>by cases h⟩;clear hrow0 f1 HKR KF;go_wp2
 go_loopw [4,5,6] (λo v i wr=>∃(k:Nat) (done:List (List Nat)) (cur:List Nat),k≤fr.length+1∧i=.int .i64 k∧done.length≤k∧WordsTo w2 fr k done cur o v wr) (λ_ _ i _=>fr.length+1 - (intOf i).toNat)
 case atStart=>exact⟨0,[],[],by omega,rfl,Nat.le_refl _,hst.out⟩
 case round=>
  obtain⟨k,done,cur,hk,rfl,hdk,ht⟩:=hrel;have HT:=h_ ht;obtain⟨oA,oc,rfl,-,-,-,-⟩:=ht.out.shape;obtain⟨vA,vc,rfl,-,-,-,-⟩:=ht.word.shape;have hcl:=List.length_take_le 32 cur;have hcm:(cur.take 32).length=min 32 cur.length:=List.length_take;clear ht hst
  by_cases hlt:k<fr.length
  ·obtain⟨ad,u,hBA,-,hla,hu,hcu⟩:=HL.out.rd.at_ hlt
   subst hBA;rw[rvs_at fr k hlt] at hu;injection hu with hu;subst hu;have hx:=HV.out fr[k] (List.getElem_mem hlt);have hR:fr[k]≤1114111:=by unfold Vr at hx;omega
   have HX:=h_ hx;have cr:=(HT.out.out.frm.cell (p:=ad.add k) (by rw[block_of_add];exact hla) id).trans hcu;have KLt:=rletter_any fr[k] wr hR;have hk0:(0:Int)≤(k:Int):=Int.natCast_nonneg _;have hk1:(k:Int)<(fr.length:Int):=by omega
   rcases(by cases letterR fr[k]<;>simp:letterR fr[k]=true∨letterR fr[k]=false) with hlr | hlr
   ·rw[hlr] at KLt
    by_cases h32:cur.length<32
    ·obtain⟨v2,w3,hrun,hrow3,hf3,-⟩:=HT.out.word.push elemR (.int .i32 (fr[k]:Int)) rfl (by unfold maxLen;omega) (by omega)
     have hff:Frm (λk=>(Value.slice vA (cur.take 32).length vc).ownBlock=some k) wr w3:=((fR wr).alloc _).nix.trans hf3;have HN:=h_ (HT.out.letter hlt hlr hx h32 hrow3 hff);have d32:decide (((cur.take 32).length:Int)<32)=true:=by rw[decide_eq_true_eq];omega
     clear hrow3 hf3 hff hx hlr hcu;obtain⟨R,hR2⟩:∃R,fr[k]=R:=⟨_,rfl⟩;rw[hR2] at KLt cr hrun;clear hR2;clear hcl hcm;generalize (cur.take 32).length=CL at *
     go_wp2_with (first
      | (go_at_call 199;refine KLt.mono ?_;rintro e w' ⟨rfl,rfl⟩)
      | (at_builtin;refine wpList_append_run hrun rfl _ _ rfl rfl rfl ?_))
     go_roundw
     case rel=>exact⟨k+1,done,_,by omega,by go_num,by omega,HN.out⟩
     case measure=>simp[intOf];omega
    ·have HN:=h_ (HT.out.over hlt hlr hx h32)
     have d32:decide (((cur.take 32).length:Int)<32)=false:=by rw[decide_eq_false_iff_not];omega
     clear hx hlr hcu;obtain⟨R,hR2⟩:∃R,fr[k]=R:=⟨_,rfl⟩;rw[hR2] at KLt cr;clear hR2;clear hcl hcm;generalize (cur.take 32).length=CL at *;go_wp2_with (go_at_call 199;refine KLt.mono ?_;rintro e w' ⟨rfl,rfl⟩);go_roundw
     case rel=>exact⟨k+1,done,_,by omega,by go_num,by omega,HN.out⟩
     case measure=>simp[intOf];omega
   ·rw[hlr] at KLt
    have HLr:Hid (∀hk:k<fr.length,letterR fr[k]=false):=λ_=>hlr
    clear hx hlr hcu;obtain⟨R,hR2⟩:∃R,fr[k]=R:=⟨_,rfl⟩;rw[hR2] at KLt cr;clear hR2
    by_cases hc:cur=[]
    ·have HN:=h_ (HT.out.none_ HLr.out hc)
     clear hcl hcm;subst hc;simp only[List.take_nil,List.length_nil] at HN ⊢;go_wp2_with (go_at_call 199;refine KLt.mono ?_;rintro e w' ⟨rfl,rfl⟩);go_roundw
     case rel=>exact⟨k+1,done,_,by omega,by go_num,by omega,HN.out⟩
     case measure=>simp[intOf];omega
    ·have hcp:0<cur.length:=List.length_pos_iff.2 hc
     have KP:=h_ (Put_any vA (cur.take 32).length vc (cur.take 32) (λr hr=>HT.out.val r (List.mem_of_mem_take hr)) rfl (by omega) _ wr HT.out.word.rd (λi hi=>(HT.out.word.own.lt i hi).2));have HE:=λw3 (f:Frm Nix wr w3)=>(HT.out.out.more f).push elemS (.string (ofB (enc (cur.take 32)))) rfl (by unfold maxLen;omega) (by omega)
     have HC:=h_ hc;have n0:0<(cur.take 32).length:=by omega
     have HEE:=h_ HE;clear hc HE;obtain⟨X,hX⟩:∃X,ofB (enc (cur.take 32))=X:=⟨_,rfl⟩;have HXX:=h_ hX;rw[hX] at KP HEE;clear hX;clear hcl hcm;generalize (cur.take 32).length=CL at *
     go_wp2_with (first
      | (go_at_call 199;refine KLt.mono ?_;rintro e w' ⟨rfl,rfl⟩)
      | (go_at_call 196;refine KP.out.mono ?_;rintro e w3 ⟨rfl,f3⟩;obtain⟨o2,w4,hrun,hrow4,-,-⟩:=HEE.out w3 f3;have HN:=h_ (HT.out.ends HLr.out HC.out (by rw[HXX.out];exact hrow4));clear hrow4 f3)
      | (at_builtin;refine wpList_append_run hrun rfl _ _ rfl rfl rfl ?_))
     go_roundw
     case rel=>exact⟨k+1,_,_,by omega,by go_num,by simp;omega,HN.out⟩
     case measure=>simp[intOf];omega
  ·by_cases hend:k=fr.length+1
   ·subst hend
    have HE:=h_ HT.out.all;clear hcl hcm;generalize (cur.take 32).length=CL at *;go_wp2;go_ret;refine⟨oA,oc,?_,?_⟩
    ·rw[HW.out,List.length_map,←HE.out]
     rfl
    ·rw[HW.out,List.length_map,←HE.out,List.map_map]
     exact HT.out.out.since HF2.out
   ·obtain rfl:k=fr.length:=by omega
    have HLr:Hid (∀hk:fr.length<fr.length,letterR fr[fr.length]=false):=λh=>absurd h (Nat.lt_irrefl _)
    have hk1:decide ((fr.length:Int)≤(fr.length:Int))=true:=by simp
    have hk2:decide ((fr.length:Int)<(fr.length:Int))=false:=by simp
    by_cases hc:cur=[]
    ·have HN:=h_ (HT.out.none_ HLr.out hc)
     clear hcl hcm;subst hc;simp only[List.take_nil,List.length_nil] at HN ⊢;go_wp2;go_roundw
     case rel=>exact⟨fr.length+1,done,_,by omega,by first | rfl | go_num,by omega,HN.out⟩
     case measure=>simp[intOf]
    ·have hcp:0<cur.length:=List.length_pos_iff.2 hc
     have KP:=h_ (Put_any vA (cur.take 32).length vc (cur.take 32) (λr hr=>HT.out.val r (List.mem_of_mem_take hr)) rfl (by omega) _ wr HT.out.word.rd (λi hi=>(HT.out.word.own.lt i hi).2));have HE:=λw3 (f:Frm Nix wr w3)=>(HT.out.out.more f).push elemS (.string (ofB (enc (cur.take 32)))) rfl (by unfold maxLen;omega) (by omega)
     have HC:=h_ hc;have n0:0<(cur.take 32).length:=by omega
     have HEE:=h_ HE;clear hc HE;obtain⟨X,hX⟩:∃X,ofB (enc (cur.take 32))=X:=⟨_,rfl⟩;have HXX:=h_ hX;rw[hX] at KP HEE;clear hX;clear hcl hcm;generalize (cur.take 32).length=CL at *
     go_wp2_with (first
      | (go_at_call 196;refine KP.out.mono ?_;rintro e w3 ⟨rfl,f3⟩;obtain⟨o2,w4,hrun,hrow4,-,-⟩:=HEE.out w3 f3;have HN:=h_ (HT.out.ends HLr.out HC.out (by rw[HXX.out];exact hrow4));clear hrow4 f3)
      | (at_builtin;refine wpList_append_run hrun rfl _ _ rfl rfl rfl ?_))
     go_roundw
     case rel=>exact⟨fr.length+1,_,_,by omega,by first | rfl | go_num,by simp;omega,HN.out⟩
     case measure=>simp[intOf]
end
end Go.Proofs.YtaecjmiobllhmaaGreat
