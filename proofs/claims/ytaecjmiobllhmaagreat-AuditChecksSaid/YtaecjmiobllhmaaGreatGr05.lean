/- Words. -/
import Derived.Test.YtaecjmiobllhmaaGreatGr04
set_option linter.unusedVariables false
set_option linter.unusedSimpArgs false
set_option maxRecDepth 100000
set_option maxHeartbeats 16000000
namespace Go.Proofs.YtaecjmiobllhmaaGreat
open Go.Value renaming int→I,string→V,slice→U
open Go.IntKind renaming i64→J
open Tryz renaming prog→pQ
open Go.RowKit Go.Lib
def sS(w:World)(x:Nat×Nat)(e:Ending)(w':World):Prop:=e=.returned (.tuple #[.int .i32 x.1,I J x.2])∧w=w'
theorem qd(s:ByteArray)(k:Nat)(h:k<s.size):(s[k]'h).toNat=kr (aU s) k:=by
 unfold kr;rw[List.getD_eq_getElem?_getD,List.getElem?_eq_getElem (by rw[←bg];exact h)];rfl
theorem LO(s:ByteArray)(w:World)(hs:s.size≤1000000)(h0:0<s.size)(hb:192≤kr (aU s) 0∧kr (aU s) 0<224):
  Calls pQ 197 #[V s] w (sS w (decodeL (aU s))):=by
 have HB:=h_ hb;have hb0:=qd s 0 h0;obtain⟨C,hC⟩:∃C,kr (aU s) 0=C:=⟨_,rfl⟩;rw[hC] at hb0 hb;have HC:=h_ hC;have b1:(192:Int)≤(C:Int):=by omega
 have b2:(C:Int)<224:=by omega
 clear hC hb
 by_cases hsz:s.size<2
 ·have hd:decide ((s.size:Int)<2)=true:=by simp;omega
  have HR:Hid (decodeL (aU s)=(65533,1)):=by
   refine D9 HB.out 1 ⟨by omega,by omega⟩ λht=>?_
   have:=tV ht;rw[←bg] at this;omega
  go_enter Tryz.func197,Tryz.ntmps197;go_wp2
  go_ret2
  refine⟨?_,rfl⟩;rw[HR.out];rfl
 have hd:decide ((s.size:Int)<2)=false:=by simp;omega
 go_enter Tryz.func197,Tryz.ntmps197;go_wp2
 go_loop [6,8] (λr i=>∃k:Nat,1≤k∧k≤2∧i=I J k∧r=.int .i32 (mX (C-192) (aU s) k)∧∀j,1≤j∧j<k→ml (aU s) j) (λ_ i=>2-(intOf i).toNat)
 case atStart=>exact⟨1,by omega,by omega,rfl,by rw[pM];go_num,λj hj=>by omega⟩
 case round=>
  obtain⟨k,vh,hk2,rfl,rfl,hall⟩:=hrel;have HA:=h_ hall;clear hall
  by_cases hlt:k<2
  ·have NJ:k<s.size:=by omega
   have tX:=qd s k NJ;obtain⟨T,hT⟩:∃T,kr (aU s) k=T:=⟨_,rfl⟩;have Ai:=r9 (aU s) k;rw[hT] at tX Ai
   by_cases ht:128≤T∧T<192
   ·have HS:Hid (mX (C-192) (aU s) (k+1)=mX (C-192) (aU s) k * 64+(T-128)):=by unfold Hid;rw[kE _ _ k vh,hT]
    have hle:=ry (C-192) (aU s) (by omega) k (by omega)
    have HT:Hid (∀j,1≤j∧j<k+1→ml (aU s) j):=λj hj=>by
     by_cases e:j=k
     ·subst e
      unfold ml;omega
     ·exact HA.out j (by omega)
    have Aj:decide (128≤(T:Int)∧(T:Int)<192)=true:=by simp;omega
    have t1:(128:Int)≤(T:Int):=by omega
    have KT:=nA (T:Int);rw[Aj] at KT;clear hT ht Aj;generalize mX (C-192) (aU s) k=Acc at *;go_wp2_with (go_at_call 216;refine(KT _).mono ?_;rintro e w' ⟨rfl,rfl⟩)
    go_round
    case rel=>exact⟨k+1,by omega,by omega,by go_num,by rw[HS.out];go_num,HT.out⟩
    case measure=>simp[intOf];omega
   ·have HR:Hid (decodeL (aU s)=(65533,1)):=D9 HB.out k ⟨vh,hlt⟩ (by unfold ml;omega)
    have Aj:decide (128≤(T:Int)∧(T:Int)<192)=false:=by simp;omega
    have KT:=nA (T:Int);rw[Aj] at KT;clear hT ht Aj;go_wp2_with (go_at_call 216;refine(KT _).mono ?_;rintro e w' ⟨rfl,rfl⟩)
    go_ret2
    refine⟨?_,rfl⟩;rw[HR.out];rfl
  ·obtain rfl:k=2:=by omega
   have hdec:=GG HB.out HA.out;rw[HC.out] at hdec;have hle:=ry (C-192) (aU s) (by omega) 2 (by omega);obtain⟨Acc,Ak⟩:∃Acc,mX (C-192) (aU s) 2=Acc:=⟨_,rfl⟩;rw[Ak] at hdec hle;have HD:=h_ hdec;have EE:=h_ Ak;clear hdec
   by_cases nh:Acc<128∨1114111<Acc∨(55296≤Acc∧Acc≤57343)
   ·have HR:Hid (decodeL (aU s)=(65533,1)):=by
     unfold Hid;rw[HD.out,qF,if_pos nh]
    have ou:=h_ nh;clear nh;go_wp2
    all_goals first
     | (go_ret2
        refine⟨?_,rfl⟩;rw[HR.out]
        rfl)
     | (exfalso;have:=ou.out;simp_all;done)
     | (exfalso;have:=ou.out;simp_all;omega)
   ·have HR:Hid (decodeL (aU s)=(Acc,2)):=by
     unfold Hid;rw[HD.out,qF,if_neg nh]
    have d1:decide ((Acc:Int)<128)=false:=by simp;omega
    have d2:decide ((1114111:Int)<(Acc:Int))=false:=by simp;omega
    have ou:=h_ nh;clear nh;go_wp2
    all_goals first
     | (exfalso;have:=ou.out;simp_all;done)
     | (exfalso;have:=ou.out;simp_all;omega)
     | (go_ret2
        refine⟨?_,rfl⟩;rw[HR.out];rfl)
theorem LP(s:ByteArray)(w:World)(hs:s.size≤1000000)(h0:0<s.size)(hb:224≤kr (aU s) 0∧kr (aU s) 0<240):
  Calls pQ 197 #[V s] w (sS w (decodeL (aU s))):=by
 have HB:=h_ hb;have hb0:=qd s 0 h0;obtain⟨C,hC⟩:∃C,kr (aU s) 0=C:=⟨_,rfl⟩;rw[hC] at hb0 hb;have HC:=h_ hC;have b1:(224:Int)≤(C:Int):=by omega
 have b2:(C:Int)<240:=by omega
 clear hC hb
 by_cases hsz:s.size<3
 ·have hd:decide ((s.size:Int)<3)=true:=by simp;omega
  have HR:Hid (decodeL (aU s)=(65533,1)):=by
   refine Eb HB.out 2 ⟨by omega,by omega⟩ λht=>?_
   have:=tV ht;rw[←bg] at this;omega
  go_enter Tryz.func197,Tryz.ntmps197;go_wp2
  go_ret2
  refine⟨?_,rfl⟩;rw[HR.out];rfl
 have hd:decide ((s.size:Int)<3)=false:=by simp;omega
 go_enter Tryz.func197,Tryz.ntmps197;go_wp2
 go_loop [6,8] (λr i=>∃k:Nat,1≤k∧k≤3∧i=I J k∧r=.int .i32 (mX (C-224) (aU s) k)∧∀j,1≤j∧j<k→ml (aU s) j) (λ_ i=>3-(intOf i).toNat)
 case atStart=>exact⟨1,by omega,by omega,rfl,by rw[pM];go_num,λj hj=>by omega⟩
 case round=>
  obtain⟨k,vh,hk2,rfl,rfl,hall⟩:=hrel;have HA:=h_ hall;clear hall
  by_cases hlt:k<3
  ·have NJ:k<s.size:=by omega
   have tX:=qd s k NJ;obtain⟨T,hT⟩:∃T,kr (aU s) k=T:=⟨_,rfl⟩;have Ai:=r9 (aU s) k;rw[hT] at tX Ai
   by_cases ht:128≤T∧T<192
   ·have HS:Hid (mX (C-224) (aU s) (k+1)=mX (C-224) (aU s) k * 64+(T-128)):=by unfold Hid;rw[kE _ _ k vh,hT]
    have hle:=ry (C-224) (aU s) (by omega) k (by omega)
    have HT:Hid (∀j,1≤j∧j<k+1→ml (aU s) j):=λj hj=>by
     by_cases e:j=k
     ·subst e
      unfold ml;omega
     ·exact HA.out j (by omega)
    have Aj:decide (128≤(T:Int)∧(T:Int)<192)=true:=by simp;omega
    have t1:(128:Int)≤(T:Int):=by omega
    have KT:=nA (T:Int);rw[Aj] at KT;clear hT ht Aj;generalize mX (C-224) (aU s) k=Acc at *;go_wp2_with (go_at_call 216;refine(KT _).mono ?_;rintro e w' ⟨rfl,rfl⟩)
    go_round
    case rel=>exact⟨k+1,by omega,by omega,by go_num,by rw[HS.out];go_num,HT.out⟩
    case measure=>simp[intOf];omega
   ·have HR:Hid (decodeL (aU s)=(65533,1)):=Eb HB.out k ⟨vh,hlt⟩ (by unfold ml;omega)
    have Aj:decide (128≤(T:Int)∧(T:Int)<192)=false:=by simp;omega
    have KT:=nA (T:Int);rw[Aj] at KT;clear hT ht Aj;go_wp2_with (go_at_call 216;refine(KT _).mono ?_;rintro e w' ⟨rfl,rfl⟩)
    go_ret2
    refine⟨?_,rfl⟩;rw[HR.out];rfl
  ·obtain rfl:k=3:=by omega
   have hdec:=GH HB.out HA.out;rw[HC.out] at hdec;have hle:=ry (C-224) (aU s) (by omega) 3 (by omega);obtain⟨Acc,Ak⟩:∃Acc,mX (C-224) (aU s) 3=Acc:=⟨_,rfl⟩;rw[Ak] at hdec hle;have HD:=h_ hdec;have EE:=h_ Ak;clear hdec
   by_cases nh:Acc<2048∨1114111<Acc∨(55296≤Acc∧Acc≤57343)
   ·have HR:Hid (decodeL (aU s)=(65533,1)):=by
     unfold Hid;rw[HD.out,qF,if_pos nh]
    have ou:=h_ nh;clear nh;go_wp2
    all_goals first
     | (go_ret2
        refine⟨?_,rfl⟩;rw[HR.out]
        rfl)
     | (exfalso;have:=ou.out;simp_all;done)
     | (exfalso;have:=ou.out;simp_all;omega)
   ·have HR:Hid (decodeL (aU s)=(Acc,3)):=by
     unfold Hid;rw[HD.out,qF,if_neg nh]
    have d1:decide ((Acc:Int)<2048)=false:=by simp;omega
    have d2:decide ((1114111:Int)<(Acc:Int))=false:=by simp;omega
    have ou:=h_ nh;clear nh;go_wp2
    all_goals first
     | (exfalso;have:=ou.out;simp_all;done)
     | (exfalso;have:=ou.out;simp_all;omega)
     | (go_ret2
        refine⟨?_,rfl⟩;rw[HR.out];rfl)
theorem LQ(s:ByteArray)(w:World)(hs:s.size≤1000000)(h0:0<s.size)(hb:240≤kr (aU s) 0∧kr (aU s) 0<248):
  Calls pQ 197 #[V s] w (sS w (decodeL (aU s))):=by
 have HB:=h_ hb;have hb0:=qd s 0 h0;obtain⟨C,hC⟩:∃C,kr (aU s) 0=C:=⟨_,rfl⟩;rw[hC] at hb0 hb;have HC:=h_ hC;have b1:(240:Int)≤(C:Int):=by omega
 have b2:(C:Int)<248:=by omega
 clear hC hb
 by_cases hsz:s.size<4
 ·have hd:decide ((s.size:Int)<4)=true:=by simp;omega
  have HR:Hid (decodeL (aU s)=(65533,1)):=by
   refine Ec HB.out 3 ⟨by omega,by omega⟩ λht=>?_
   have:=tV ht;rw[←bg] at this;omega
  go_enter Tryz.func197,Tryz.ntmps197;go_wp2
  go_ret2
  refine⟨?_,rfl⟩;rw[HR.out];rfl
 have hd:decide ((s.size:Int)<4)=false:=by simp;omega
 go_enter Tryz.func197,Tryz.ntmps197;go_wp2
 go_loop [6,8] (λr i=>∃k:Nat,1≤k∧k≤4∧i=I J k∧r=.int .i32 (mX (C-240) (aU s) k)∧∀j,1≤j∧j<k→ml (aU s) j) (λ_ i=>4-(intOf i).toNat)
 case atStart=>exact⟨1,by omega,by omega,rfl,by rw[pM];go_num,λj hj=>by omega⟩
 case round=>
  obtain⟨k,vh,hk2,rfl,rfl,hall⟩:=hrel;have HA:=h_ hall;clear hall
  by_cases hlt:k<4
  ·have NJ:k<s.size:=by omega
   have tX:=qd s k NJ;obtain⟨T,hT⟩:∃T,kr (aU s) k=T:=⟨_,rfl⟩;have Ai:=r9 (aU s) k;rw[hT] at tX Ai
   by_cases ht:128≤T∧T<192
   ·have HS:Hid (mX (C-240) (aU s) (k+1)=mX (C-240) (aU s) k * 64+(T-128)):=by unfold Hid;rw[kE _ _ k vh,hT]
    have hle:=ry (C-240) (aU s) (by omega) k (by omega)
    have HT:Hid (∀j,1≤j∧j<k+1→ml (aU s) j):=λj hj=>by
     by_cases e:j=k
     ·subst e
      unfold ml;omega
     ·exact HA.out j (by omega)
    have Aj:decide (128≤(T:Int)∧(T:Int)<192)=true:=by simp;omega
    have t1:(128:Int)≤(T:Int):=by omega
    have KT:=nA (T:Int);rw[Aj] at KT;clear hT ht Aj;generalize mX (C-240) (aU s) k=Acc at *;go_wp2_with (go_at_call 216;refine(KT _).mono ?_;rintro e w' ⟨rfl,rfl⟩)
    go_round
    case rel=>exact⟨k+1,by omega,by omega,by go_num,by rw[HS.out];go_num,HT.out⟩
    case measure=>simp[intOf];omega
   ·have HR:Hid (decodeL (aU s)=(65533,1)):=Ec HB.out k ⟨vh,hlt⟩ (by unfold ml;omega)
    have Aj:decide (128≤(T:Int)∧(T:Int)<192)=false:=by simp;omega
    have KT:=nA (T:Int);rw[Aj] at KT;clear hT ht Aj;go_wp2_with (go_at_call 216;refine(KT _).mono ?_;rintro e w' ⟨rfl,rfl⟩)
    go_ret2
    refine⟨?_,rfl⟩;rw[HR.out];rfl
  ·obtain rfl:k=4:=by omega
   have hdec:=GI HB.out HA.out;rw[HC.out] at hdec;have hle:=ry (C-240) (aU s) (by omega) 4 (by omega);obtain⟨Acc,Ak⟩:∃Acc,mX (C-240) (aU s) 4=Acc:=⟨_,rfl⟩;rw[Ak] at hdec hle;have HD:=h_ hdec;have EE:=h_ Ak;clear hdec
   by_cases nh:Acc<65536∨1114111<Acc∨(55296≤Acc∧Acc≤57343)
   ·have HR:Hid (decodeL (aU s)=(65533,1)):=by
     unfold Hid;rw[HD.out,qF,if_pos nh]
    have ou:=h_ nh;clear nh;go_wp2
    all_goals first
     | (go_ret2
        refine⟨?_,rfl⟩;rw[HR.out]
        rfl)
     | (exfalso;have:=ou.out;simp_all;done)
     | (exfalso;have:=ou.out;simp_all;omega)
   ·have HR:Hid (decodeL (aU s)=(Acc,4)):=by
     unfold Hid;rw[HD.out,qF,if_neg nh]
    have d0:(65536:Int)≤(Acc:Int):=by omega
    have d2:(Acc:Int)≤1114111:=by omega
    have d3:¬(Acc:Int)≤57343:=by omega
    clear hle;have ou:=h_ nh;clear nh;go_wp2
    all_goals first
     | (exfalso;have:=ou.out;simp_all;done)
     | (exfalso;have:=ou.out;simp_all;omega)
     | (go_ret2
        refine⟨?_,rfl⟩;rw[HR.out];rfl)
theorem xL(s:ByteArray)(w:World)(hs:s.size≤1000000)(h0:0<s.size):
  Calls pQ 197 #[V s] w (sS w (decodeL (aU s))):=by
 by_cases h2:192≤kr (aU s) 0∧kr (aU s) 0<224
 ·exact LO s w hs h0 h2
 by_cases h3:224≤kr (aU s) 0∧kr (aU s) 0<240
 ·exact LP s w hs h0 h3
 by_cases h4:240≤kr (aU s) 0∧kr (aU s) 0<248
 ·exact LQ s w hs h0 h4
 have hb0:=qd s 0 h0
 by_cases h1:kr (aU s) 0<128
 ·have HR:=h_ (PZ h1)
  generalize kr (aU s) 0=C at *;clear h2 h3 h4;go_enter Tryz.func197,Tryz.ntmps197;go_wp2
  all_goals first
   | (go_ret2
      refine⟨?_,rfl⟩;rw[HR.out]
      done)
   | (go_ret2
      refine⟨?_,rfl⟩;rw[HR.out]
      rfl)
   | (exfalso;omega)
 ·have HR:=h_ (LK (l:=aU s) (by omega))
  generalize kr (aU s) 0=C at *;have HH:Hid ((128≤C∧C<192)∨248≤C):=by unfold Hid;omega
  clear h2 h3 h4;go_enter Tryz.func197,Tryz.ntmps197;go_wp2
  all_goals first
   | (go_ret2
      refine⟨?_,rfl⟩;rw[HR.out]
      rfl)
   | (exfalso;have:=HH.out;simp_all;done)
   | (exfalso;have:=HH.out;simp_all;omega)
def yB(l:List Nat):List Value:=l.map λ(r:Nat)=>Value.int .i32 (r:Int)
theorem nH(a b:List Nat):yB (a++b)=yB a++yB b:=by simp[yB]
theorem Cn(l:List Nat)(k:Nat)(h:k<l.length):(yB l)[k]? =some (.int .i32 (l[k]:Int)):=by simp[yB,List.getElem?_eq_getElem h]
theorem Al:vG pQ 206 21 4:=⟨Tryz.underlying206,⟨.int .i32 0,by kernel_rfl,rfl⟩⟩
theorem La:vG pQ 173 5 1:=⟨Tryz.underlying173,⟨.int .u8 0,by kernel_rfl,rfl⟩⟩
theorem vK:vG pQ 80 9 16:=⟨Tryz.underlying80,⟨.string ⟨#[]⟩,by kernel_rfl,rfl⟩⟩
theorem aJ.ne_row{e e':TypeId}{w0 SZ w1:World}{v v':Value}{n n':Nat}{xs xs':List Value}(h:aJ e w0 w1 v n xs)(h':aJ e' SZ w1 v' n' xs')(hne:e≠e'){k:Nat}(hk:v.ownBlock=some k):v'.ownBlock≠some k:=by
 rcases h.own.2 with ⟨rfl,_⟩|⟨g,cap,cur,rfl,_,hh,_⟩
 ·simp[Value.ownBlock] at hk
 ·have:g=k:=by simpa [Value.ownBlock] using hk
  subst this;exact h'.ne_blk (t:=e) (cs:=cur) hh (Ne.symm hne)
def GP(w:World)(l:List Nat)(e:Ending)(w':World):Prop:=
 ∃A c,e=.returned (U A l.length c)∧aJ 21 w w' (U A l.length c) l.length (yB l)
def Co:Value→Nat | .string s=>s.size|_=>0
theorem yC(s:ByteArray)(k:Nat):aU (s.extract k s.size)=(aU s).drop k:=by
 show (s.extract k s.size).data.toList=_
 rw[extract_data];exact List.take_of_length_le (by rw[List.length_drop,bg];exact Nat.le_refl _)
theorem tY(s:ByteArray)(w:World)(hs:s.size≤1000000):
  Calls pQ 194 #[V s] w (GP w (bV (aU s))):=by
 go_enter Tryz.func194,Tryz.ntmps194;go_wp2
 go_loopw [0,3] (λsv v wr=>∃(x:ByteArray) (done:List Nat),sv=V x∧x.size+done.length≤s.size∧aJ 21 w wr v done.length (yB done)∧done++bV (aU x)=bV (aU s)) (λsv _ _=>Co sv)
 case atStart=>exact⟨s,[],rfl,by simp,aJ.nil_ _ (aa.refl _ _),rfl⟩
 case round=>
  obtain⟨x,done,rfl,hx,hrow,hd⟩:=hrel;have HD:=h_ hd;have HR:=h_ hrow;obtain⟨A,c,rfl,-,-,-,-⟩:=hrow.shape;clear hd hrow
  by_cases h0:0<x.size
  ·have hne:aU x≠[]:=λe=>by
    have h1:(aU x).length=0:=by rw[e];rfl
    rw[←bg] at h1;omega
   have hle:=decodeL_le _ hne;have hw:=decodeL_width (aU x);rw[←bg] at hle;have hstep:=qP (aU x) hne;have kf:=xL x wr (by omega) h0;obtain⟨R,K,Cp⟩:∃R K,decodeL (aU x)=(R,K):=⟨_,_,rfl⟩;rw[Cp] at hle hw hstep kf;simp only at hle hw hstep;have bv:=h_ hstep;have KF:=h_ kf;have EH:=h_ (yC x K);obtain⟨v2,w2,hrun,hrow2,-,-⟩:=HR.out.push Al (.int .i32 (R:Int)) rfl (by unfold maxLen;omega) (by omega);have gF:=h_ hrow2;clear hrow2 hstep kf Cp;have hk0:(0:Int)≤(K:Int):=Int.natCast_nonneg _;have vh:(K:Int)≤(x.size:Int):=by omega
   have hx0:decide ((0:Int)<(x.size:Int))=true:=by simp;omega
   go_wp2_with (first
    | (go_at_call 197;refine KF.out.mono ?_;rintro e w' ⟨rfl,rfl⟩)
    | (at_builtin;refine aq hrun rfl _ _ rfl rfl rfl ?_))
   go_roundw
   case rel=>
    refine⟨x.extract K x.size,done++[R],rfl,?_,?_,?_⟩
    ·have:(x.extract K x.size).size=x.size-K:=by rw[bg,EH.out,List.length_drop,←bg]
     rw[this,List.length_append,List.length_singleton];omega
    ·rw[List.length_append,List.length_singleton,nH]
     exact gF.out
    ·rw[EH.out,←HD.out,bv.out]
     simp
   case measure=>
    have:(x.extract K x.size).size=x.size-K:=by rw[bg,EH.out,List.length_drop,←bg]
    simp only[Co,this];omega
  ·have h1:(aU x).length=0:=by
    have:=bg x;omega
   have hz:aU x=[]:=List.eq_nil_of_length_eq_zero h1
   have HE:Hid (done=bV (aU s)):=by
    have:=HD.out;rw[hz,p9,List.append_nil] at this;exact this
   have hx0:decide ((0:Int)<(x.size:Int))=false:=decide_eq_false (by omega);clear hz h1;go_wp2;go_ret;rw[←HE.out];exact⟨A,c,rfl,HR.out⟩
theorem jG(r:Int):runeCells r=(encodeRuneZ r).map λx=>Value.int .u8 x:=rfl
theorem Jd(r:Nat)(hv:Vr r)(w:World):
  Calls pQ 215 #[.int .i32 r] w λe w'=>e=.returned (U (some ⟨w.heap.size,0,none⟩) (runeCells r).length (runeCells r).length)∧w'=w.alloc (.cells (runeCells r).toArray 5):=by
 unfold Vr at hv;have d1:¬(r:Int)<0:=by omega
 have d2:¬(1114111:Int)<(r:Int):=by omega
 by_cases c1:r≤127
 ·have e:=encodeRuneZ_one (r:=(r:Int)) (by omega) (by omega)
  rw[jG,e];go_enter Tryz.func215,Tryz.ntmps215;go_wp2;go_ret;exact⟨rfl,rfl⟩
 by_cases c2:r≤2047
 ·have e:=encodeRuneZ_two (r:=(r:Int)) (by omega) (by omega)
  rw[jG,e];go_enter Tryz.func215,Tryz.ntmps215;go_wp2;go_ret;exact⟨rfl,rfl⟩
 by_cases c3:r≤65535
 ·have e:=encodeRuneZ_three (r:=(r:Int)) (by omega)
  rw[jG,e];have b1:(2048:Int)≤(r:Int):=by omega
  have b2:(r:Int)≤65535:=by omega
  have hs:(r:Int)<55296∨(57344:Int)≤(r:Int):=by omega
  generalize (r:Int)=R at *;obtain⟨x,hx⟩:∃x,R/4096=x:=⟨_,rfl⟩;obtain⟨Q,hQ⟩:∃Q,R/64=Q:=⟨_,rfl⟩;obtain⟨y,hy⟩:∃y,Q % 64=y:=⟨_,rfl⟩;obtain⟨z,hz⟩:∃z,R % 64=z:=⟨_,rfl⟩;rw[hx,hQ,hy,hz];have x0:0≤x:=by omega
  have x1:x≤15:=by omega
  have q0:0≤Q:=by omega
  have q1:Q≤1024:=by omega
  have y0:0≤y:=by omega
  have y1:y≤63:=by omega
  have z0:0≤z:=by omega
  have z1:z≤63:=by omega
  clear c1 c2 c3 hv e d2 d1;rcases hs with b3|b3
  ·go_enter Tryz.func215,Tryz.ntmps215
   go_wp2;go_ret;exact⟨rfl,rfl⟩
  ·go_enter Tryz.func215,Tryz.ntmps215
   go_wp2;go_ret;exact⟨rfl,rfl⟩
 ·have e:=encodeRuneZ_four (r:=(r:Int)) (by omega) (by omega)
  rw[jG,e];have d3:(65536:Int)≤(r:Int):=by omega
  have d4:(r:Int)≤1114111:=by omega
  generalize (r:Int)=R at *;obtain⟨x,hx⟩:∃x,R/262144=x:=⟨_,rfl⟩;obtain⟨Q,hQ⟩:∃Q,R/64=Q:=⟨_,rfl⟩;obtain⟨T,hT⟩:∃T,R/4096=T:=⟨_,rfl⟩;obtain⟨y,hy⟩:∃y,Q % 64=y:=⟨_,rfl⟩;obtain⟨u,hu⟩:∃u,T % 64=u:=⟨_,rfl⟩;obtain⟨z,hz⟩:∃z,R % 64=z:=⟨_,rfl⟩;rw[hx,hQ,hT,hy,hu,hz];have x0:0≤x:=by omega
  have x1:x≤4:=by omega
  have q0:0≤Q:=by omega
  have q1:Q≤20000:=by omega
  have t0:0≤T:=by omega
  have t1:T≤300:=by omega
  have y0:0≤y:=by omega
  have y1:y≤63:=by omega
  have u0:0≤u:=by omega
  have u1:u≤63:=by omega
  have z0:0≤z:=by omega
  have z1:z≤63:=by omega
  clear c1 c2 c3 hv e d2 d1;go_enter Tryz.func215,Tryz.ntmps215;go_wp2;go_ret;exact⟨rfl,rfl⟩
theorem LR{w:World}{G:Nat→Prop}{A:Option Addr}{n c:Nat}{l:List UInt8}(hr:Rd w G 1 A n (byteCells l)):(convert 173 9 (U A n c)).run pQ w=.ok (V (kC l)) w:=by
 have hl:l.length=n:=by have:=hr.1;rw[byteCells_length] at this;omega
 subst hl;rcases A with _|ad
 ·have h0:l=[]:=by
   rcases l with _|⟨a,l⟩
   ·rfl
   ·obtain⟨ad,h,-⟩:=hr.2 (by simp)
    cases h
  subst h0;exact run_convert_bytes_nil w 173 5 Tryz.underlying173 Tryz.underlying5 0 c 9 Tryz.underlying9
 ·refine run_convert_bytes_back w 173 9 5 ad c l Tryz.underlying173 Tryz.underlying5 Tryz.underlying9 λj hj=>?_
  obtain⟨ad',e,-,-,hc⟩:=hr.2 (by omega);injection e with e;subst e;exact hc j _ (by simp[byteCells,List.getElem?_eq_getElem hj])
theorem xh(l:List UInt8):∀u∈byteCells l,u.oneCell'=true:=by
 intro u hu;obtain⟨x,-,rfl⟩:=List.mem_map.1 hu;rfl
theorem vn(A:Option Addr)(n c:Nat)(l:List Nat)(hv:∀r∈l,Vr r)(hl:l.length=n)(hn:n≤10000000)(G:Nat→Prop)(w:World)(hr:Rd w G 1 A n (yB l))(hlt:∀k,G k→k<w.heap.size):
  Calls pQ 196 #[U A n c] w λe w'=>e=.returned (V (kC (enc l)))∧aa ag w w':=by
 have HR:=h_ hr;have HL:=h_ hl;have HV:=h_ hv;clear hr hl hv;go_enter Tryz.func196,Tryz.ntmps196;go_wp2
 go_loopw [3,4] (λv i wr=>∃k:Nat,k≤n∧i=I J k∧aJ 5 w wr v (enc (l.take k)).length (byteCells (enc (l.take k)))) (λ_ i _=>n-(intOf i).toNat)
 case atStart=>exact⟨0,Nat.zero_le _,rfl,aJ.nil_ _ (aa.refl _ _)⟩
 case round=>
  obtain⟨k,hk,rfl,hrow⟩:=hrel;have eh:=h_ hrow;obtain⟨B,c',rfl,-,-,-,-⟩:=hrow.shape;clear hrow
  by_cases hlt2:k<n
  ·have cQ:k<l.length:=by rw[HL.out];exact hlt2
   obtain⟨ad,u,rfl,hG,Cg,hu,Ch⟩:=HR.out.at_ hlt2;rw[Cn l k cQ] at hu;injection hu with hu;subst hu;have cr:=(eh.out.frm.cell (p:=ad.add k) (by rw[cq];exact Cg) id).trans Ch;have hx:=HV.out l[k] (List.getElem_mem cQ);have KO:=h_ (Jd l[k] hx wr);have Gg:=rQ l k cQ;have hel:=po (l.take k);have xi:=List.length_take_le k l;have hr4:=runeCells_le (l[k]:Int);have e2:byteCells (ku l[k])=runeCells (l[k]:Int):=byteCells_encodeRune _;have e3:(ku l[k]).length=(runeCells (l[k]:Int)).length:=by rw[runeCells_length];rfl
   have hrow2:=eh.out.more ((fR wr).alloc (.cells (runeCells (l[k]:Int)).toArray 5));obtain⟨v2,w2,hrun,hrow3,-,-⟩:=hrow2.app La (m:=(runeCells (l[k]:Int)).length) (ys:=runeCells (l[k]:Int)) (runeCells (l[k]:Int)).length (Rd.of_obj (heap_alloc_new wr (.cells (runeCells (l[k]:Int)).toArray 5)) (runeCells (l[k]:Int)).length (by simp)) (by rw[←e2];exact xh _) (by unfold maxLen;omega) (by omega)
   have nG:Hid (aJ 5 w w2 v2 (enc (l.take (k+1))).length (byteCells (enc (l.take (k+1))))):=by
    unfold Hid;rw[Gg,List.length_append,byteCells_append,e2,e3];exact hrow3
   have hk0:(0:Int)≤(k:Int):=Int.natCast_nonneg _;have vh:(k:Int)<(n:Int):=by omega
   clear Gg hel xi hr4 e2 e3 hrow2 hrow3 Ch hx;generalize l[k]=R at *
   go_wp2_with (first
    | (go_at_call 215;refine KO.out.mono ?_;rintro e w' ⟨rfl,rfl⟩)
    | (at_builtin;refine aq hrun rfl _ _ rfl rfl rfl ?_))
   go_roundw
   case rel=>exact⟨k+1,by omega,by go_num,nG.out⟩
   case measure=>simp[intOf];omega
  ·obtain rfl:k=n:=by omega
   have HS:=h_ (LR (c:=c') eh.out.rd);have HE:Hid (l.take k=l):=List.take_of_length_le (by rw[HL.out];exact Nat.le_refl _);have HF:=h_ eh.out.frm;have hS:=HS.out;rw[HE.out] at hS;rw[HE.out];generalize hE:kC (enc l)=S at *;generalize (enc l).length=N at *;have S0:=h_ hE;clear hE;go_wp2;go_ret;exact⟨by rw[S0.out];rfl,HF.out⟩
def vL(l:List Nat)(k:Nat):List Value:=yB (((l.take k).map d8)++l.drop k)
theorem Je(l:List Nat)(k:Nat)(h:k<l.length):(vL l k)[k]? =some (.int .i32 (l[k]:Int)):=by
 have hl:((l.take k).map d8).length=k:=by simp;omega
 unfold vL yB;rw[List.getElem?_map,List.getElem?_append_right (by omega),hl,Nat.sub_self,List.drop_eq_getElem_cons h];rfl
theorem GQ(l:List Nat)(k:Nat)(h:k<l.length):(vL l k).set k (.int .i32 (d8 l[k]:Int))=vL l (k+1):=by
 have hl:((l.take k).map d8).length=k:=by simp;omega
 unfold vL yB;rw[←List.map_set (f:=λr:Nat=>Value.int .i32 (r:Int)) (a:=d8 l[k]),List.set_append_right _ _ (by omega),hl,Nat.sub_self,List.drop_eq_getElem_cons h,List.take_succ_eq_append_getElem h];simp only[List.set_cons_zero,List.map_append,List.map_cons,List.map_nil,List.append_assoc,List.singleton_append]
theorem EI(s:ByteArray)(w:World)(hs:s.size≤1000000):
  Calls pQ 198 #[V s] w λe w'=>e=.returned (V (kC (nc (aU s))))∧aa ag w w':=by
 have hrl:=nD (aU s);rw[←bg] at hrl;have hval:=qa (aU s);have KR:=h_ (tY s w hs);have EJ:Hid (nc (aU s)=enc ((bV (aU s)).map d8)):=rfl;have HV:=h_ hval;generalize bV (aU s)=l at *;clear hval;go_enter Tryz.func198,Tryz.ntmps198;go_wp2_with fail;refine KR.out.mono ?_;rintro e w1 ⟨A,c,rfl,xM⟩
 have bE:Hid (aJ 21 w w1 (U A l.length c) l.length (vL l 0)):=by
  unfold Hid;have:vL l 0=yB l:=by simp[vL]
  rw[this];exact xM
 clear xM;go_wp2
 go_loopw [4] (λi wr=>∃k:Nat,k≤l.length∧i=I J k∧aJ 21 w wr (U A l.length c) l.length (vL l k)) (λi _=>l.length-(intOf i).toNat)
 case atStart=>exact⟨0,Nat.zero_le _,rfl,bE.out⟩
 case round=>
  obtain⟨k,hk,rfl,hrow⟩:=hrel;have eh:=h_ hrow;clear bE
  by_cases hlt:k<l.length
  ·obtain⟨g,rfl,hcell,hfz,hrow2,-,vJ⟩:=hrow.set_ k hlt (.int .i32 (d8 l[k]:Int))
   rw[Je l k hlt] at hcell;rw[GQ l k hlt] at hrow2;have gF:=h_ hrow2;have hx:=HV.out l[k] (List.getElem_mem hlt);have hR:l[k]≤1114111:=by unfold Vr at hx;omega
   have KF:=EB l[k] wr hR;have hk0:(0:Int)≤(k:Int):=Int.natCast_nonneg _;have vh:(k:Int)<(l.length:Int):=by omega
   clear hrow hrow2 hx;generalize l[k]=R at *;go_wp2_with (go_at_call 217;refine KF.mono ?_;rintro e w' ⟨rfl,rfl⟩);go_roundw
   case rel=>exact⟨k+1,by omega,by go_num,gF.out⟩
   case measure=>simp[intOf];omega
  ·obtain rfl:k=l.length:=by omega
   have e1:vL l l.length=yB (l.map d8):=by simp[vL]
   rw[e1] at hrow
   have RO:∀r∈l.map d8,Vr r:=λr hr=>by
    obtain⟨x,hx,rfl⟩:=List.mem_map.1 hr;exact qQ (HV.out x hx)
   have KP:=h_ (vn A l.length c (l.map d8) RO (by simp) (by omega) _ wr hrow.rd (λk hk=>(hrow.own.lt k hk).2));have HF:=h_ hrow.frm;clear hrow e1 RO;go_wp2_with fail;refine KP.out.mono ?_;rintro e w3 ⟨rfl,f3⟩;go_wp2;go_ret;exact⟨by rw[EJ.out];rfl,HF.out.trans f3⟩
section
theorem EK(cur:List Nat)(r:Nat)(h:cur.length<32):(cur++[r]).take 32=cur.take 32++[r]:=by
 rw[List.take_of_length_le (by simp;omega),List.take_of_length_le (by omega)]
theorem EL(cur:List Nat)(r:Nat)(h:¬cur.length<32):(cur++[r]).take 32=cur.take 32:=by
 rw[List.take_append_of_le_length (by omega)]
def Nu(l:List (List Nat)):List Value:=l.map λx=>Value.string (kC (enc x))
theorem Cq(a b:List (List Nat)):Nu (a++b)=Nu a++Nu b:=by simp[Nu]
structure gL(w2:World)(fr:List Nat)(k:Nat)(done:List (List Nat))(cur:List Nat)(o v:Value)(wr:World):Prop where
 out:aJ 9 w2 wr o done.length (Nu done)
 word:aJ 21 w2 wr v (cur.take 32).length (yB (cur.take 32))
 eq:done++(bR cur (fr.drop k)).map (·.take 32)=vF fr
 end_:k=fr.length+1→cur=[]
 val:∀r∈cur,Vr r
section
variable {w2 wr w3 w4:World} {fr:List Nat} {k:Nat} {done:List (List Nat)} {cur:List Nat} {o v v':Value}
theorem gL.letter(h:gL w2 fr k done cur o v wr)(hk:k<fr.length)(hl:cJ fr[k]=true)(hv:Vr fr[k])(Jc:cur.length<32)(h1:aJ 21 w2 w3 v' ((cur.take 32).length+1) (yB (cur.take 32)++[.int .i32 (fr[k]:Int)]))(hf:aa (λk=>v.ownBlock=some k) wr w3):
  gL w2 fr (k+1) done (cur++[fr[k]]) o v' w3:=by
 refine⟨h.out.far hf (λi hi=>(h.word.own.lt i hi).1) (λi hi hj=>h.word.ne_row h.out (by decide) hj hi),?_,?_,λe=>by omega,λr hr=>?_⟩
 ·rw[EK _ _ Jc,List.length_append,nH]
  exact h1
 ·rw[←h.eq,List.drop_eq_getElem_cons hk]
  simp only[bR,hl,if_true]
 ·rcases List.mem_append.1 hr with hr|hr
  ·exact h.val r hr
  ·simp at hr
   rw[hr];exact hv
theorem gL.over(h:gL w2 fr k done cur o v wr)(hk:k<fr.length)(hl:cJ fr[k]=true)(hv:Vr fr[k])(Jc:¬cur.length<32):gL w2 fr (k+1) done (cur++[fr[k]]) o v wr:=by
 refine⟨h.out,?_,?_,λe=>by omega,λr hr=>?_⟩
 ·rw[EL _ _ Jc]
  exact h.word
 ·rw[←h.eq,List.drop_eq_getElem_cons hk]
  simp only[bR,hl,if_true]
 ·rcases List.mem_append.1 hr with hr|hr
  ·exact h.val r hr
  ·simp at hr
   rw[hr];exact hv
theorem xN(fr:List Nat)(k:Nat)(cur:List Nat)(h:(∀hk:k<fr.length,cJ fr[k]=false)):bR cur (fr.drop k)=(if cur=[] then [] else [cur])++bR [] (fr.drop (k+1)):=by
 by_cases hk:k<fr.length
 ·rw[List.drop_eq_getElem_cons hk]
  simp[bR,h hk]
 ·rw[List.drop_eq_nil_iff.2 (by omega),List.drop_eq_nil_iff.2 (by omega)]
  simp[bR]
theorem gL.ends(h:gL w2 fr k done cur o v wr)(hk:∀hk:k<fr.length,cJ fr[k]=false)(hc:cur≠[])(h1:aJ 9 w2 w3 v' (done.length+1) (Nu done++[V (kC (enc (cur.take 32)))])):
  gL w2 fr (k+1) (done++[cur.take 32]) [] v' (U none 0 0) w3:=by
 refine⟨by rw[List.length_append,Cq];exact h1,aJ.nil_ _ h1.frm,?_,λ_=>rfl,λ_ h=>by cases h⟩;rw[←h.eq,xN fr k cur hk,if_neg hc];simp
theorem gL.none_(h:gL w2 fr k done cur o v wr)(hk:∀hk:k<fr.length,cJ fr[k]=false)(hc:cur=[]):gL w2 fr (k+1) done cur o v wr:=by
 refine⟨h.out,h.word,?_,λ_=>hc,h.val⟩;rw[←h.eq,xN fr k cur hk,if_pos hc,hc];simp
theorem gL.all(h:gL w2 fr (fr.length+1) done cur o v wr):done=vF fr:=by
 have:=h.eq;rw[h.end_ rfl,List.drop_eq_nil_iff.2 (by omega)] at this
 simpa [bR] using this
end
theorem Cr(s:ByteArray)(w:World)(hs:s.size≤200000):
  Calls pQ 156 #[V s] w (Ee w (mW s)):=by
 have P1:=po (jF (aU s));have hrl:=nD (aU s);have hfn:(jF (aU s)).length=(bV (aU s)).length:=by simp[jF]
 rw[←bg] at hrl
 have hsz:(kC (nc (aU s))).size≤1000000:=by
  rw[bg,mE];unfold nc;omega
 have hlen:(jF (aU s)).length≤200000:=by omega
 have KF:=h_ (EI s w (by omega));have KR:=λW=>tY (kC (nc (aU s))) W hsz
 rw[show aU (kC (nc (aU s)))=enc (jF (aU s)) from rfl,Ab _ (pp _)] at KR;have Ah:mW s=(vF (jF (aU s))).map λx=>kC (enc x):=by simp[mW,tU,kC]
 have hval:=pp (aU s);generalize jF (aU s)=fr at *;generalize kC (nc (aU s))=S at *;have RP:=h_ KR;have HW:=h_ Ah;have HV:=h_ hval;clear KR Ah hval P1 hrl hfn;go_enter Tryz.func156,Tryz.ntmps156;go_wp2_with fail;refine KF.out.mono ?_;rintro e w1 ⟨rfl,f1⟩;go_wp2_with fail;refine(RP.out w1).mono ?_;rintro e w2 ⟨B,cB,rfl,xM⟩;have HL:=h_ xM;have kX:=h_ (f1.trans xM.frm);have hst:Hid (gL w2 fr 0 [] [] (U none 0 0) (U none 0 0) w2):=⟨aJ.nil_ _ (aa.refl _ _),aJ.nil_ _ (aa.refl _ _),rfl,λ_=>rfl,λ_ h=>by cases h⟩;clear xM f1 RP KF;go_wp2
 go_loopw [4,5,6] (λo v i wr=>∃(k:Nat) (done:List (List Nat)) (cur:List Nat),k≤fr.length+1∧i=I J k∧done.length≤k∧gL w2 fr k done cur o v wr) (λ_ _ i _=>fr.length+1-(intOf i).toNat)
 case atStart=>exact⟨0,[],[],by omega,rfl,Nat.le_refl _,hst.out⟩
 case round=>
  obtain⟨k,done,cur,hk,rfl,U7,ht⟩:=hrel;have HT:=h_ ht;obtain⟨oA,oc,rfl,-,-,-,-⟩:=ht.out.shape;obtain⟨vA,vc,rfl,-,-,-,-⟩:=ht.word.shape;have hcl:=List.length_take_le 32 cur;have hcm:(cur.take 32).length=min 32 cur.length:=List.length_take;clear ht hst
  by_cases hlt:k<fr.length
  ·obtain⟨ad,u,S4,-,Cg,hu,Ch⟩:=HL.out.rd.at_ hlt
   subst S4;rw[Cn fr k hlt] at hu;injection hu with hu;subst hu;have hx:=HV.out fr[k] (List.getElem_mem hlt);have hR:fr[k]≤1114111:=by unfold Vr at hx;omega
   have HX:=h_ hx;have cr:=(HT.out.out.frm.cell (p:=ad.add k) (by rw[cq];exact Cg) id).trans Ch;have Jf:=Af fr[k] wr hR;have hk0:(0:Int)≤(k:Int):=Int.natCast_nonneg _;have vh:(k:Int)<(fr.length:Int):=by omega
   rcases(by cases cJ fr[k]<;>simp:cJ fr[k]=true∨cJ fr[k]=false) with Ce|Ce
   ·rw[Ce] at Jf
    by_cases Jc:cur.length<32
    ·obtain⟨v2,w3,hrun,hrow3,hf3,-⟩:=HT.out.word.push Al (.int .i32 (fr[k]:Int)) rfl (by unfold maxLen;omega) (by omega)
     have GR:aa (λk=>(Value.slice vA (cur.take 32).length vc).ownBlock=some k) wr w3:=((fR wr).alloc _).nix.trans hf3;have HN:=h_ (HT.out.letter hlt Ce hx Jc hrow3 GR);have S5:decide (((cur.take 32).length:Int)<32)=true:=by rw[decide_eq_true_eq];omega
     clear hrow3 hf3 GR hx Ce Ch;obtain⟨R,hR2⟩:∃R,fr[k]=R:=⟨_,rfl⟩;rw[hR2] at Jf cr hrun;clear hR2;clear hcl hcm;generalize (cur.take 32).length=CL at *
     go_wp2_with (first
      | (go_at_call 199;refine Jf.mono ?_;rintro e w' ⟨rfl,rfl⟩)
      | (at_builtin;refine aq hrun rfl _ _ rfl rfl rfl ?_))
     go_roundw
     case rel=>exact⟨k+1,done,_,by omega,by go_num,by omega,HN.out⟩
     case measure=>simp[intOf];omega
    ·have HN:=h_ (HT.out.over hlt Ce hx Jc)
     have S5:decide (((cur.take 32).length:Int)<32)=false:=by rw[decide_eq_false_iff_not];omega
     clear hx Ce Ch;obtain⟨R,hR2⟩:∃R,fr[k]=R:=⟨_,rfl⟩;rw[hR2] at Jf cr;clear hR2;clear hcl hcm;generalize (cur.take 32).length=CL at *;go_wp2_with (go_at_call 199;refine Jf.mono ?_;rintro e w' ⟨rfl,rfl⟩);go_roundw
     case rel=>exact⟨k+1,done,_,by omega,by go_num,by omega,HN.out⟩
     case measure=>simp[intOf];omega
   ·rw[Ce] at Jf
    have NK:Hid (∀hk:k<fr.length,cJ fr[k]=false):=λ_=>Ce
    clear hx Ce Ch;obtain⟨R,hR2⟩:∃R,fr[k]=R:=⟨_,rfl⟩;rw[hR2] at Jf cr;clear hR2
    by_cases hc:cur=[]
    ·have HN:=h_ (HT.out.none_ NK.out hc)
     clear hcl hcm;subst hc;simp only[List.take_nil,List.length_nil] at HN ⊢;go_wp2_with (go_at_call 199;refine Jf.mono ?_;rintro e w' ⟨rfl,rfl⟩);go_roundw
     case rel=>exact⟨k+1,done,_,by omega,by go_num,by omega,HN.out⟩
     case measure=>simp[intOf];omega
    ·have Lb:0<cur.length:=List.length_pos_iff.2 hc
     have KP:=h_ (vn vA (cur.take 32).length vc (cur.take 32) (λr hr=>HT.out.val r (List.mem_of_mem_take hr)) rfl (by omega) _ wr HT.out.word.rd (λi hi=>(HT.out.word.own.lt i hi).2));have HE:=λw3 (f:aa ag wr w3)=>(HT.out.out.more f).push vK (V (kC (enc (cur.take 32)))) rfl (by unfold maxLen;omega) (by omega)
     have HC:=h_ hc;have n0:0<(cur.take 32).length:=by omega
     have NL:=h_ HE;clear hc HE;obtain⟨X,hX⟩:∃X,kC (enc (cur.take 32))=X:=⟨_,rfl⟩;have P2:=h_ hX;rw[hX] at KP NL;clear hX;clear hcl hcm;generalize (cur.take 32).length=CL at *
     go_wp2_with (first
      | (go_at_call 199;refine Jf.mono ?_;rintro e w' ⟨rfl,rfl⟩)
      | (go_at_call 196;refine KP.out.mono ?_;rintro e w3 ⟨rfl,f3⟩;obtain⟨o2,w4,hrun,hrow4,-,-⟩:=NL.out w3 f3;have HN:=h_ (HT.out.ends NK.out HC.out (by rw[P2.out];exact hrow4));clear hrow4 f3)
      | (at_builtin;refine aq hrun rfl _ _ rfl rfl rfl ?_))
     go_roundw
     case rel=>exact⟨k+1,_,_,by omega,by go_num,by simp;omega,HN.out⟩
     case measure=>simp[intOf];omega
  ·by_cases hend:k=fr.length+1
   ·subst hend
    have HE:=h_ HT.out.all;clear hcl hcm;generalize (cur.take 32).length=CL at *;go_wp2;go_ret;refine⟨oA,oc,?_,?_⟩
    ·rw[HW.out,List.length_map,←HE.out]
     rfl
    ·rw[HW.out,List.length_map,←HE.out,List.map_map]
     exact HT.out.out.since kX.out
   ·obtain rfl:k=fr.length:=by omega
    have NK:Hid (∀hk:fr.length<fr.length,cJ fr[fr.length]=false):=λh=>absurd h (Nat.lt_irrefl _)
    have vh:decide ((fr.length:Int)≤(fr.length:Int))=true:=by simp
    have hk2:decide ((fr.length:Int)<(fr.length:Int))=false:=by simp
    by_cases hc:cur=[]
    ·have HN:=h_ (HT.out.none_ NK.out hc)
     clear hcl hcm;subst hc;simp only[List.take_nil,List.length_nil] at HN ⊢;go_wp2;go_roundw
     case rel=>exact⟨fr.length+1,done,_,by omega,by first|rfl|go_num,by omega,HN.out⟩
     case measure=>simp[intOf]
    ·have Lb:0<cur.length:=List.length_pos_iff.2 hc
     have KP:=h_ (vn vA (cur.take 32).length vc (cur.take 32) (λr hr=>HT.out.val r (List.mem_of_mem_take hr)) rfl (by omega) _ wr HT.out.word.rd (λi hi=>(HT.out.word.own.lt i hi).2));have HE:=λw3 (f:aa ag wr w3)=>(HT.out.out.more f).push vK (V (kC (enc (cur.take 32)))) rfl (by unfold maxLen;omega) (by omega)
     have HC:=h_ hc;have n0:0<(cur.take 32).length:=by omega
     have NL:=h_ HE;clear hc HE;obtain⟨X,hX⟩:∃X,kC (enc (cur.take 32))=X:=⟨_,rfl⟩;have P2:=h_ hX;rw[hX] at KP NL;clear hX;clear hcl hcm;generalize (cur.take 32).length=CL at *
     go_wp2_with (first
      | (go_at_call 196;refine KP.out.mono ?_;rintro e w3 ⟨rfl,f3⟩;obtain⟨o2,w4,hrun,hrow4,-,-⟩:=NL.out w3 f3;have HN:=h_ (HT.out.ends NK.out HC.out (by rw[P2.out];exact hrow4));clear hrow4 f3)
      | (at_builtin;refine aq hrun rfl _ _ rfl rfl rfl ?_))
     go_roundw
     case rel=>exact⟨fr.length+1,_,_,by omega,by first|rfl|go_num,by simp;omega,HN.out⟩
     case measure=>simp[intOf]
end
end Go.Proofs.YtaecjmiobllhmaaGreat
