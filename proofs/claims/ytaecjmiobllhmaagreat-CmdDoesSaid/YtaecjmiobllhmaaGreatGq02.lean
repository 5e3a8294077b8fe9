/- Words. -/
import Derived.Lib.MapLaws
import Derived.Lib.FieldsP
import Derived.Lib.Strings
import Derived.Lib.TrimAscii
import Derived.Lib.SlicesCompact
import Derived.Test.YtaecjmiobllhmaaGreatProg
import Derived.Test.YtaecjmiobllhmaaGreatGq01
set_option linter.unusedVariables false
set_option linter.unusedSimpArgs false
set_option maxRecDepth 100000
set_option maxHeartbeats 16000000
namespace Go.Proofs.YtaecjmiobllhmaaGreat
open Go.Lib Go.RowKit
def Vr(r:Nat):Prop:=r<55296∨(57344≤r∧r≤1114111)
instance (r:Nat):Decidable (Vr r):=inferInstanceAs (Decidable (_∨_))
theorem pz(l:List UInt8):Vr (decodeL l).1:=by
 rw[decodeL_N];have k0:=(l.getD 0 0).toNat_lt;have k1:=(l.getD 1 0).toNat_lt;have k2:=(l.getD 2 0).toNat_lt;have k3:=(l.getD 3 0).toNat_lt;unfold Vr;rcases decodeN_shape l.length (l.getD 0 0).toNat (l.getD 1 0).toNat (l.getD 2 0).toNat (l.getD 3 0).toNat with ⟨c,e⟩|⟨c1,c2,c3,cv,e⟩|⟨c1,c2,c3,c4,cv,cs,e⟩|⟨c1,c2,c3,c4,c5,cv,cw,e⟩|e
 all_goals (rw[e];dsimp only;omega)
def mW:Nat→List UInt8→List Nat
 | 0,_=>[]
 | n+1,l=>if l=[] then [] else (decodeL l).1::mW n (l.drop (decodeL l).2)
def cV(l:List UInt8):List Nat:=mW l.length l
theorem mm:∀n,mW n []=[]
 | 0=>rfl
 | _+1=>by simp[mW]
theorem uw:∀(n m:Nat) (l:List UInt8),l.length≤n→l.length≤m→mW n l=mW m l
 | 0,m,l,hn,_=>by
   have:l=[]:=List.eq_nil_of_length_eq_zero (by omega);subst this
   rw[mm,mm]
 | n+1,0,l,_,hm=>by
   have:l=[]:=List.eq_nil_of_length_eq_zero (by omega);subst this
   rw[mm,mm]
 | n+1,m+1,l,hn,hm=>by
   by_cases hne:l=[]
   ·subst hne
    rw[mm,mm]
   ·have hw:=decodeL_width l
    have hl:0<l.length:=List.length_pos_iff.2 hne;simp only[mW,if_neg hne];rw[uw n m _ (by rw[List.length_drop];omega) (by rw[List.length_drop];omega)]
theorem pX:cV []=[]:=rfl
theorem qC(l:List UInt8)(hne:l≠[]):cV l=(decodeL l).1::cV (l.drop (decodeL l).2):=by
 have hw:=decodeL_width l;have hl:0<l.length:=List.length_pos_iff.2 hne;unfold cV;obtain⟨n,hn⟩:∃n,l.length=n+1:=⟨l.length-1,by omega⟩;rw[hn];simp only[mW,if_neg hne];rw[uw n _ _ (by rw[List.length_drop];omega) (Nat.le_refl _)]
theorem sJ:∀(n:Nat) (l:List UInt8),∀r∈mW n l,Vr r
 | 0,_,r,h=>by cases h
 | n+1,l,r,h=>by
   unfold mW at h;split at h
   ·cases h
   ·rcases List.mem_cons.1 h with rfl|h
    ·exact pz l
    ·exact sJ n _ r h
theorem kR(l:List UInt8):∀r∈cV l,Vr r:=sJ _ l
theorem vC:∀(n:Nat) (l:List UInt8),(mW n l).length≤n
 | 0,_=>Nat.le_refl _
 | n+1,l=>by
   unfold mW;split
   ·exact Nat.zero_le _
   ·have:=vC n (l.drop (decodeL l).2)
    simpa using this
theorem lq(l:List UInt8):(cV l).length≤l.length:=vC _ l
def en(r:Nat):List UInt8:=encodeRune (r:Int)
def enc(rs:List Nat):List UInt8:=rs.flatMap en
theorem qX:enc []=[]:=rfl
theorem dn(r:Nat)(rs:List Nat):enc (r::rs)=en r++enc rs:=rfl
theorem eF(a b:List Nat):enc (a++b)=enc a++enc b:=by simp[enc]
theorem nB(r:Nat):1≤(en r).length∧(en r).length≤4:=by
 have:=encodeRuneZ_length r
 simpa [en,encodeRune] using this
theorem mI(rs:List Nat):rs.length≤(enc rs).length∧(enc rs).length≤4 * rs.length:=by
 induction rs with
 | nil=>simp[enc]
 | cons r rs ih=>
   have:=nB r;rw[dn,List.length_append,List.length_cons];omega
theorem iq{z:Int}(h0:0≤z)(h1:z<256):((z.toNat.toUInt8).toNat:Int)=z:=by
 have h:(z.toNat.toUInt8).toNat=z.toNat:=by
  rw[Nat.toUInt8,UInt8.toNat_ofNat'];exact Nat.mod_eq_of_lt (by omega)
 rw[h];omega
theorem mn(r:Nat)(h:Vr r)(t:List UInt8):decodeL (en r++t)=(r,(en r).length):=by
 rw[decodeL_N];unfold Vr at h;unfold en encodeRune
 by_cases c1:r≤127
 ·rw[encodeRuneZ_one (by omega) (by omega)]
  have e0:=iq (z:=(r:Int)) (by omega) (by omega);simp only[List.map_cons,List.map_nil,List.cons_append,List.nil_append,List.getD_cons_zero,List.length_cons,List.length_nil];rw[decodeN,if_pos (by omega)]
  ext<;>simp only<;>omega
 by_cases c2:r≤2047
 ·rw[encodeRuneZ_two (by omega) (by omega)]
  have e0:=iq (z:=192+(r:Int)/64) (by omega) (by omega);have e1:=iq (z:=128+(r:Int) % 64) (by omega) (by omega);simp only[List.map_cons,List.map_nil,List.cons_append,List.nil_append,List.getD_cons_zero,List.getD_cons_succ,List.length_cons,List.length_nil];rw[decodeN,if_neg (by omega),if_pos (by omega),if_pos (by omega)]
  ext<;>simp only<;>omega
 by_cases c3:r≤65535
 ·rw[encodeRuneZ_three (by omega)]
  have e0:=iq (z:=224+(r:Int)/4096) (by omega) (by omega);have e1:=iq (z:=128+(r:Int)/64 % 64) (by omega) (by omega);have e2:=iq (z:=128+(r:Int) % 64) (by omega) (by omega);simp only[List.map_cons,List.map_nil,List.cons_append,List.nil_append,List.getD_cons_zero,List.getD_cons_succ,List.length_cons,List.length_nil];rw[decodeN,if_neg (by omega),if_neg (by omega),if_pos (by omega),if_pos (by omega)]
  ext<;>simp only<;>omega
 ·rw[encodeRuneZ_four (by omega) (by omega)]
  have e0:=iq (z:=240+(r:Int)/262144) (by omega) (by omega);have e1:=iq (z:=128+(r:Int)/4096 % 64) (by omega) (by omega);have e2:=iq (z:=128+(r:Int)/64 % 64) (by omega) (by omega);have e3:=iq (z:=128+(r:Int) % 64) (by omega) (by omega);simp only[List.map_cons,List.map_nil,List.cons_append,List.nil_append,List.getD_cons_zero,List.getD_cons_succ,List.length_cons,List.length_nil];rw[decodeN,if_neg (by omega),if_neg (by omega),if_neg (by omega),if_pos (by omega),if_pos (by omega)]
  ext<;>simp only<;>omega
theorem EL(r:Nat):en r≠[]:=λe=>by
 have:=nB r;rw[e] at this;simp at this
theorem vD:∀(rs:List Nat),(∀r∈rs,Vr r)→∀t,cV (enc rs++t)=rs++cV t
 | [],_,t=>rfl
 | r::rs,h,t=>by
   have hr:Vr r:=h r (by simp);have e:enc (r::rs)++t=en r++(enc rs++t):=by rw[dn,List.append_assoc]
   have hne:en r++(enc rs++t)≠[]:=λe=>EL r (List.append_eq_nil_iff.1 e).1
   rw[e,qC _ hne,mn r hr];simp only[List.drop_left'];rw[vD rs (λx hx=>h x (by simp[hx])) t];rfl
theorem qD(rs:List Nat)(h:∀r∈rs,Vr r):cV (enc rs)=rs:=by
 have:=vD rs h []
 simpa [pX] using this
def fq(c:Nat):Nat:=
 if (65≤c∧c≤90)∨(192≤c∧c≤222∧c≠215)∨(913≤c∧c≤937∧c≠930)∨(1040≤c∧c≤1071) then c+32
 else if 1024≤c∧c≤1039 then c+80 else c
theorem qE{c:Nat}(h:Vr c):Vr (fq c):=by
 unfold Vr at *;unfold fq;split
 ·omega
 ·split<;>omega
def jY(l:List UInt8):List Nat:=(cV l).map fq
theorem pg(l:List UInt8):∀r∈jY l,Vr r:=by
 intro r hr;obtain⟨x,hx,rfl⟩:=List.mem_map.1 hr;exact qE (kR l x hx)
def m0(l:List UInt8):List UInt8:=enc (jY l)
def d9(c:Nat):Bool:=if c<192 then (decide (97≤c∧c≤122∨48≤c∧c≤57)) else !decide (c=215∨c=247∨c=65533∨(8192≤c∧c≤8303)∨(12288≤c∧c≤12351))
def dl:List Nat→List Nat→List (List Nat)
 | cur,[]=>if cur=[] then [] else [cur]
 | cur,r::t=>if d9 r then dl (cur++[r]) t else (if cur=[] then [] else [cur])++dl [] t
def vE(rs:List Nat):List (List Nat):=(dl [] rs).map (·.take 32)
def tP(l:List UInt8):List (List UInt8):=(vE (jY l)).map enc
def js(s:ByteArray):List ByteArray:=(tP s.data.toList).map λw=>⟨w.toArray⟩
theorem rN:∀(rs cur:List Nat),∀w∈dl cur rs,∀r∈w,r∈cur∨r∈rs
 | [],cur,w,hw,r,hr=>by
   unfold dl at hw;split at hw
   ·cases hw
   ·simp only[List.mem_singleton] at hw
    subst hw
    exact .inl hr
 | a::t,cur,w,hw,r,hr=>by
   unfold dl at hw;split at hw
   ·rcases rN t _ w hw r hr with h|h
    ·rcases List.mem_append.1 h with h|h
     ·exact .inl h
     ·simp at h
      subst h;exact .inr (by simp)
    ·exact .inr (by simp[h])
   ·rcases List.mem_append.1 hw with hw|hw
    ·split at hw
     ·cases hw
     ·simp only[List.mem_singleton] at hw
      subst hw;exact .inl hr
    ·rcases rN t [] w hw r hr with h|h
     ·cases h
     ·exact .inr (by simp[h])
abbrev aX(s:ByteArray):List UInt8:=s.data.toList
def fB(l:List UInt8):ByteArray:=⟨l.toArray⟩
theorem eU(l:List UInt8):aX (fB l)=l:=rfl
theorem sK{a b:ByteArray}(h:aX a=aX b):a=b:=by
 have:=congrArg fB h;exact this
theorem aT(s:ByteArray):s.size=(aX s).length:=(Array.length_toList (xs:=s.data)).symm
def MP(s:ByteArray)(x:Nat×Nat):ByteArray:=s.extract x.1 x.2
theorem Ag(s:ByteArray)(a b c:List UInt8)(h:aX s=a++b++c):MP s (a.length,a.length+b.length)=fB b:=by
 apply sK;show (s.extract a.length (a.length+b.length)).data.toList=b
 rw[extract_data,show s.data.toList=a++b++c from h];simp[List.append_assoc]
theorem qY(s:ByteArray):∀(rest cur done:List Nat) (acc:List (Nat×Nat)) (fuel:Nat) (st:Option Nat),
  (∀r∈rest,Vr r)→aX s=enc done++enc cur++enc rest→(enc rest).length≤fuel→st=(if cur=[] then none else some (enc done).length)→
  (closeSpans s (spansFromP (λr=>!d9 r) s fuel ((enc done).length+(enc cur).length) st acc)).map (MP s)=acc.map (MP s)++(dl cur rest).map (λw=>fB (enc w))
 | [],cur,done,acc,fuel,st,_,hs,_,hst=>by
   have hsz:s.size=(enc done).length+(enc cur).length:=by
    rw[aT,hs];simp[qX]
   rw[spansFromP_end _ _ _ _ _ _ (by omega)];subst hst
   by_cases hc:cur=[]
   ·subst hc
    simp[closeSpans,dl]
   ·have h1:dl cur []=[cur]:=by simp[dl,hc]
    rw[h1];simp only[if_neg hc,closeSpans,List.map_append,List.map_cons,List.map_nil]
    rw[hsz,Ag s (enc done) (enc cur) [] (by rw[hs];simp[qX])]
 | r::t,cur,done,acc,fuel,st,hv,hs,hf,hst=>by
   have hl:=nB r;have hv':∀x∈t,Vr x:=λx hx=>hv x (by simp[hx])
   rw[dn,List.length_append] at hf;obtain⟨f,rfl⟩:∃f,fuel=f+1:=⟨fuel-1,by omega⟩
   have hsz:s.size=(enc done).length+(enc cur).length+((en r).length+(enc t).length):=by
    rw[aT,hs];simp[dn];omega
   have hdec:Utf8.decode s ((enc done).length+(enc cur).length)=(r,(en r).length):=by
    rw[←decodeL_drop,show s.data.toList=enc done++enc cur++enc (r::t) from hs,dn];rw[show (enc done).length+(enc cur).length=(enc done++enc cur).length by simp,List.drop_left']
    ·exact mn r (hv r (by simp)) _
    ·rfl
   simp only[spansFromP];rw[if_pos (by omega),hdec];subst hst;rcases(by cases d9 r<;>simp:d9 r=true∨d9 r=false) with Cv|Cv
   ·simp only[Cv]
    have h1:dl cur (r::t)=dl (cur++[r]) t:=by simp[dl,Cv]
    have e1:enc (cur++[r])=enc cur++en r:=by simp[enc]
    have hs':aX s=enc done++enc (cur++[r])++enc t:=by rw[hs,e1,dn];simp
    have ih:=λst=>qY s t (cur++[r]) done acc f st hv' hs' (by omega)
    rw[e1,List.length_append,←Nat.add_assoc] at ih;simp only[Bool.not_true,Bool.false_eq_true,if_false,h1]
    by_cases hc:cur=[]
    ·subst hc
     simp only[if_true,qX,List.length_nil,Nat.add_zero] at ih ⊢;exact ih _ (by simp)
    ·simp only[if_neg hc] at ih ⊢
     exact ih _ (by simp)
   ·simp only[Cv]
    simp only[Bool.not_false,if_true]
    by_cases hc:cur=[]
    ·subst hc
     have h1:dl [] (r::t)=dl [] t:=by simp[dl,Cv]
     have hs':aX s=enc (done++[r])++enc []++enc t:=by rw[hs,eF,dn];simp[enc]
     have ih:=qY s t [] (done++[r]) acc f none hv' hs' (by omega) (by simp);have e1:(enc (done++[r])).length+(enc ([]:List Nat)).length=(enc done).length+(enc ([]:List Nat)).length+(en r).length:=by simp[enc]
     rw[e1] at ih;simp only[if_true,h1];exact ih
    ·have h1:dl cur (r::t)=cur::dl [] t:=by simp[dl,Cv,hc]
     have hs':aX s=enc (done++cur++[r])++enc []++enc t:=by rw[hs,eF,eF,dn];simp[enc]
     have ih:=qY s t [] (done++cur++[r]) (acc++[((enc done).length,(enc done).length+(enc cur).length)]) f none hv' hs' (by omega) (by simp);have e1:(enc (done++cur++[r])).length+(enc ([]:List Nat)).length=(enc done).length+(enc cur).length+(en r).length:=by simp[enc];omega
     rw[e1] at ih;simp only[if_neg hc,h1];rw[ih];simp only[List.map_append,List.map_cons,List.map_nil,List.append_assoc,List.singleton_append];rw[Ag s (enc done) (enc cur) (enc (r::t)) hs]
theorem CC(rs:List Nat)(hv:∀r∈rs,Vr r):goFieldsP (λr=>!d9 r) (fB (enc rs))=(dl [] rs).map λw=>fB (enc w):=by
 have:=qY (fB (enc rs)) rs [] [] [] (fB (enc rs)).size none hv rfl (by rw[aT,eU];exact Nat.le_refl _) rfl;simp only[qX,List.length_nil,Nat.add_zero,List.map_nil,List.nil_append] at this;exact this
def yG(l:List (List UInt8)):Prop:=l.Pairwise (·<·)
theorem CD(a:List UInt8):¬a<a:=List.lt_irrefl _
theorem yG.eq{l l':List (List UInt8)}(h:yG l)(h':yG l')(hm:∀x,x∈l↔x∈l'):l=l':=by
 have ne:∀{a b:List UInt8},a<b→a≠b:=λhab e=>by
  subst e;exact CD _ hab
 have n1:l.Nodup:=List.Pairwise.imp ne h;have n2:l'.Nodup:=List.Pairwise.imp ne h';exact((List.perm_ext_iff_of_nodup n1 n2).2 hm).eq_of_pairwise (λ_ _ _ _ hab Ah=>absurd (List.lt_trans hab Ah) (CD _)) h h'
theorem Pe{a b:List UInt8}(h:¬a<b)(hne:a≠b):b<a:=by
 by_cases h1:b<a
 ·exact h1
 ·exact absurd (List.le_antisymm (List.not_lt.1 h1) (List.not_lt.1 h)) hne
def kK(l:List UInt8)(k:Nat):Nat:=(l.getD k 0).toNat
theorem rO(l:List UInt8)(k:Nat):kK l k<256:=(l.getD k 0).toNat_lt
def mq(l:List UInt8)(k:Nat):Prop:=128≤kK l k∧kK l k<192
instance (l:List UInt8) (k:Nat):Decidable (mq l k):=inferInstanceAs (Decidable (_∧_))
def mX(a:Nat)(l:List UInt8):Nat→Nat
 | 0=>a
 | k+1=>if k=0 then a else mX a l k * 64+(kK l k-128)
theorem pI(a:Nat)(l:List UInt8):mX a l 1=a:=rfl
theorem kS(a:Nat)(l:List UInt8)(k:Nat)(h:1≤k):mX a l (k+1)=mX a l k * 64+(kK l k-128):=by
 obtain⟨j,rfl⟩:∃j,k=j+1:=⟨k-1,by omega⟩;simp[mX]
def qw(n r least:Nat):Nat×Nat:=if r<least∨1114111<r∨(55296≤r∧r≤57343) then (65533,1) else (r,n)
theorem qF(l:List UInt8):decodeL l=decodeN l.length (kK l 0) (kK l 1) (kK l 2) (kK l 3):=decodeL_N l
theorem Hu{l:List UInt8}{k:Nat}(h:l.length≤k):kK l k=0:=by
 unfold kK;rw[List.getD_eq_getElem?_getD,List.getElem?_eq_none h];rfl
theorem RQ{l:List UInt8}(h:kK l 0<128):decodeL l=(kK l 0,1):=by
 rw[qF,decodeN,if_pos h]
theorem MQ{l:List UInt8}(h:128≤kK l 0∧kK l 0<192∨248≤kK l 0):decodeL l=(65533,1):=by
 rw[qF,decodeN,if_neg (by omega),if_neg (by omega),if_neg (by omega),if_neg (by omega)]
theorem EM{l:List UInt8}(h:192≤kK l 0∧kK l 0<224)(k:Nat)(hk:1≤k∧k<2)(ht:¬mq l k):decodeL l=(65533,1):=by
 obtain rfl:k=1:=by omega
 unfold mq at ht;rw[qF,decodeN,if_neg (by omega),if_neg (by omega),if_neg (by omega),if_neg (by omega)]
theorem EN{l:List UInt8}(h:224≤kK l 0∧kK l 0<240)(k:Nat)(hk:1≤k∧k<3)(ht:¬mq l k):decodeL l=(65533,1):=by
 unfold mq at ht;have:k=1∨k=2:=by omega
 rw[qF,decodeN,if_neg (by omega),if_neg (by omega)];rcases this with rfl|rfl
 ·rw[if_neg (by omega),if_neg (by omega)]
 ·rw[if_neg (by omega),if_neg (by omega)]
theorem EO{l:List UInt8}(h:240≤kK l 0∧kK l 0<248)(k:Nat)(hk:1≤k∧k<4)(ht:¬mq l k):decodeL l=(65533,1):=by
 unfold mq at ht;have:k=1∨k=2∨k=3:=by omega
 rw[qF,decodeN,if_neg (by omega),if_neg (by omega),if_neg (by omega)];rcases this with rfl|rfl|rfl<;>rw[if_neg (by omega)]
theorem tQ{l:List UInt8}{k:Nat}(h:mq l k):k<l.length:=by
 by_cases e:k<l.length
 ·exact e
 ·have:=Hu (l:=l) (k:=k) (by omega)
  unfold mq at h;omega
theorem Hv{l:List UInt8}(h:192≤kK l 0∧kK l 0<224)(ht:∀k,1≤k∧k<2→mq l k):decodeL l=qw 2 (mX (kK l 0-192) l 2) 128:=by
 have h1:=ht 1 (by omega);have l1:=tQ h1;unfold mq at h1;rw[kS _ _ 1 (by omega),pI,qF,decodeN,if_neg (by omega),if_pos (by omega)];unfold qw;have e:kK l 0 % 32 * 64+kK l 1 % 64=(kK l 0-192) * 64+(kK l 1-128):=by omega
 rw[e];have:=rO l 1;split
 ·rw[if_neg (by omega)]
 ·rw[if_pos (by omega)]
theorem Hw{l:List UInt8}(h:224≤kK l 0∧kK l 0<240)(ht:∀k,1≤k∧k<3→mq l k):decodeL l=qw 3 (mX (kK l 0-224) l 3) 2048:=by
 have h1:=ht 1 (by omega);have h2:=ht 2 (by omega);have l2:=tQ h2;unfold mq at h1 h2;rw[kS _ _ 2 (by omega),kS _ _ 1 (by omega),pI,qF,decodeN,if_neg (by omega),if_neg (by omega),if_pos (by omega)];unfold qw;have e:kK l 0 % 16 * 4096+kK l 1 % 64 * 64+kK l 2 % 64=((kK l 0-224) * 64+(kK l 1-128)) * 64+(kK l 2-128):=by omega
 rw[e];split
 ·rw[if_neg (by omega)]
 ·rw[if_pos (by omega)]
theorem Hx{l:List UInt8}(h:240≤kK l 0∧kK l 0<248)(ht:∀k,1≤k∧k<4→mq l k):decodeL l=qw 4 (mX (kK l 0-240) l 4) 65536:=by
 have h1:=ht 1 (by omega);have h2:=ht 2 (by omega);have h3:=ht 3 (by omega);have l3:=tQ h3;unfold mq at h1 h2 h3;rw[kS _ _ 3 (by omega),kS _ _ 2 (by omega),kS _ _ 1 (by omega),pI,qF,decodeN,if_neg (by omega),if_neg (by omega),if_neg (by omega),if_pos (by omega)];unfold qw;have e:kK l 0 % 8 * 262144+kK l 1 % 64 * 4096+kK l 2 % 64 * 64+kK l 3 % 64=(((kK l 0-240) * 64+(kK l 1-128)) * 64+(kK l 2-128)) * 64+(kK l 3-128):=by omega
 rw[e];split
 ·rw[if_neg (by omega)]
 ·rw[if_pos (by omega)]
theorem qZ(a:Nat)(l:List UInt8)(ha:a<32):∀k,k≤4→mX a l k<9000000
 | k,hk=>by
   have b1:=rO l 1;have b2:=rO l 2;have b3:=rO l 3;have:k=0∨k=1∨k=2∨k=3∨k=4:=by omega
   rcases this with rfl|rfl|rfl|rfl|rfl<;>simp[mX]<;>omega
theorem Aj(c a b:Int)(w:World):Calls Tryz.prog 231 #[.int .i32 c,.int .i32 a,.int .i32 b] w λe w'=>e=.returned (.bool (decide (a≤c∧c≤b)))∧w=w':=by
 go_enter Tryz.func231,Tryz.ntmps231;go_wp2
 all_goals
  go_ret;refine⟨af ?_,rfl⟩;rw[Bool.eq_iff_iff];simp
  try omega
theorem Fp(c:Nat)(w:World)(hc:c≤1114111):Calls Tryz.prog 211 #[.int .i32 c] w λe w'=>e=.returned (.int .i32 (fq c))∧w=w':=by
 go_enter Tryz.func211,Tryz.ntmps211;go_wp2_with (go_at_call 231;refine(Aj _ _ _ _).mono ?_;rintro e w' ⟨rfl,rfl⟩)
 all_goals
  go_ret;refine⟨sF ?_,rfl⟩
  try simp only[beq_iff_eq,bne_iff_ne,bne_eq_false_iff_eq,beq_eq_false_iff_ne,ne_eq,decide_eq_true_eq,decide_eq_false_iff_not,Bool.or_eq_true,Bool.or_eq_false_iff,Bool.and_eq_true,Bool.and_eq_false_iff] at *
  unfold fq;split
  ·omega
  ·split<;>omega
theorem Ak(c:Nat)(w:World)(hc:c≤1114111):Calls Tryz.prog 181 #[.int .i32 c] w λe w'=>e=.returned (.bool (d9 c))∧w=w':=by
 go_enter Tryz.func181,Tryz.ntmps181;go_wp2
 all_goals
  go_ret;refine⟨af ?_,rfl⟩
  try simp only[beq_iff_eq,bne_iff_ne,bne_eq_false_iff_eq,beq_eq_false_iff_ne,ne_eq,decide_eq_true_eq,decide_eq_false_iff_not,Bool.or_eq_true,Bool.or_eq_false_iff,Bool.and_eq_true,Bool.and_eq_false_iff] at *
  unfold d9;rw[Bool.eq_iff_iff];split
  all_goals (simp;try omega)
theorem Fq(c:Nat)(w:World)(hc:c≤1114111):Calls Tryz.prog 217 #[.int .i32 c] w λe w'=>e=.returned (.int .i32 (fq c))∧w=w':=by
 go_enter Tryz.func217,Tryz.ntmps217;go_wp2
 all_goals
  go_ret;refine⟨sF ?_,rfl⟩
  try simp only[beq_iff_eq,bne_iff_ne,bne_eq_false_iff_eq,beq_eq_false_iff_ne,ne_eq,decide_eq_true_eq,decide_eq_false_iff_not,Bool.or_eq_true,Bool.or_eq_false_iff,Bool.and_eq_true,Bool.and_eq_false_iff] at *
  unfold fq;split
  ·omega
  ·split<;>omega
theorem Ap(c:Nat)(w:World)(hc:c≤1114111):Calls Tryz.prog 199 #[.int .i32 c] w λe w'=>e=.returned (.bool (d9 c))∧w=w':=by
 go_enter Tryz.func199,Tryz.ntmps199;go_wp2
 all_goals
  go_ret;refine⟨af ?_,rfl⟩
  try simp only[beq_iff_eq,bne_iff_ne,bne_eq_false_iff_eq,beq_eq_false_iff_ne,ne_eq,decide_eq_true_eq,decide_eq_false_iff_not,Bool.or_eq_true,Bool.or_eq_false_iff,Bool.and_eq_true,Bool.and_eq_false_iff] at *
  unfold d9;rw[Bool.eq_iff_iff];split
  all_goals (simp;try omega)
theorem ny(c:Int)(w:World):Calls Tryz.prog 216 #[.int .u8 c] w λe w'=>e=.returned (.bool (decide (128≤c∧c<192)))∧w=w':=by
 go_enter Tryz.func216,Tryz.ntmps216;go_wp2
 all_goals
  go_ret;refine⟨af ?_,rfl⟩;rw[Bool.eq_iff_iff];simp
  try omega
end Go.Proofs.YtaecjmiobllhmaaGreat
