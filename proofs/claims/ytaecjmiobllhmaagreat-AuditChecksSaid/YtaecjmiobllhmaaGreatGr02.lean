/- Words. -/
import Derived.Lib.MapLaws
import Derived.Lib.FieldsP
import Derived.Lib.Strings
import Derived.Lib.TrimAscii
import Derived.Lib.SlicesCompact
import Derived.Test.YtaecjmiobllhmaaGreatProg
import Derived.Test.YtaecjmiobllhmaaGreatGr01
set_option linter.unusedVariables false
set_option linter.unusedSimpArgs false
set_option maxRecDepth 100000
set_option maxHeartbeats 16000000
namespace Go.Proofs.YtaecjmiobllhmaaGreat
open Go.Lib Go.RowKit
def Vr(r:Nat):Prop:=r<55296∨(57344≤r∧r≤1114111)
instance (r:Nat):Decidable (Vr r):=inferInstanceAs (Decidable (_∨_))
theorem pB(l:List UInt8):Vr (decodeL l).1:=by
 rw[decodeL_N];have k0:=(l.getD 0 0).toNat_lt;have k1:=(l.getD 1 0).toNat_lt;have k2:=(l.getD 2 0).toNat_lt;have k3:=(l.getD 3 0).toNat_lt;unfold Vr;rcases decodeN_shape l.length (l.getD 0 0).toNat (l.getD 1 0).toNat (l.getD 2 0).toNat (l.getD 3 0).toNat with ⟨c,e⟩|⟨c1,c2,c3,cv,e⟩|⟨c1,c2,c3,c4,cv,cs,e⟩|⟨c1,c2,c3,c4,c5,cv,cw,e⟩|e
 all_goals (rw[e];dsimp only;omega)
def mV:Nat→List UInt8→List Nat
 | 0,_=>[]
 | n+1,l=>if l=[] then [] else (decodeL l).1::mV n (l.drop (decodeL l).2)
def bV(l:List UInt8):List Nat:=mV l.length l
theorem mj:∀n,mV n []=[]
 | 0=>rfl
 | _+1=>by simp[mV]
theorem ur:∀(n m:Nat) (l:List UInt8),l.length≤n→l.length≤m→mV n l=mV m l
 | 0,m,l,hn,_=>by
   have:l=[]:=List.eq_nil_of_length_eq_zero (by omega);subst this
   rw[mj,mj]
 | n+1,0,l,_,hm=>by
   have:l=[]:=List.eq_nil_of_length_eq_zero (by omega);subst this
   rw[mj,mj]
 | n+1,m+1,l,hn,hm=>by
   by_cases hne:l=[]
   ·subst hne
    rw[mj,mj]
   ·have hw:=decodeL_width l
    have hl:0<l.length:=List.length_pos_iff.2 hne;simp only[mV,if_neg hne];rw[ur n m _ (by rw[List.length_drop];omega) (by rw[List.length_drop];omega)]
theorem p9:bV []=[]:=rfl
theorem qP(l:List UInt8)(hne:l≠[]):bV l=(decodeL l).1::bV (l.drop (decodeL l).2):=by
 have hw:=decodeL_width l;have hl:0<l.length:=List.length_pos_iff.2 hne;unfold bV;obtain⟨n,hn⟩:∃n,l.length=n+1:=⟨l.length-1,by omega⟩;rw[hn];simp only[mV,if_neg hne];rw[ur n _ _ (by rw[List.length_drop];omega) (Nat.le_refl _)]
theorem sN:∀(n:Nat) (l:List UInt8),∀r∈mV n l,Vr r
 | 0,_,r,h=>by cases h
 | n+1,l,r,h=>by
   unfold mV at h;split at h
   ·cases h
   ·rcases List.mem_cons.1 h with rfl|h
    ·exact pB l
    ·exact sN n _ r h
theorem qa(l:List UInt8):∀r∈bV l,Vr r:=sN _ l
theorem vD:∀(n:Nat) (l:List UInt8),(mV n l).length≤n
 | 0,_=>Nat.le_refl _
 | n+1,l=>by
   unfold mV;split
   ·exact Nat.zero_le _
   ·have:=vD n (l.drop (decodeL l).2)
    simpa using this
theorem nD(l:List UInt8):(bV l).length≤l.length:=vD _ l
def ku(r:Nat):List UInt8:=encodeRune (r:Int)
def enc(rs:List Nat):List UInt8:=rs.flatMap ku
theorem sO:enc []=[]:=rfl
theorem kw(r:Nat)(rs:List Nat):enc (r::rs)=ku r++enc rs:=rfl
theorem kz(a b:List Nat):enc (a++b)=enc a++enc b:=by simp[enc]
theorem sP(r:Nat):1≤(ku r).length∧(ku r).length≤4:=by
 have:=encodeRuneZ_length r
 simpa [ku,encodeRune] using this
theorem po(rs:List Nat):rs.length≤(enc rs).length∧(enc rs).length≤4 * rs.length:=by
 induction rs with
 | nil=>simp[enc]
 | cons r rs ih=>
   have:=sP r;rw[kw,List.length_append,List.length_cons];omega
theorem gH{z:Int}(h0:0≤z)(h1:z<256):((z.toNat.toUInt8).toNat:Int)=z:=by
 have h:(z.toNat.toUInt8).toNat=z.toNat:=by
  rw[Nat.toUInt8,UInt8.toNat_ofNat'];exact Nat.mod_eq_of_lt (by omega)
 rw[h];omega
theorem rY(r:Nat)(h:Vr r)(t:List UInt8):decodeL (ku r++t)=(r,(ku r).length):=by
 rw[decodeL_N];unfold Vr at h;unfold ku encodeRune
 by_cases c1:r≤127
 ·rw[encodeRuneZ_one (by omega) (by omega)]
  have e0:=gH (z:=(r:Int)) (by omega) (by omega);simp only[List.map_cons,List.map_nil,List.cons_append,List.nil_append,List.getD_cons_zero,List.length_cons,List.length_nil];rw[decodeN,if_pos (by omega)]
  ext<;>simp only<;>omega
 by_cases c2:r≤2047
 ·rw[encodeRuneZ_two (by omega) (by omega)]
  have e0:=gH (z:=192+(r:Int)/64) (by omega) (by omega);have e1:=gH (z:=128+(r:Int) % 64) (by omega) (by omega);simp only[List.map_cons,List.map_nil,List.cons_append,List.nil_append,List.getD_cons_zero,List.getD_cons_succ,List.length_cons,List.length_nil];rw[decodeN,if_neg (by omega),if_pos (by omega),if_pos (by omega)]
  ext<;>simp only<;>omega
 by_cases c3:r≤65535
 ·rw[encodeRuneZ_three (by omega)]
  have e0:=gH (z:=224+(r:Int)/4096) (by omega) (by omega);have e1:=gH (z:=128+(r:Int)/64 % 64) (by omega) (by omega);have e2:=gH (z:=128+(r:Int) % 64) (by omega) (by omega);simp only[List.map_cons,List.map_nil,List.cons_append,List.nil_append,List.getD_cons_zero,List.getD_cons_succ,List.length_cons,List.length_nil];rw[decodeN,if_neg (by omega),if_neg (by omega),if_pos (by omega),if_pos (by omega)]
  ext<;>simp only<;>omega
 ·rw[encodeRuneZ_four (by omega) (by omega)]
  have e0:=gH (z:=240+(r:Int)/262144) (by omega) (by omega);have e1:=gH (z:=128+(r:Int)/4096 % 64) (by omega) (by omega);have e2:=gH (z:=128+(r:Int)/64 % 64) (by omega) (by omega);have e3:=gH (z:=128+(r:Int) % 64) (by omega) (by omega);simp only[List.map_cons,List.map_nil,List.cons_append,List.nil_append,List.getD_cons_zero,List.getD_cons_succ,List.length_cons,List.length_nil];rw[decodeN,if_neg (by omega),if_neg (by omega),if_neg (by omega),if_pos (by omega),if_pos (by omega)]
  ext<;>simp only<;>omega
theorem Ja(r:Nat):ku r≠[]:=λe=>by
 have:=sP r;rw[e] at this;simp at this
theorem vE:∀(rs:List Nat),(∀r∈rs,Vr r)→∀t,bV (enc rs++t)=rs++bV t
 | [],_,t=>rfl
 | r::rs,h,t=>by
   have hr:Vr r:=h r (by simp);have e:enc (r::rs)++t=ku r++(enc rs++t):=by rw[kw,List.append_assoc]
   have hne:ku r++(enc rs++t)≠[]:=λe=>Ja r (List.append_eq_nil_iff.1 e).1
   rw[e,qP _ hne,rY r hr];simp only[List.drop_left'];rw[vE rs (λx hx=>h x (by simp[hx])) t];rfl
theorem Ab(rs:List Nat)(h:∀r∈rs,Vr r):bV (enc rs)=rs:=by
 have:=vE rs h []
 simpa [p9] using this
def d8(c:Nat):Nat:=
 if (65≤c∧c≤90)∨(192≤c∧c≤222∧c≠215)∨(913≤c∧c≤937∧c≠930)∨(1040≤c∧c≤1071) then c+32
 else if 1024≤c∧c≤1039 then c+80 else c
theorem qQ{c:Nat}(h:Vr c):Vr (d8 c):=by
 unfold Vr at *;unfold d8;split
 ·omega
 ·split<;>omega
def jF(l:List UInt8):List Nat:=(bV l).map d8
theorem pp(l:List UInt8):∀r∈jF l,Vr r:=by
 intro r hr;obtain⟨x,hx,rfl⟩:=List.mem_map.1 hr;exact qQ (qa l x hx)
def nc(l:List UInt8):List UInt8:=enc (jF l)
def cJ(c:Nat):Bool:=if c<192 then (decide (97≤c∧c≤122∨48≤c∧c≤57)) else !decide (c=215∨c=247∨c=65533∨(8192≤c∧c≤8303)∨(12288≤c∧c≤12351))
def bR:List Nat→List Nat→List (List Nat)
 | cur,[]=>if cur=[] then [] else [cur]
 | cur,r::t=>if cJ r then bR (cur++[r]) t else (if cur=[] then [] else [cur])++bR [] t
def vF(rs:List Nat):List (List Nat):=(bR [] rs).map (·.take 32)
def tU(l:List UInt8):List (List UInt8):=(vF (jF l)).map enc
def mW(s:ByteArray):List ByteArray:=(tU s.data.toList).map λw=>⟨w.toArray⟩
theorem rZ:∀(rs cur:List Nat),∀w∈bR cur rs,∀r∈w,r∈cur∨r∈rs
 | [],cur,w,hw,r,hr=>by
   unfold bR at hw;split at hw
   ·cases hw
   ·simp only[List.mem_singleton] at hw
    subst hw
    exact .inl hr
 | a::t,cur,w,hw,r,hr=>by
   unfold bR at hw;split at hw
   ·rcases rZ t _ w hw r hr with h|h
    ·rcases List.mem_append.1 h with h|h
     ·exact .inl h
     ·simp at h
      subst h;exact .inr (by simp)
    ·exact .inr (by simp[h])
   ·rcases List.mem_append.1 hw with hw|hw
    ·split at hw
     ·cases hw
     ·simp only[List.mem_singleton] at hw
      subst hw;exact .inl hr
    ·rcases rZ t [] w hw r hr with h|h
     ·cases h
     ·exact .inr (by simp[h])
abbrev aU(s:ByteArray):List UInt8:=s.data.toList
def kC(l:List UInt8):ByteArray:=⟨l.toArray⟩
theorem mE(l:List UInt8):aU (kC l)=l:=rfl
theorem vg{a b:ByteArray}(h:aU a=aU b):a=b:=by
 have:=congrArg kC h;exact this
theorem bg(s:ByteArray):s.size=(aU s).length:=(Array.length_toList (xs:=s.data)).symm
def LJ(s:ByteArray)(x:Nat×Nat):ByteArray:=s.extract x.1 x.2
theorem Ac(s:ByteArray)(a b c:List UInt8)(h:aU s=a++b++c):LJ s (a.length,a.length+b.length)=kC b:=by
 apply vg;show (s.extract a.length (a.length+b.length)).data.toList=b
 rw[extract_data,show s.data.toList=a++b++c from h];simp[List.append_assoc]
theorem rx(s:ByteArray):∀(rest cur done:List Nat) (acc:List (Nat×Nat)) (fuel:Nat) (st:Option Nat),
  (∀r∈rest,Vr r)→aU s=enc done++enc cur++enc rest→(enc rest).length≤fuel→st=(if cur=[] then none else some (enc done).length)→
  (closeSpans s (spansFromP (λr=>!cJ r) s fuel ((enc done).length+(enc cur).length) st acc)).map (LJ s)=acc.map (LJ s)++(bR cur rest).map (λw=>kC (enc w))
 | [],cur,done,acc,fuel,st,_,hs,_,hst=>by
   have hsz:s.size=(enc done).length+(enc cur).length:=by
    rw[bg,hs];simp[sO]
   rw[spansFromP_end _ _ _ _ _ _ (by omega)];subst hst
   by_cases hc:cur=[]
   ·subst hc
    simp[closeSpans,bR]
   ·have h1:bR cur []=[cur]:=by simp[bR,hc]
    rw[h1];simp only[if_neg hc,closeSpans,List.map_append,List.map_cons,List.map_nil]
    rw[hsz,Ac s (enc done) (enc cur) [] (by rw[hs];simp[sO])]
 | r::t,cur,done,acc,fuel,st,hv,hs,hf,hst=>by
   have hl:=sP r;have hv':∀x∈t,Vr x:=λx hx=>hv x (by simp[hx])
   rw[kw,List.length_append] at hf;obtain⟨f,rfl⟩:∃f,fuel=f+1:=⟨fuel-1,by omega⟩
   have hsz:s.size=(enc done).length+(enc cur).length+((ku r).length+(enc t).length):=by
    rw[bg,hs];simp[kw];omega
   have hdec:Utf8.decode s ((enc done).length+(enc cur).length)=(r,(ku r).length):=by
    rw[←decodeL_drop,show s.data.toList=enc done++enc cur++enc (r::t) from hs,kw];rw[show (enc done).length+(enc cur).length=(enc done++enc cur).length by simp,List.drop_left']
    ·exact rY r (hv r (by simp)) _
    ·rfl
   simp only[spansFromP];rw[if_pos (by omega),hdec];subst hst;rcases(by cases cJ r<;>simp:cJ r=true∨cJ r=false) with Ce|Ce
   ·simp only[Ce]
    have h1:bR cur (r::t)=bR (cur++[r]) t:=by simp[bR,Ce]
    have e1:enc (cur++[r])=enc cur++ku r:=by simp[enc]
    have hs':aU s=enc done++enc (cur++[r])++enc t:=by rw[hs,e1,kw];simp
    have ih:=λst=>rx s t (cur++[r]) done acc f st hv' hs' (by omega)
    rw[e1,List.length_append,←Nat.add_assoc] at ih;simp only[Bool.not_true,Bool.false_eq_true,if_false,h1]
    by_cases hc:cur=[]
    ·subst hc
     simp only[if_true,sO,List.length_nil,Nat.add_zero] at ih ⊢;exact ih _ (by simp)
    ·simp only[if_neg hc] at ih ⊢
     exact ih _ (by simp)
   ·simp only[Ce]
    simp only[Bool.not_false,if_true]
    by_cases hc:cur=[]
    ·subst hc
     have h1:bR [] (r::t)=bR [] t:=by simp[bR,Ce]
     have hs':aU s=enc (done++[r])++enc []++enc t:=by rw[hs,kz,kw];simp[enc]
     have ih:=rx s t [] (done++[r]) acc f none hv' hs' (by omega) (by simp);have e1:(enc (done++[r])).length+(enc ([]:List Nat)).length=(enc done).length+(enc ([]:List Nat)).length+(ku r).length:=by simp[enc]
     rw[e1] at ih;simp only[if_true,h1];exact ih
    ·have h1:bR cur (r::t)=cur::bR [] t:=by simp[bR,Ce,hc]
     have hs':aU s=enc (done++cur++[r])++enc []++enc t:=by rw[hs,kz,kz,kw];simp[enc]
     have ih:=rx s t [] (done++cur++[r]) (acc++[((enc done).length,(enc done).length+(enc cur).length)]) f none hv' hs' (by omega) (by simp);have e1:(enc (done++cur++[r])).length+(enc ([]:List Nat)).length=(enc done).length+(enc cur).length+(ku r).length:=by simp[enc];omega
     rw[e1] at ih;simp only[if_neg hc,h1];rw[ih];simp only[List.map_append,List.map_cons,List.map_nil,List.append_assoc,List.singleton_append];rw[Ac s (enc done) (enc cur) (enc (r::t)) hs]
theorem Ck(rs:List Nat)(hv:∀r∈rs,Vr r):goFieldsP (λr=>!cJ r) (kC (enc rs))=(bR [] rs).map λw=>kC (enc w):=by
 have:=rx (kC (enc rs)) rs [] [] [] (kC (enc rs)).size none hv rfl (by rw[bg,mE];exact Nat.le_refl _) rfl;simp only[sO,List.length_nil,Nat.add_zero,List.map_nil,List.nil_append] at this;exact this
def yz(l:List (List UInt8)):Prop:=l.Pairwise (·<·)
theorem Cl(a:List UInt8):¬a<a:=List.lt_irrefl _
theorem yz.eq{l l':List (List UInt8)}(h:yz l)(h':yz l')(hm:∀x,x∈l↔x∈l'):l=l':=by
 have ne:∀{a b:List UInt8},a<b→a≠b:=λhab e=>by
  subst e;exact Cl _ hab
 have n1:l.Nodup:=List.Pairwise.imp ne h;have n2:l'.Nodup:=List.Pairwise.imp ne h';exact((List.perm_ext_iff_of_nodup n1 n2).2 hm).eq_of_pairwise (λ_ _ _ _ hab Jb=>absurd (List.lt_trans hab Jb) (Cl _)) h h'
theorem NF{a b:List UInt8}(h:¬a<b)(hne:a≠b):b<a:=by
 by_cases h1:b<a
 ·exact h1
 ·exact absurd (List.le_antisymm (List.not_lt.1 h1) (List.not_lt.1 h)) hne
def kr(l:List UInt8)(k:Nat):Nat:=(l.getD k 0).toNat
theorem r9(l:List UInt8)(k:Nat):kr l k<256:=(l.getD k 0).toNat_lt
def ml(l:List UInt8)(k:Nat):Prop:=128≤kr l k∧kr l k<192
instance (l:List UInt8) (k:Nat):Decidable (ml l k):=inferInstanceAs (Decidable (_∧_))
def mX(a:Nat)(l:List UInt8):Nat→Nat
 | 0=>a
 | k+1=>if k=0 then a else mX a l k * 64+(kr l k-128)
theorem pM(a:Nat)(l:List UInt8):mX a l 1=a:=rfl
theorem kE(a:Nat)(l:List UInt8)(k:Nat)(h:1≤k):mX a l (k+1)=mX a l k * 64+(kr l k-128):=by
 obtain⟨j,rfl⟩:∃j,k=j+1:=⟨k-1,by omega⟩;simp[mX]
def qF(n r least:Nat):Nat×Nat:=if r<least∨1114111<r∨(55296≤r∧r≤57343) then (65533,1) else (r,n)
theorem qR(l:List UInt8):decodeL l=decodeN l.length (kr l 0) (kr l 1) (kr l 2) (kr l 3):=decodeL_N l
theorem GF{l:List UInt8}{k:Nat}(h:l.length≤k):kr l k=0:=by
 unfold kr;rw[List.getD_eq_getElem?_getD,List.getElem?_eq_none h];rfl
theorem PZ{l:List UInt8}(h:kr l 0<128):decodeL l=(kr l 0,1):=by
 rw[qR,decodeN,if_pos h]
theorem LK{l:List UInt8}(h:128≤kr l 0∧kr l 0<192∨248≤kr l 0):decodeL l=(65533,1):=by
 rw[qR,decodeN,if_neg (by omega),if_neg (by omega),if_neg (by omega),if_neg (by omega)]
theorem D9{l:List UInt8}(h:192≤kr l 0∧kr l 0<224)(k:Nat)(hk:1≤k∧k<2)(ht:¬ml l k):decodeL l=(65533,1):=by
 obtain rfl:k=1:=by omega
 unfold ml at ht;rw[qR,decodeN,if_neg (by omega),if_neg (by omega),if_neg (by omega),if_neg (by omega)]
theorem Eb{l:List UInt8}(h:224≤kr l 0∧kr l 0<240)(k:Nat)(hk:1≤k∧k<3)(ht:¬ml l k):decodeL l=(65533,1):=by
 unfold ml at ht;have:k=1∨k=2:=by omega
 rw[qR,decodeN,if_neg (by omega),if_neg (by omega)];rcases this with rfl|rfl
 ·rw[if_neg (by omega),if_neg (by omega)]
 ·rw[if_neg (by omega),if_neg (by omega)]
theorem Ec{l:List UInt8}(h:240≤kr l 0∧kr l 0<248)(k:Nat)(hk:1≤k∧k<4)(ht:¬ml l k):decodeL l=(65533,1):=by
 unfold ml at ht;have:k=1∨k=2∨k=3:=by omega
 rw[qR,decodeN,if_neg (by omega),if_neg (by omega),if_neg (by omega)];rcases this with rfl|rfl|rfl<;>rw[if_neg (by omega)]
theorem tV{l:List UInt8}{k:Nat}(h:ml l k):k<l.length:=by
 by_cases e:k<l.length
 ·exact e
 ·have:=GF (l:=l) (k:=k) (by omega)
  unfold ml at h;omega
theorem GG{l:List UInt8}(h:192≤kr l 0∧kr l 0<224)(ht:∀k,1≤k∧k<2→ml l k):decodeL l=qF 2 (mX (kr l 0-192) l 2) 128:=by
 have h1:=ht 1 (by omega);have l1:=tV h1;unfold ml at h1;rw[kE _ _ 1 (by omega),pM,qR,decodeN,if_neg (by omega),if_pos (by omega)];unfold qF;have e:kr l 0 % 32 * 64+kr l 1 % 64=(kr l 0-192) * 64+(kr l 1-128):=by omega
 rw[e];have:=r9 l 1;split
 ·rw[if_neg (by omega)]
 ·rw[if_pos (by omega)]
theorem GH{l:List UInt8}(h:224≤kr l 0∧kr l 0<240)(ht:∀k,1≤k∧k<3→ml l k):decodeL l=qF 3 (mX (kr l 0-224) l 3) 2048:=by
 have h1:=ht 1 (by omega);have h2:=ht 2 (by omega);have l2:=tV h2;unfold ml at h1 h2;rw[kE _ _ 2 (by omega),kE _ _ 1 (by omega),pM,qR,decodeN,if_neg (by omega),if_neg (by omega),if_pos (by omega)];unfold qF;have e:kr l 0 % 16 * 4096+kr l 1 % 64 * 64+kr l 2 % 64=((kr l 0-224) * 64+(kr l 1-128)) * 64+(kr l 2-128):=by omega
 rw[e];split
 ·rw[if_neg (by omega)]
 ·rw[if_pos (by omega)]
theorem GI{l:List UInt8}(h:240≤kr l 0∧kr l 0<248)(ht:∀k,1≤k∧k<4→ml l k):decodeL l=qF 4 (mX (kr l 0-240) l 4) 65536:=by
 have h1:=ht 1 (by omega);have h2:=ht 2 (by omega);have h3:=ht 3 (by omega);have l3:=tV h3;unfold ml at h1 h2 h3;rw[kE _ _ 3 (by omega),kE _ _ 2 (by omega),kE _ _ 1 (by omega),pM,qR,decodeN,if_neg (by omega),if_neg (by omega),if_neg (by omega),if_pos (by omega)];unfold qF;have e:kr l 0 % 8 * 262144+kr l 1 % 64 * 4096+kr l 2 % 64 * 64+kr l 3 % 64=(((kr l 0-240) * 64+(kr l 1-128)) * 64+(kr l 2-128)) * 64+(kr l 3-128):=by omega
 rw[e];split
 ·rw[if_neg (by omega)]
 ·rw[if_pos (by omega)]
theorem ry(a:Nat)(l:List UInt8)(ha:a<32):∀k,k≤4→mX a l k<9000000
 | k,hk=>by
   have b1:=r9 l 1;have b2:=r9 l 2;have b3:=r9 l 3;have:k=0∨k=1∨k=2∨k=3∨k=4:=by omega
   rcases this with rfl|rfl|rfl|rfl|rfl<;>simp[mX]<;>omega
theorem Ad(c a b:Int)(w:World):Calls Tryz.prog 231 #[.int .i32 c,.int .i32 a,.int .i32 b] w λe w'=>e=.returned (.bool (decide (a≤c∧c≤b)))∧w=w':=by
 go_enter Tryz.func231,Tryz.ntmps231;go_wp2
 all_goals
  go_ret;refine⟨af ?_,rfl⟩;rw[Bool.eq_iff_iff];simp
  try omega
theorem EA(c:Nat)(w:World)(hc:c≤1114111):Calls Tryz.prog 211 #[.int .i32 c] w λe w'=>e=.returned (.int .i32 (d8 c))∧w=w':=by
 go_enter Tryz.func211,Tryz.ntmps211;go_wp2_with (go_at_call 231;refine(Ad _ _ _ _).mono ?_;rintro e w' ⟨rfl,rfl⟩)
 all_goals
  go_ret;refine⟨sI ?_,rfl⟩
  try simp only[beq_iff_eq,bne_iff_ne,bne_eq_false_iff_eq,beq_eq_false_iff_ne,ne_eq,decide_eq_true_eq,decide_eq_false_iff_not,Bool.or_eq_true,Bool.or_eq_false_iff,Bool.and_eq_true,Bool.and_eq_false_iff] at *
  unfold d8;split
  ·omega
  ·split<;>omega
theorem Ae(c:Nat)(w:World)(hc:c≤1114111):Calls Tryz.prog 181 #[.int .i32 c] w λe w'=>e=.returned (.bool (cJ c))∧w=w':=by
 go_enter Tryz.func181,Tryz.ntmps181;go_wp2
 all_goals
  go_ret;refine⟨af ?_,rfl⟩
  try simp only[beq_iff_eq,bne_iff_ne,bne_eq_false_iff_eq,beq_eq_false_iff_ne,ne_eq,decide_eq_true_eq,decide_eq_false_iff_not,Bool.or_eq_true,Bool.or_eq_false_iff,Bool.and_eq_true,Bool.and_eq_false_iff] at *
  unfold cJ;rw[Bool.eq_iff_iff];split
  all_goals (simp;try omega)
theorem EB(c:Nat)(w:World)(hc:c≤1114111):Calls Tryz.prog 217 #[.int .i32 c] w λe w'=>e=.returned (.int .i32 (d8 c))∧w=w':=by
 go_enter Tryz.func217,Tryz.ntmps217;go_wp2
 all_goals
  go_ret;refine⟨sI ?_,rfl⟩
  try simp only[beq_iff_eq,bne_iff_ne,bne_eq_false_iff_eq,beq_eq_false_iff_ne,ne_eq,decide_eq_true_eq,decide_eq_false_iff_not,Bool.or_eq_true,Bool.or_eq_false_iff,Bool.and_eq_true,Bool.and_eq_false_iff] at *
  unfold d8;split
  ·omega
  ·split<;>omega
theorem Af(c:Nat)(w:World)(hc:c≤1114111):Calls Tryz.prog 199 #[.int .i32 c] w λe w'=>e=.returned (.bool (cJ c))∧w=w':=by
 go_enter Tryz.func199,Tryz.ntmps199;go_wp2
 all_goals
  go_ret;refine⟨af ?_,rfl⟩
  try simp only[beq_iff_eq,bne_iff_ne,bne_eq_false_iff_eq,beq_eq_false_iff_ne,ne_eq,decide_eq_true_eq,decide_eq_false_iff_not,Bool.or_eq_true,Bool.or_eq_false_iff,Bool.and_eq_true,Bool.and_eq_false_iff] at *
  unfold cJ;rw[Bool.eq_iff_iff];split
  all_goals (simp;try omega)
theorem nA(c:Int)(w:World):Calls Tryz.prog 216 #[.int .u8 c] w λe w'=>e=.returned (.bool (decide (128≤c∧c<192)))∧w=w':=by
 go_enter Tryz.func216,Tryz.ntmps216;go_wp2
 all_goals
  go_ret;refine⟨af ?_,rfl⟩;rw[Bool.eq_iff_iff];simp
  try omega
end Go.Proofs.YtaecjmiobllhmaaGreat
