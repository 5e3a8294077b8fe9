/- Words. -/
import Derived.Lib.MapLaws
import Derived.Lib.FieldsP
import Derived.Lib.Strings
import Derived.Lib.TrimAscii
import Derived.Lib.SlicesCompact
import Derived.Test.YtaecjmiobllhmaaGreatProg
import Derived.Test.YtaecjmiobllhmaaGreatGp01
set_option linter.unusedVariables false
set_option linter.unusedSimpArgs false
set_option maxRecDepth 100000
set_option maxHeartbeats 16000000
namespace Go.Proofs.YtaecjmiobllhmaaGreat
open Go.Lib Go.RowKit
def Vr(r:Nat):Prop:=r<55296∨(57344≤r∧r≤1114111)
instance (r:Nat):Decidable (Vr r):=inferInstanceAs (Decidable (_∨_))
theorem decodeL_valid(l:List UInt8):Vr (decodeL l).1:=by
 rw[decodeL_N];have k0:=(l.getD 0 0).toNat_lt;have k1:=(l.getD 1 0).toNat_lt;have k2:=(l.getD 2 0).toNat_lt;have k3:=(l.getD 3 0).toNat_lt;unfold Vr;rcases decodeN_shape l.length (l.getD 0 0).toNat (l.getD 1 0).toNat (l.getD 2 0).toNat (l.getD 3 0).toNat with ⟨c,e⟩ | ⟨c1,c2,c3,cv,e⟩ | ⟨c1,c2,c3,c4,cv,cs,e⟩ | ⟨c1,c2,c3,c4,c5,cv,cw,e⟩ | e
 all_goals (rw[e];dsimp only;omega)
def runesG:Nat→List UInt8→List Nat
 | 0,_=>[]
 | n+1,l=>if l=[] then [] else (decodeL l).1::runesG n (l.drop (decodeL l).2)
def runesD(l:List UInt8):List Nat:=runesG l.length l
theorem runesG_nil:∀n,runesG n []=[]
 | 0=>rfl
 | _+1=>by simp[runesG]
theorem runesG_fuel:∀(n m:Nat) (l:List UInt8),l.length≤n→l.length≤m→runesG n l=runesG m l
 | 0,m,l,hn,_=>by
   have:l=[]:=List.eq_nil_of_length_eq_zero (by omega);subst this
   rw[runesG_nil,runesG_nil]
 | n+1,0,l,_,hm=>by
   have:l=[]:=List.eq_nil_of_length_eq_zero (by omega);subst this
   rw[runesG_nil,runesG_nil]
 | n+1,m+1,l,hn,hm=>by
   by_cases hne:l=[]
   ·subst hne
    rw[runesG_nil,runesG_nil]
   ·have hw:=decodeL_width l
    have hl:0<l.length:=List.length_pos_iff.2 hne;simp only[runesG,if_neg hne];rw[runesG_fuel n m _ (by rw[List.length_drop];omega) (by rw[List.length_drop];omega)]
theorem runesD_nil:runesD []=[]:=rfl
theorem runesD_step(l:List UInt8)(hne:l≠[]):runesD l=(decodeL l).1::runesD (l.drop (decodeL l).2):=by
 have hw:=decodeL_width l;have hl:0<l.length:=List.length_pos_iff.2 hne;unfold runesD;obtain⟨n,hn⟩:∃n,l.length=n+1:=⟨l.length - 1,by omega⟩;rw[hn];simp only[runesG,if_neg hne];rw[runesG_fuel n _ _ (by rw[List.length_drop];omega) (Nat.le_refl _)]
theorem runesG_valid:∀(n:Nat) (l:List UInt8),∀r∈runesG n l,Vr r
 | 0,_,r,h=>by cases h
 | n+1,l,r,h=>by
   unfold runesG at h;split at h
   ·cases h
   ·rcases List.mem_cons.1 h with rfl | h
    ·exact decodeL_valid l
    ·exact runesG_valid n _ r h
theorem runesD_valid(l:List UInt8):∀r∈runesD l,Vr r:=runesG_valid _ l
theorem runesG_len:∀(n:Nat) (l:List UInt8),(runesG n l).length≤n
 | 0,_=>Nat.le_refl _
 | n+1,l=>by
   unfold runesG;split
   ·exact Nat.zero_le _
   ·have:=runesG_len n (l.drop (decodeL l).2)
    simpa using this
theorem runesD_len(l:List UInt8):(runesD l).length≤l.length:=runesG_len _ l
def encR(r:Nat):List UInt8:=encodeRune (r:Int)
def enc(rs:List Nat):List UInt8:=rs.flatMap encR
theorem enc_nil:enc []=[]:=rfl
theorem enc_cons(r:Nat)(rs:List Nat):enc (r::rs)=encR r++enc rs:=rfl
theorem enc_append(a b:List Nat):enc (a++b)=enc a++enc b:=by simp[enc]
theorem encR_len(r:Nat):1≤(encR r).length∧(encR r).length≤4:=by
 have:=encodeRuneZ_length r
 simpa [encR,encodeRune] using this
theorem enc_len(rs:List Nat):rs.length≤(enc rs).length∧(enc rs).length≤4 * rs.length:=by
 induction rs with
 | nil=>simp[enc]
 | cons r rs ih=>
   have:=encR_len r;rw[enc_cons,List.length_append,List.length_cons];omega
theorem byte_toNat{z:Int}(h0:0≤z)(h1:z<256):((z.toNat.toUInt8).toNat:Int)=z:=by
 have h:(z.toNat.toUInt8).toNat=z.toNat:=by
  rw[Nat.toUInt8,UInt8.toNat_ofNat'];exact Nat.mod_eq_of_lt (by omega)
 rw[h];omega
theorem decode_enc(r:Nat)(h:Vr r)(t:List UInt8):decodeL (encR r++t)=(r,(encR r).length):=by
 rw[decodeL_N];unfold Vr at h;unfold encR encodeRune
 by_cases c1:r≤127
 ·rw[encodeRuneZ_one (by omega) (by omega)]
  have e0:=byte_toNat (z:=(r:Int)) (by omega) (by omega);simp only[List.map_cons,List.map_nil,List.cons_append,List.nil_append,List.getD_cons_zero,List.length_cons,List.length_nil];rw[decodeN,if_pos (by omega)]
  ext<;>simp only<;>omega
 by_cases c2:r≤2047
 ·rw[encodeRuneZ_two (by omega) (by omega)]
  have e0:=byte_toNat (z:=192+(r:Int) / 64) (by omega) (by omega);have e1:=byte_toNat (z:=128+(r:Int) % 64) (by omega) (by omega);simp only[List.map_cons,List.map_nil,List.cons_append,List.nil_append,List.getD_cons_zero,List.getD_cons_succ,List.length_cons,List.length_nil];rw[decodeN,if_neg (by omega),if_pos (by omega),if_pos (by omega)]
  ext<;>simp only<;>omega
 by_cases c3:r≤65535
 ·rw[encodeRuneZ_three (by omega)]
  have e0:=byte_toNat (z:=224+(r:Int) / 4096) (by omega) (by omega);have e1:=byte_toNat (z:=128+(r:Int) / 64 % 64) (by omega) (by omega);have e2:=byte_toNat (z:=128+(r:Int) % 64) (by omega) (by omega);simp only[List.map_cons,List.map_nil,List.cons_append,List.nil_append,List.getD_cons_zero,List.getD_cons_succ,List.length_cons,List.length_nil];rw[decodeN,if_neg (by omega),if_neg (by omega),if_pos (by omega),if_pos (by omega)]
  ext<;>simp only<;>omega
 ·rw[encodeRuneZ_four (by omega) (by omega)]
  have e0:=byte_toNat (z:=240+(r:Int) / 262144) (by omega) (by omega);have e1:=byte_toNat (z:=128+(r:Int) / 4096 % 64) (by omega) (by omega);have e2:=byte_toNat (z:=128+(r:Int) / 64 % 64) (by omega) (by omega);have e3:=byte_toNat (z:=128+(r:Int) % 64) (by omega) (by omega);simp only[List.map_cons,List.map_nil,List.cons_append,List.nil_append,List.getD_cons_zero,List.getD_cons_succ,List.length_cons,List.length_nil];rw[decodeN,if_neg (by omega),if_neg (by omega),if_neg (by omega),if_pos (by omega),if_pos (by omega)]
  ext<;>simp only<;>omega
theorem encR_ne(r:Nat):encR r≠[]:=λe=>by
 have:=encR_len r;rw[e] at this;simp at this
theorem runesD_enc:∀(rs:List Nat),(∀r∈rs,Vr r)→∀t,runesD (enc rs++t)=rs++runesD t
 | [],_,t=>rfl
 | r::rs,h,t=>by
   have hr:Vr r:=h r (by simp);have e:enc (r::rs)++t=encR r++(enc rs++t):=by rw[enc_cons,List.append_assoc]
   have hne:encR r++(enc rs++t)≠[]:=λe=>encR_ne r (List.append_eq_nil_iff.1 e).1
   rw[e,runesD_step _ hne,decode_enc r hr];simp only[List.drop_left'];rw[runesD_enc rs (λx hx=>h x (by simp[hx])) t];rfl
theorem runesD_enc'(rs:List Nat)(h:∀r∈rs,Vr r):runesD (enc rs)=rs:=by
 have:=runesD_enc rs h []
 simpa [runesD_nil] using this
def foldR(c:Nat):Nat:=
 if (65≤c∧c≤90)∨(192≤c∧c≤222∧c≠215)∨(913≤c∧c≤937∧c≠930)∨(1040≤c∧c≤1071) then c+32
 else if 1024≤c∧c≤1039 then c+80 else c
theorem foldR_valid{c:Nat}(h:Vr c):Vr (foldR c):=by
 unfold Vr at *;unfold foldR;split
 ·omega
 ·split<;>omega
def folds(l:List UInt8):List Nat:=(runesD l).map foldR
theorem folds_valid(l:List UInt8):∀r∈folds l,Vr r:=by
 intro r hr;obtain⟨x,hx,rfl⟩:=List.mem_map.1 hr;exact foldR_valid (runesD_valid l x hx)
def foldS(l:List UInt8):List UInt8:=enc (folds l)
def letterR(c:Nat):Bool:=if c<192 then (decide (97≤c∧c≤122∨48≤c∧c≤57)) else !decide (c=215∨c=247∨c=65533∨(8192≤c∧c≤8303)∨(12288≤c∧c≤12351))
def splitW:List Nat→List Nat→List (List Nat)
 | cur,[]=>if cur=[] then [] else [cur]
 | cur,r::t=>if letterR r then splitW (cur++[r]) t else (if cur=[] then [] else [cur])++splitW [] t
def wordsR(rs:List Nat):List (List Nat):=(splitW [] rs).map (·.take 32)
def wordsL(l:List UInt8):List (List UInt8):=(wordsR (folds l)).map enc
def wordsB(s:ByteArray):List ByteArray:=(wordsL s.data.toList).map λw=>⟨w.toArray⟩
theorem splitW_mem:∀(rs cur:List Nat),∀w∈splitW cur rs,∀r∈w,r∈cur∨r∈rs
 | [],cur,w,hw,r,hr=>by
   unfold splitW at hw;split at hw
   ·cases hw
   ·simp only[List.mem_singleton] at hw
    subst hw
    exact .inl hr
 | a::t,cur,w,hw,r,hr=>by
   unfold splitW at hw;split at hw
   ·rcases splitW_mem t _ w hw r hr with h | h
    ·rcases List.mem_append.1 h with h | h
     ·exact .inl h
     ·simp at h
      subst h;exact .inr (by simp)
    ·exact .inr (by simp[h])
   ·rcases List.mem_append.1 hw with hw | hw
    ·split at hw
     ·cases hw
     ·simp only[List.mem_singleton] at hw
      subst hw;exact .inl hr
    ·rcases splitW_mem t [] w hw r hr with h | h
     ·cases h
     ·exact .inr (by simp[h])
abbrev bys(s:ByteArray):List UInt8:=s.data.toList
def ofB(l:List UInt8):ByteArray:=⟨l.toArray⟩
theorem bys_ofB(l:List UInt8):bys (ofB l)=l:=rfl
theorem bys_inj{a b:ByteArray}(h:bys a=bys b):a=b:=by
 have:=congrArg ofB h;exact this
theorem size_bys(s:ByteArray):s.size=(bys s).length:=(Array.length_toList (xs:=s.data)).symm
def extr(s:ByteArray)(x:Nat×Nat):ByteArray:=s.extract x.1 x.2
theorem extr_mid(s:ByteArray)(a b c:List UInt8)(h:bys s=a++b++c):extr s (a.length,a.length+b.length)=ofB b:=by
 apply bys_inj;show (s.extract a.length (a.length+b.length)).data.toList=b
 rw[extract_data,show s.data.toList=a++b++c from h];simp[List.append_assoc]
theorem fields_go(s:ByteArray):∀(rest cur done:List Nat) (acc:List (Nat×Nat)) (fuel:Nat) (st:Option Nat),
  (∀r∈rest,Vr r)→bys s=enc done++enc cur++enc rest→(enc rest).length≤fuel→st=(if cur=[] then none else some (enc done).length)→
  (closeSpans s (spansFromP (λr=>!letterR r) s fuel ((enc done).length+(enc cur).length) st acc)).map (extr s)=acc.map (extr s)++(splitW cur rest).map (λw=>ofB (enc w))
 | [],cur,done,acc,fuel,st,_,hs,_,hst=>by
   have hsz:s.size=(enc done).length+(enc cur).length:=by
    rw[size_bys,hs];simp[enc_nil]
   rw[spansFromP_end _ _ _ _ _ _ (by omega)];subst hst
   by_cases hc:cur=[]
   ·subst hc
    simp[closeSpans,splitW]
   ·have h1:splitW cur []=[cur]:=by simp[splitW,hc]
    rw[h1];simp only[if_neg hc,closeSpans,List.map_append,List.map_cons,List.map_nil]
    rw[hsz,extr_mid s (enc done) (enc cur) [] (by rw[hs];simp[enc_nil])]
 | r::t,cur,done,acc,fuel,st,hv,hs,hf,hst=>by
   have hl:=encR_len r;have hv':∀x∈t,Vr x:=λx hx=>hv x (by simp[hx])
   rw[enc_cons,List.length_append] at hf;obtain⟨f,rfl⟩:∃f,fuel=f+1:=⟨fuel - 1,by omega⟩
   have hsz:s.size=(enc done).length+(enc cur).length+((encR r).length+(enc t).length):=by
    rw[size_bys,hs];simp[enc_cons];omega
   have hdec:Utf8.decode s ((enc done).length+(enc cur).length)=(r,(encR r).length):=by
    rw[←decodeL_drop,show s.data.toList=enc done++enc cur++enc (r::t) from hs,enc_cons];rw[show (enc done).length+(enc cur).length=(enc done++enc cur).length by simp,List.drop_left']
    ·exact decode_enc r (hv r (by simp)) _
    ·rfl
   simp only[spansFromP];rw[if_pos (by omega),hdec];subst hst;rcases(by cases letterR r<;>simp:letterR r=true∨letterR r=false) with hlr | hlr
   ·simp only[hlr]
    have h1:splitW cur (r::t)=splitW (cur++[r]) t:=by simp[splitW,hlr]
    have e1:enc (cur++[r])=enc cur++encR r:=by simp[enc]
    have hs':bys s=enc done++enc (cur++[r])++enc t:=by rw[hs,e1,enc_cons];simp
    have ih:=λst=>fields_go s t (cur++[r]) done acc f st hv' hs' (by omega)
    rw[e1,List.length_append,←Nat.add_assoc] at ih;simp only[Bool.not_true,Bool.false_eq_true,if_false,h1]
    by_cases hc:cur=[]
    ·subst hc
     simp only[if_true,enc_nil,List.length_nil,Nat.add_zero] at ih ⊢;exact ih _ (by simp)
    ·simp only[if_neg hc] at ih ⊢
     exact ih _ (by simp)
   ·simp only[hlr]
    simp only[Bool.not_false,if_true]
    by_cases hc:cur=[]
    ·subst hc
     have h1:splitW [] (r::t)=splitW [] t:=by simp[splitW,hlr]
     have hs':bys s=enc (done++[r])++enc []++enc t:=by rw[hs,enc_append,enc_cons];simp[enc]
     have ih:=fields_go s t [] (done++[r]) acc f none hv' hs' (by omega) (by simp);have e1:(enc (done++[r])).length+(enc ([]:List Nat)).length=(enc done).length+(enc ([]:List Nat)).length+(encR r).length:=by simp[enc]
     rw[e1] at ih;simp only[if_true,h1];exact ih
    ·have h1:splitW cur (r::t)=cur::splitW [] t:=by simp[splitW,hlr,hc]
     have hs':bys s=enc (done++cur++[r])++enc []++enc t:=by rw[hs,enc_append,enc_append,enc_cons];simp[enc]
     have ih:=fields_go s t [] (done++cur++[r]) (acc++[((enc done).length,(enc done).length+(enc cur).length)]) f none hv' hs' (by omega) (by simp);have e1:(enc (done++cur++[r])).length+(enc ([]:List Nat)).length=(enc done).length+(enc cur).length+(encR r).length:=by simp[enc];omega
     rw[e1] at ih;simp only[if_neg hc,h1];rw[ih];simp only[List.map_append,List.map_cons,List.map_nil,List.append_assoc,List.singleton_append];rw[extr_mid s (enc done) (enc cur) (enc (r::t)) hs]
theorem fields_enc(rs:List Nat)(hv:∀r∈rs,Vr r):goFieldsP (λr=>!letterR r) (ofB (enc rs))=(splitW [] rs).map λw=>ofB (enc w):=by
 have:=fields_go (ofB (enc rs)) rs [] [] [] (ofB (enc rs)).size none hv rfl (by rw[size_bys,bys_ofB];exact Nat.le_refl _) rfl;simp only[enc_nil,List.length_nil,Nat.add_zero,List.map_nil,List.nil_append] at this;exact this
def SortedW(l:List (List UInt8)):Prop:=l.Pairwise (·<·)
theorem lt_irr(a:List UInt8):¬a<a:=List.lt_irrefl _
theorem SortedW.eq{l l':List (List UInt8)}(h:SortedW l)(h':SortedW l')(hm:∀x,x∈l↔x∈l'):l=l':=by
 have ne:∀{a b:List UInt8},a<b→a≠b:=λhab e=>by
  subst e;exact lt_irr _ hab
 have n1:l.Nodup:=List.Pairwise.imp ne h;have n2:l'.Nodup:=List.Pairwise.imp ne h';exact((List.perm_ext_iff_of_nodup n1 n2).2 hm).eq_of_pairwise (λ_ _ _ _ hab hba=>absurd (List.lt_trans hab hba) (lt_irr _)) h h'
theorem gt_of{a b:List UInt8}(h:¬a<b)(hne:a≠b):b<a:=by
 by_cases h1:b<a
 ·exact h1
 ·exact absurd (List.le_antisymm (List.not_lt.1 h1) (List.not_lt.1 h)) hne
def bat(l:List UInt8)(k:Nat):Nat:=(l.getD k 0).toNat
theorem bat_lt(l:List UInt8)(k:Nat):bat l k<256:=(l.getD k 0).toNat_lt
def isTl(l:List UInt8)(k:Nat):Prop:=128≤bat l k∧bat l k<192
instance (l:List UInt8) (k:Nat):Decidable (isTl l k):=inferInstanceAs (Decidable (_∧_))
def accF(a:Nat)(l:List UInt8):Nat→Nat
 | 0=>a
 | k+1=>if k=0 then a else accF a l k * 64+(bat l k - 128)
theorem accF_one(a:Nat)(l:List UInt8):accF a l 1=a:=rfl
theorem accF_succ(a:Nat)(l:List UInt8)(k:Nat)(h:1≤k):accF a l (k+1)=accF a l k * 64+(bat l k - 128):=by
 obtain⟨j,rfl⟩:∃j,k=j+1:=⟨k - 1,by omega⟩;simp[accF]
def outOf(n r least:Nat):Nat×Nat:=if r<least∨1114111<r∨(55296≤r∧r≤57343) then (65533,1) else (r,n)
theorem dec_eq(l:List UInt8):decodeL l=decodeN l.length (bat l 0) (bat l 1) (bat l 2) (bat l 3):=decodeL_N l
theorem bat_none{l:List UInt8}{k:Nat}(h:l.length≤k):bat l k=0:=by
 unfold bat;rw[List.getD_eq_getElem?_getD,List.getElem?_eq_none h];rfl
theorem dec1{l:List UInt8}(h:bat l 0<128):decodeL l=(bat l 0,1):=by
 rw[dec_eq,decodeN,if_pos h]
theorem decBad{l:List UInt8}(h:128≤bat l 0∧bat l 0<192∨248≤bat l 0):decodeL l=(65533,1):=by
 rw[dec_eq,decodeN,if_neg (by omega),if_neg (by omega),if_neg (by omega),if_neg (by omega)]
theorem dec2_no{l:List UInt8}(h:192≤bat l 0∧bat l 0<224)(k:Nat)(hk:1≤k∧k<2)(ht:¬isTl l k):decodeL l=(65533,1):=by
 obtain rfl:k=1:=by omega
 unfold isTl at ht;rw[dec_eq,decodeN,if_neg (by omega),if_neg (by omega),if_neg (by omega),if_neg (by omega)]
theorem dec3_no{l:List UInt8}(h:224≤bat l 0∧bat l 0<240)(k:Nat)(hk:1≤k∧k<3)(ht:¬isTl l k):decodeL l=(65533,1):=by
 unfold isTl at ht;have:k=1∨k=2:=by omega
 rw[dec_eq,decodeN,if_neg (by omega),if_neg (by omega)];rcases this with rfl | rfl
 ·rw[if_neg (by omega),if_neg (by omega)]
 ·rw[if_neg (by omega),if_neg (by omega)]
theorem dec4_no{l:List UInt8}(h:240≤bat l 0∧bat l 0<248)(k:Nat)(hk:1≤k∧k<4)(ht:¬isTl l k):decodeL l=(65533,1):=by
 unfold isTl at ht;have:k=1∨k=2∨k=3:=by omega
 rw[dec_eq,decodeN,if_neg (by omega),if_neg (by omega),if_neg (by omega)];rcases this with rfl | rfl | rfl<;>rw[if_neg (by omega)]
theorem tl_len{l:List UInt8}{k:Nat}(h:isTl l k):k<l.length:=by
 by_cases e:k<l.length
 ·exact e
 ·have:=bat_none (l:=l) (k:=k) (by omega)
  unfold isTl at h;omega
theorem dec2_yes{l:List UInt8}(h:192≤bat l 0∧bat l 0<224)(ht:∀k,1≤k∧k<2→isTl l k):decodeL l=outOf 2 (accF (bat l 0 - 192) l 2) 128:=by
 have h1:=ht 1 (by omega);have l1:=tl_len h1;unfold isTl at h1;rw[accF_succ _ _ 1 (by omega),accF_one,dec_eq,decodeN,if_neg (by omega),if_pos (by omega)];unfold outOf;have e:bat l 0 % 32 * 64+bat l 1 % 64=(bat l 0 - 192) * 64+(bat l 1 - 128):=by omega
 rw[e];have:=bat_lt l 1;split
 ·rw[if_neg (by omega)]
 ·rw[if_pos (by omega)]
theorem dec3_yes{l:List UInt8}(h:224≤bat l 0∧bat l 0<240)(ht:∀k,1≤k∧k<3→isTl l k):decodeL l=outOf 3 (accF (bat l 0 - 224) l 3) 2048:=by
 have h1:=ht 1 (by omega);have h2:=ht 2 (by omega);have l2:=tl_len h2;unfold isTl at h1 h2;rw[accF_succ _ _ 2 (by omega),accF_succ _ _ 1 (by omega),accF_one,dec_eq,decodeN,if_neg (by omega),if_neg (by omega),if_pos (by omega)];unfold outOf;have e:bat l 0 % 16 * 4096+bat l 1 % 64 * 64+bat l 2 % 64=((bat l 0 - 224) * 64+(bat l 1 - 128)) * 64+(bat l 2 - 128):=by omega
 rw[e];split
 ·rw[if_neg (by omega)]
 ·rw[if_pos (by omega)]
theorem dec4_yes{l:List UInt8}(h:240≤bat l 0∧bat l 0<248)(ht:∀k,1≤k∧k<4→isTl l k):decodeL l=outOf 4 (accF (bat l 0 - 240) l 4) 65536:=by
 have h1:=ht 1 (by omega);have h2:=ht 2 (by omega);have h3:=ht 3 (by omega);have l3:=tl_len h3;unfold isTl at h1 h2 h3;rw[accF_succ _ _ 3 (by omega),accF_succ _ _ 2 (by omega),accF_succ _ _ 1 (by omega),accF_one,dec_eq,decodeN,if_neg (by omega),if_neg (by omega),if_neg (by omega),if_pos (by omega)];unfold outOf;have e:bat l 0 % 8 * 262144+bat l 1 % 64 * 4096+bat l 2 % 64 * 64+bat l 3 % 64=(((bat l 0 - 240) * 64+(bat l 1 - 128)) * 64+(bat l 2 - 128)) * 64+(bat l 3 - 128):=by omega
 rw[e];split
 ·rw[if_neg (by omega)]
 ·rw[if_pos (by omega)]
theorem accF_le(a:Nat)(l:List UInt8)(ha:a<32):∀k,k≤4→accF a l k<9000000
 | k,hk=>by
   have b1:=bat_lt l 1;have b2:=bat_lt l 2;have b3:=bat_lt l 3;have:k=0∨k=1∨k=2∨k=3∨k=4:=by omega
   rcases this with rfl | rfl | rfl | rfl | rfl<;>simp[accF]<;>omega
theorem between_any(c a b:Int)(w:World):Calls Tryz.prog 231 #[.int .i32 c,.int .i32 a,.int .i32 b] w λe w'=>e=.returned (.bool (decide (a≤c∧c≤b)))∧w=w':=by
 go_enter Tryz.func231,Tryz.ntmps231;go_wp2
 all_goals
  go_ret;refine⟨ret_bool ?_,rfl⟩;rw[Bool.eq_iff_iff];simp
  try omega
theorem ufold_any(c:Nat)(w:World)(hc:c≤1114111):Calls Tryz.prog 211 #[.int .i32 c] w λe w'=>e=.returned (.int .i32 (foldR c))∧w=w':=by
 go_enter Tryz.func211,Tryz.ntmps211;go_wp2_with (go_at_call 231;refine(between_any _ _ _ _).mono ?_;rintro e w' ⟨rfl,rfl⟩)
 all_goals
  go_ret;refine⟨ret_int ?_,rfl⟩
  try simp only[beq_iff_eq,bne_iff_ne,bne_eq_false_iff_eq,beq_eq_false_iff_ne,ne_eq,decide_eq_true_eq,decide_eq_false_iff_not,Bool.or_eq_true,Bool.or_eq_false_iff,Bool.and_eq_true,Bool.and_eq_false_iff] at *
  unfold foldR;split
  ·omega
  ·split<;>omega
theorem wletter_any(c:Nat)(w:World)(hc:c≤1114111):Calls Tryz.prog 181 #[.int .i32 c] w λe w'=>e=.returned (.bool (letterR c))∧w=w':=by
 go_enter Tryz.func181,Tryz.ntmps181;go_wp2
 all_goals
  go_ret;refine⟨ret_bool ?_,rfl⟩
  try simp only[beq_iff_eq,bne_iff_ne,bne_eq_false_iff_eq,beq_eq_false_iff_ne,ne_eq,decide_eq_true_eq,decide_eq_false_iff_not,Bool.or_eq_true,Bool.or_eq_false_iff,Bool.and_eq_true,Bool.and_eq_false_iff] at *
  unfold letterR;rw[Bool.eq_iff_iff];split
  all_goals (simp;try omega)
theorem rfold_any(c:Nat)(w:World)(hc:c≤1114111):Calls Tryz.prog 217 #[.int .i32 c] w λe w'=>e=.returned (.int .i32 (foldR c))∧w=w':=by
 go_enter Tryz.func217,Tryz.ntmps217;go_wp2
 all_goals
  go_ret;refine⟨ret_int ?_,rfl⟩
  try simp only[beq_iff_eq,bne_iff_ne,bne_eq_false_iff_eq,beq_eq_false_iff_ne,ne_eq,decide_eq_true_eq,decide_eq_false_iff_not,Bool.or_eq_true,Bool.or_eq_false_iff,Bool.and_eq_true,Bool.and_eq_false_iff] at *
  unfold foldR;split
  ·omega
  ·split<;>omega
theorem rletter_any(c:Nat)(w:World)(hc:c≤1114111):Calls Tryz.prog 199 #[.int .i32 c] w λe w'=>e=.returned (.bool (letterR c))∧w=w':=by
 go_enter Tryz.func199,Tryz.ntmps199;go_wp2
 all_goals
  go_ret;refine⟨ret_bool ?_,rfl⟩
  try simp only[beq_iff_eq,bne_iff_ne,bne_eq_false_iff_eq,beq_eq_false_iff_ne,ne_eq,decide_eq_true_eq,decide_eq_false_iff_not,Bool.or_eq_true,Bool.or_eq_false_iff,Bool.and_eq_true,Bool.and_eq_false_iff] at *
  unfold letterR;rw[Bool.eq_iff_iff];split
  all_goals (simp;try omega)
theorem rtail_any(c:Int)(w:World):Calls Tryz.prog 216 #[.int .u8 c] w λe w'=>e=.returned (.bool (decide (128≤c∧c<192)))∧w=w':=by
 go_enter Tryz.func216,Tryz.ntmps216;go_wp2
 all_goals
  go_ret;refine⟨ret_bool ?_,rfl⟩;rw[Bool.eq_iff_iff];simp
  try omega
end Go.Proofs.YtaecjmiobllhmaaGreat
