/- Words. -/
import Derived.Test.YtaecjmiobllhmaaGreatGq24
set_option linter.unusedVariables false
set_option linter.unusedSimpArgs false
set_option maxRecDepth 100000
set_option maxHeartbeats 16000000
namespace Go.Proofs.YtaecjmiobllhmaaGreat
open Go.Value renaming int→I,string→V,slice→U
open Go.IntKind renaming i64→J
open Tryz renaming prog→pQ
open Go.RowKit Go.Lib
variable {w:World}{G:Nat→Prop}{fo fe it se:Sl}{ts:List (Sl×aJ)}
section
section
variable {α:Type} {p:α→Bool} {l:List α} {k:Nat}
theorem nV(h:k<l.length)(hn:(l.take k).any p=false)(he:p l[k]=false):(l.take (k+1)).any p=false:=by
 rw[List.take_succ_eq_append_getElem h,List.any_append,hn];simp[he]
theorem tu(h:k<l.length)(he:p l[k]=true):l.any p=true:=List.any_eq_true.2 ⟨_,List.getElem_mem h,he⟩
theorem wQ(h:k<l.length)(hn:(l.take k).any p=false)(he:p l[k]=true):l.find? p=some l[k]:=by
 have e:l=l.take k++l.drop k:=(List.take_append_drop k l).symm;rw[List.drop_eq_getElem_cons h] at e
 conv=>lhs;rw[e]
 rw[List.find?_append,List.find?_eq_none.2 (by simpa using hn),List.find?_cons_of_pos (by simpa using he)];simp
theorem LJ(h:k<l.length)(hn:(l.take k).any p=false)(he:p l[k]=true):l.findIdx p=k:=by
 rw[List.findIdx_eq h];refine⟨he,λj hj=>?_⟩;have:=List.any_eq_false.1 hn l[j] (List.mem_take_iff_getElem.2 ⟨j,by omega,rfl⟩)
 simpa using this
theorem Cj(hn:l.any p=false):l.find? p=none:=List.find?_eq_none.2 (by simpa using hn)
theorem Ck(h:k<l.length)(he:p l[k]=true):((l.take (k+1)).filter p).length=((l.take k).filter p).length+1:=by
 rw[List.take_succ_eq_append_getElem h,List.filter_append];simp[he]
end
def gA{α:Type}(g:α→Int)(id:Int)(l:List α):Int:=if aS g id l=true then (qA g id l:Int) else -1
section
variable {α:Type} {g:α→Int} {id:Int} {l:List α} {k:Nat}
theorem tx(h:k<l.length)(hn:aS g id (l.take k)=false)(he:g l[k]=id):gA g id l=k:=by
 have h1:aS g id l=true:=tu h (by simpa using he);have h2:qA g id l=k:=LJ h hn (by simpa using he);unfold gA;rw[h1,if_pos rfl,h2]
theorem dr(hn:aS g id l=false):gA g id l= -1:=by
 unfold gA;rw[hn];rfl
theorem tz(h:k<l.length)(hn:aS g id (l.take k)=false)(he:¬g l[k]=id):aS g id (l.take (k+1))=false:=nV h hn (by simpa using he)
theorem dh(h:aS g id l=true):∃(k:Nat) (hk:k<l.length),gA g id l=k∧g l[k]=id∧eV g id l=some l[k]∧qA g id l=k:=by
 have hk:qA g id l<l.length:=by
  unfold qA;rw[List.findIdx_lt_length]
  simpa [aS] using h
 refine⟨qA g id l,hk,by unfold gA;rw[if_pos h],?_,?_,rfl⟩
 ·have:=List.findIdx_getElem (xs:=l) (p:=λx=>decide (g x=id)) (w:=hk)
  exact of_decide_eq_true this
 ·have h1:=List.findIdx_getElem (xs:=l) (p:=λx=>decide (g x=id)) (w:=hk)
  refine wQ hk ?_ h1;refine List.any_eq_false.2 λa ha=>?_
  obtain⟨j,hj,rfl⟩:=List.mem_take_iff_getElem.1 ha;have:=List.not_of_lt_findIdx (xs:=l) (p:=λx=>decide (g x=id)) (i:=j) (by unfold qA at hj;omega)
  simpa using this
end
end
section
section
variable {x:St} {k:Nat} {s:ByteArray} {b:Int}
theorem G0(h:k<x.fees.length)(hn:(x.fees.take k).any (λf=>decide (f.url=s))=false)(he:x.fees[k].url=s):cH x s=x.fees[k].id:=by
 unfold cH;rw[wQ h hn (by simpa using he)]
theorem G1(hn:x.fees.any (λf=>decide (f.url=s))=false):cH x s=0:=by
 unfold cH;rw[Cj hn]
theorem Js(h:k<x.itms.length)(hn:(x.itms.take k).any (λt=>decide (t.feed=b∧t.guid=s))=false)(he:x.itms[k].feed=b∧x.itms[k].guid=s):ke x b s=x.itms[k].id:=by
 unfold ke;rw[wQ h hn (by simpa using he)]
theorem Jt(hn:x.itms.any (λt=>decide (t.feed=b∧t.guid=s))=false):ke x b s=0:=by
 unfold ke;rw[Cj hn]
theorem G3(h:k<x.fols.length)(he:x.fols[k].inn=b∧x.fols[k].name=s):ey x b s=true:=tu (p:=λf:bg=>decide (f.inn=b∧f.name=s)) h (by simpa using he)
theorem G4(hn:x.fols.any (λf=>decide (f.inn=b∧f.name=s))=false):ey x b s=false:=hn
theorem Ea(h:k<x.fols.length)(he:x.fols[k].inn=b):kZ x b=false:=by
 unfold kZ;rw[tu (p:=λf:bg=>decide (f.inn=b)) h (by simpa using he)];rfl
theorem Ec(h:k<x.fees.length)(he:x.fees[k].inn=b):kZ x b=false:=by
 unfold kZ;rw[tu (p:=λf:aP=>decide (f.inn=b)) h (by simpa using he)];simp
theorem G5(h1:x.fols.any (λf=>decide (f.inn=b))=false)(h2:x.fees.any (λf=>decide (f.inn=b))=false):kZ x b=true:=by
 unfold kZ;rw[h1,h2];rfl
theorem pw(h:aM w G fo fe it se ts x)(hk:k<x.itms.length):∃ID:k<ts.length,(ts[k]'ID).2=x.itms[k]:=by
 have ID:k<ts.length:=by rw[h.len];exact hk
 refine⟨ID,?_⟩;have:(ts.map (·.2))[k]'(by simpa using ID)=(ts[k]'ID).2:=by simp
 rw[←this]
 congr 1
 exact h.same
end
theorem sj{a b:ByteArray}(h:¬a=b):¬a.toList=b.toList∧(a.toList==b.toList)=false:=by
 have hq:¬a.toList=b.toList:=λe=>h (gv.1 e)
 exact⟨hq,by simp[hq]⟩
theorem ja{x:St}(hS:aM w G fo fe it se ts x)(hsm:aH x)(id:Int):
  Calls pQ 72 #[bE fo fe it se x,I J id] w λe w'=>e=.returned (I J (gA bg.id id x.fols))∧aa ac w w':=by
 obtain⟨w0,hw0,hf0,hb0⟩:=nM w fo fe it se x;have ew:=hsm.fols;obtain⟨x0,x1,x2,x3,x4,x5,x6,x7,x8⟩:=ak hb0;have HS:=h_ (hS.nix hf0);have HB:=h_ hb0;have dM:=h_ hf0;have HW:=h_ hw0;clear hS hsm hw0 hf0 hb0;unfold bE;obtain⟨A,c⟩:=fo;dsimp only at x1 x2 x3 x4 ⊢;go_enter Tryz.func72,Tryz.ntmps72;go_wp2;rw[←HW.out]
 go_loopw [5] (λkv wr=>∃k:Nat,k≤x.fols.length∧kv=I J k∧aS bg.id id (x.fols.take k)=false∧aa ac w0 wr) (λkv _=>x.fols.length-(intOf kv).toNat)
 case atStart=>exact⟨0,by omega,rfl,by simp[aS],aa.refl _ _⟩
 case round=>
  obtain⟨k,hk,rfl,ht,hf⟩:=hrel;have HT:=h_ ht;have HF:=h_ hf;have mf:=HB.out.frm hf (λh=>h);have xx:=mf.cell 1;simp at xx;clear ht hf mf
  by_cases hlt:k<x.fols.length
  ·obtain⟨b,off,hA,-,hbl,hcell⟩:=(HS.out.fols.nix HF.out).at_ bg.clen (by decide) (by omega)
   dsimp only at hA;subst hA;obtain⟨p0,p1,p2⟩:=Bh (w:=wr) (b:=b) (off:=off+k * 3) (e:=x.fols[k]) (hcell k hlt);have jp:=h_ (λhe=>tx hlt HT.out he);have dc:=h_ (λhe=>tz hlt HT.out he);obtain⟨q,hq⟩:∃q,x.fols[k]=q:=⟨_,rfl⟩;rw[hq] at p0 p1 p2 jp dc;clear hcell hq;generalize q.id=f0 at *;generalize q.inn=f1 at *;generalize q.name=f2 at *
   by_cases sw:f0=id
   case neg=>
    go_wp2;go_roundw
    case rel=>exact⟨k+1,by omega,by go_num,dc.out (by exact sw),HF.out⟩
    case measure=>simp[intOf];omega
   subst sw;have HH:=h_ (jp.out rfl);clear jp dc;go_wp2;go_ret;exact⟨by rw[HH.out]<;>rfl,dM.out.trans HF.out⟩
  ·obtain rfl:k=x.fols.length:=by omega
   have HE:=h_ (by have:=HT.out;rw[List.take_length] at this;exact dr this);go_wp2;go_ret;exact⟨by rw[HE.out]<;>rfl,dM.out.trans HF.out⟩
theorem gi{x:St}(hS:aM w G fo fe it se ts x)(hsm:aH x)(id:Int):
  Calls pQ 33 #[bE fo fe it se x,I J id] w λe w'=>e=.returned (I J (gA aP.id id x.fees))∧aa ac w w':=by
 obtain⟨w0,hw0,hf0,hb0⟩:=nM w fo fe it se x;have ew:=hsm.fees;obtain⟨x0,x1,x2,x3,x4,x5,x6,x7,x8⟩:=ak hb0;have HS:=h_ (hS.nix hf0);have HB:=h_ hb0;have dM:=h_ hf0;have HW:=h_ hw0;clear hS hsm hw0 hf0 hb0;unfold bE;obtain⟨A,c⟩:=fe;dsimp only at x1 x2 x3 x4 ⊢;go_enter Tryz.func33,Tryz.ntmps33;go_wp2;rw[←HW.out]
 go_loopw [5] (λkv wr=>∃k:Nat,k≤x.fees.length∧kv=I J k∧aS aP.id id (x.fees.take k)=false∧aa ac w0 wr) (λkv _=>x.fees.length-(intOf kv).toNat)
 case atStart=>exact⟨0,by omega,rfl,by simp[aS],aa.refl _ _⟩
 case round=>
  obtain⟨k,hk,rfl,ht,hf⟩:=hrel;have HT:=h_ ht;have HF:=h_ hf;have mf:=HB.out.frm hf (λh=>h);have xx:=mf.cell 2;simp at xx;clear ht hf mf
  by_cases hlt:k<x.fees.length
  ·obtain⟨b,off,hA,-,hbl,hcell⟩:=(HS.out.fees.nix HF.out).at_ aP.clen (by decide) (by omega)
   dsimp only at hA;subst hA;obtain⟨p0,p1,p2,p3⟩:=Bi (w:=wr) (b:=b) (off:=off+k * 4) (e:=x.fees[k]) (hcell k hlt);have jp:=h_ (λhe=>tx hlt HT.out he);have dc:=h_ (λhe=>tz hlt HT.out he);obtain⟨q,hq⟩:∃q,x.fees[k]=q:=⟨_,rfl⟩;rw[hq] at p0 p1 p2 p3 jp dc;clear hcell hq;generalize q.id=f0 at *;generalize q.inn=f1 at *;generalize q.url=f2 at *;generalize q.title=f3 at *
   by_cases sw:f0=id
   case neg=>
    go_wp2;go_roundw
    case rel=>exact⟨k+1,by omega,by go_num,dc.out (by exact sw),HF.out⟩
    case measure=>simp[intOf];omega
   subst sw;have HH:=h_ (jp.out rfl);clear jp dc;go_wp2;go_ret;exact⟨by rw[HH.out]<;>rfl,dM.out.trans HF.out⟩
  ·obtain rfl:k=x.fees.length:=by omega
   have HE:=h_ (by have:=HT.out;rw[List.take_length] at this;exact dr this);go_wp2;go_ret;exact⟨by rw[HE.out]<;>rfl,dM.out.trans HF.out⟩
theorem jr{x:St}(hS:aM w G fo fe it se ts x)(hsm:aH x)(id:Int):
  Calls pQ 34 #[bE fo fe it se x,I J id] w λe w'=>e=.returned (I J (gA aJ.id id x.itms))∧aa ac w w':=by
 obtain⟨w0,hw0,hf0,hb0⟩:=nM w fo fe it se x;have ew:=hsm.itms;obtain⟨x0,x1,x2,x3,x4,x5,x6,x7,x8⟩:=ak hb0;have HS:=h_ (hS.nix hf0);have HB:=h_ hb0;have dM:=h_ hf0;have HW:=h_ hw0;clear hS hsm hw0 hf0 hb0;unfold bE;obtain⟨A,c⟩:=it;dsimp only at x1 x2 x3 x4 ⊢;go_enter Tryz.func34,Tryz.ntmps34;go_wp2;rw[←HW.out]
 go_loopw [5] (λkv wr=>∃k:Nat,k≤x.itms.length∧kv=I J k∧aS aJ.id id (x.itms.take k)=false∧aa ac w0 wr) (λkv _=>x.itms.length-(intOf kv).toNat)
 case atStart=>exact⟨0,by omega,rfl,by simp[aS],aa.refl _ _⟩
 case round=>
  obtain⟨k,hk,rfl,ht,hf⟩:=hrel;have HT:=h_ ht;have HF:=h_ hf;have mf:=HB.out.frm hf (λh=>h);have xx:=mf.cell 3;simp at xx;clear ht hf mf
  by_cases hlt:k<x.itms.length
  ·obtain⟨mZ,wR⟩:=pw HS.out hlt
   obtain⟨b,off,hA,-,hbl,hcell⟩:=(HS.out.itms.row.nix HF.out).at_ dp (by decide) (by omega);dsimp only at hA;subst hA;have hc:=hcell k mZ;obtain⟨tp,Ju⟩:∃tp,ts[k]=tp:=⟨_,rfl⟩;rw[Ju] at hc wR;obtain⟨p0,p1,p2,p3,p4,p5,p6,p7,p8⟩:=wn (w:=wr) (b:=b) (off:=off+k * 9) (p:=tp) hc;rw[wR] at p0 p1 p2 p3 p4 p5 p6 p7 p8;have jp:=h_ (λhe=>tx hlt HT.out he);have dc:=h_ (λhe=>tz hlt HT.out he);obtain⟨q,hq⟩:∃q,x.itms[k]=q:=⟨_,rfl⟩;rw[hq] at p0 p1 p2 p3 p4 p5 p6 p7 p8 jp dc;clear hcell hq hc Ju wR;generalize q.id=f0 at *;generalize q.feed=f1 at *;generalize q.date=f2 at *;generalize q.guid=f3 at *;generalize q.title=f4 at *;generalize q.link=f5 at *;generalize q.read=f6 at *;generalize q.star=f7 at *
   by_cases sw:f0=id
   case neg=>
    go_wp2;go_roundw
    case rel=>exact⟨k+1,by omega,by go_num,dc.out (by exact sw),HF.out⟩
    case measure=>simp[intOf];omega
   subst sw;have HH:=h_ (jp.out rfl);clear jp dc;go_wp2;go_ret;exact⟨by rw[HH.out]<;>rfl,dM.out.trans HF.out⟩
  ·obtain rfl:k=x.itms.length:=by omega
   have HE:=h_ (by have:=HT.out;rw[List.take_length] at this;exact dr this);go_wp2;go_ret;exact⟨by rw[HE.out]<;>rfl,dM.out.trans HF.out⟩
theorem px{x:St}(hS:aM w G fo fe it se ts x)(hsm:aH x)(id:Int):
  Calls pQ 79 #[bE fo fe it se x,I J id] w λe w'=>e=.returned (I J (gA dE.id id x.seas))∧aa ac w w':=by
 obtain⟨w0,hw0,hf0,hb0⟩:=nM w fo fe it se x;have ew:=hsm.seas;obtain⟨x0,x1,x2,x3,x4,x5,x6,x7,x8⟩:=ak hb0;have HS:=h_ (hS.nix hf0);have HB:=h_ hb0;have dM:=h_ hf0;have HW:=h_ hw0;clear hS hsm hw0 hf0 hb0;unfold bE;obtain⟨A,c⟩:=se;dsimp only at x1 x2 x3 x4 ⊢;go_enter Tryz.func79,Tryz.ntmps79;go_wp2;rw[←HW.out]
 go_loopw [5] (λkv wr=>∃k:Nat,k≤x.seas.length∧kv=I J k∧aS dE.id id (x.seas.take k)=false∧aa ac w0 wr) (λkv _=>x.seas.length-(intOf kv).toNat)
 case atStart=>exact⟨0,by omega,rfl,by simp[aS],aa.refl _ _⟩
 case round=>
  obtain⟨k,hk,rfl,ht,hf⟩:=hrel;have HT:=h_ ht;have HF:=h_ hf;have mf:=HB.out.frm hf (λh=>h);have xx:=mf.cell 4;simp at xx;clear ht hf mf
  by_cases hlt:k<x.seas.length
  ·obtain⟨b,off,hA,-,hbl,hcell⟩:=(HS.out.seas.nix HF.out).at_ dE.clen (by decide) (by omega)
   dsimp only at hA;subst hA;obtain⟨p0,p1,p2⟩:=Iz (w:=wr) (b:=b) (off:=off+k * 3) (e:=x.seas[k]) (hcell k hlt);have jp:=h_ (λhe=>tx hlt HT.out he);have dc:=h_ (λhe=>tz hlt HT.out he);obtain⟨q,hq⟩:∃q,x.seas[k]=q:=⟨_,rfl⟩;rw[hq] at p0 p1 p2 jp dc;clear hcell hq;generalize q.id=f0 at *;generalize q.name=f1 at *;generalize q.query=f2 at *
   by_cases sw:f0=id
   case neg=>
    go_wp2;go_roundw
    case rel=>exact⟨k+1,by omega,by go_num,dc.out (by exact sw),HF.out⟩
    case measure=>simp[intOf];omega
   subst sw;have HH:=h_ (jp.out rfl);clear jp dc;go_wp2;go_ret;exact⟨by rw[HH.out]<;>rfl,dM.out.trans HF.out⟩
  ·obtain rfl:k=x.seas.length:=by omega
   have HE:=h_ (by have:=HT.out;rw[List.take_length] at this;exact dr this);go_wp2;go_ret;exact⟨by rw[HE.out]<;>rfl,dM.out.trans HF.out⟩
end
theorem wT{x:St}(hS:aM w G fo fe it se ts x)(hsm:aH x)(url:ByteArray):
  Calls pQ 76 #[bE fo fe it se x,V url] w λe w'=>e=.returned (I J (cH x url))∧aa ac w w':=by
 obtain⟨w0,hw0,hf0,hb0⟩:=nM w fo fe it se x;have ew:=hsm.fees;obtain⟨x0,x1,x2,x3,x4,x5,x6,x7,x8⟩:=ak hb0;have HS:=h_ (hS.nix hf0);have HB:=h_ hb0;have dM:=h_ hf0;have HW:=h_ hw0;clear hS hsm hw0 hf0 hb0;unfold bE;obtain⟨A,c⟩:=fe;dsimp only at x1 x2 x3 x4 ⊢;go_enter Tryz.func76,Tryz.ntmps76;go_wp2;rw[←HW.out]
 go_loopw [5] (λkv wr=>∃k:Nat,k≤x.fees.length∧kv=I J k∧(x.fees.take k).any (λf=>decide (f.url=url))=false∧aa ac w0 wr) (λkv _=>x.fees.length-(intOf kv).toNat)
 case atStart=>exact⟨0,by omega,rfl,by simp,aa.refl _ _⟩
 case round=>
  obtain⟨k,hk,rfl,ht,hf⟩:=hrel;have HT:=h_ ht;have HF:=h_ hf;have mf:=HB.out.frm hf (λh=>h);have xx:=mf.cell 2;simp at xx;clear ht hf mf
  by_cases hlt:k<x.fees.length
  ·obtain⟨b,off,hA,-,hbl,hcell⟩:=(HS.out.fees.nix HF.out).at_ aP.clen (by decide) (by omega)
   dsimp only at hA;subst hA;obtain⟨p0,p1,p2,p3⟩:=Bi (w:=wr) (b:=b) (off:=off+k * 4) (e:=x.fees[k]) (hcell k hlt);have jp:=h_ (λhe=>G0 hlt HT.out he);have dc:=h_ (λhe=>nV hlt HT.out (decide_eq_false he));obtain⟨q,hq⟩:∃q,x.fees[k]=q:=⟨_,rfl⟩;rw[hq] at p0 p1 p2 p3 jp dc;clear hcell hq;generalize q.id=f0 at *;generalize q.inn=f1 at *;generalize q.url=f2 at *;generalize q.title=f3 at *
   by_cases sw:f2=url
   case neg=>
    obtain⟨xh,nk⟩:=sj sw;go_wp2;go_roundw
    case rel=>exact⟨k+1,by omega,by go_num,dc.out (by exact sw),HF.out⟩
    case measure=>simp[intOf];omega
   subst sw;have HH:=h_ (jp.out rfl);clear jp dc;go_wp2;go_ret;exact⟨by rw[HH.out]<;>rfl,dM.out.trans HF.out⟩
  ·obtain rfl:k=x.fees.length:=by omega
   have HE:=h_ (by have:=HT.out;rw[List.take_length] at this;exact G1 this);go_wp2;go_ret;exact⟨by rw[HE.out]<;>rfl,dM.out.trans HF.out⟩
theorem G6{x:St}(hS:aM w G fo fe it se ts x)(hsm:aH x)(bb:Int)(s:ByteArray):
  Calls pQ 77 #[bE fo fe it se x,I J bb,V s] w λe w'=>e=.returned (I J (ke x bb s))∧aa ac w w':=by
 obtain⟨w0,hw0,hf0,hb0⟩:=nM w fo fe it se x;have ew:=hsm.itms;obtain⟨x0,x1,x2,x3,x4,x5,x6,x7,x8⟩:=ak hb0;have HS:=h_ (hS.nix hf0);have HB:=h_ hb0;have dM:=h_ hf0;have HW:=h_ hw0;clear hS hsm hw0 hf0 hb0;unfold bE;obtain⟨A,c⟩:=it;dsimp only at x1 x2 x3 x4 ⊢;go_enter Tryz.func77,Tryz.ntmps77;go_wp2;rw[←HW.out]
 go_loopw [7] (λkv wr=>∃k:Nat,k≤x.itms.length∧kv=I J k∧(x.itms.take k).any (λt=>decide (t.feed=bb∧t.guid=s))=false∧aa ac w0 wr) (λkv _=>x.itms.length-(intOf kv).toNat)
 case atStart=>exact⟨0,by omega,rfl,by simp,aa.refl _ _⟩
 case round=>
  obtain⟨k,hk,rfl,ht,hf⟩:=hrel;have HT:=h_ ht;have HF:=h_ hf;have mf:=HB.out.frm hf (λh=>h);have xx:=mf.cell 3;simp at xx;clear ht hf mf
  by_cases hlt:k<x.itms.length
  ·obtain⟨mZ,wR⟩:=pw HS.out hlt
   obtain⟨b,off,hA,-,hbl,hcell⟩:=(HS.out.itms.row.nix HF.out).at_ dp (by decide) (by omega);dsimp only at hA;subst hA;have hc:=hcell k mZ;obtain⟨tp,Ju⟩:∃tp,ts[k]=tp:=⟨_,rfl⟩;rw[Ju] at hc wR;obtain⟨p0,p1,p2,p3,p4,p5,p6,p7,p8⟩:=wn (w:=wr) (b:=b) (off:=off+k * 9) (p:=tp) hc;rw[wR] at p0 p1 p2 p3 p4 p5 p6 p7 p8;have jp:=h_ (λhe=>Js hlt HT.out he);have dc:=h_ (λhe=>nV hlt HT.out (decide_eq_false he));obtain⟨q,hq⟩:∃q,x.itms[k]=q:=⟨_,rfl⟩;rw[hq] at p0 p1 p2 p3 p4 p5 p6 p7 p8 jp dc;clear hcell hq hc Ju wR;generalize q.id=f0 at *;generalize q.feed=f1 at *;generalize q.date=f2 at *;generalize q.guid=f3 at *;generalize q.title=f4 at *;generalize q.link=f5 at *;generalize q.read=f6 at *;generalize q.star=f7 at *
   by_cases sw:f1=bb
   case neg=>
    go_wp2;go_roundw
    case rel=>exact⟨k+1,by omega,by go_num,dc.out (by rintro⟨e0,e1⟩;exact sw e0),HF.out⟩
    case measure=>simp[intOf];omega
   subst sw
   by_cases N7:f3=s
   case neg=>
    obtain⟨xh,nk⟩:=sj N7;go_wp2;go_roundw
    case rel=>exact⟨k+1,by omega,by go_num,dc.out (by rintro⟨e0,e1⟩;exact N7 e1),HF.out⟩
    case measure=>simp[intOf];omega
   subst N7;have HH:=h_ (jp.out ⟨rfl,rfl⟩);clear jp dc;go_wp2;go_ret;exact⟨by rw[HH.out]<;>rfl,dM.out.trans HF.out⟩
  ·obtain rfl:k=x.itms.length:=by omega
   have HE:=h_ (by have:=HT.out;rw[List.take_length] at this;exact Jt this);go_wp2;go_ret;exact⟨by rw[HE.out]<;>rfl,dM.out.trans HF.out⟩
theorem Ed{x:St}(hS:aM w G fo fe it se ts x)(hsm:aH x)(bb:Int)(s:ByteArray):
  Calls pQ 74 #[bE fo fe it se x,I J bb,V s] w λe w'=>e=.returned (.bool (ey x bb s))∧aa ac w w':=by
 obtain⟨w0,hw0,hf0,hb0⟩:=nM w fo fe it se x;have ew:=hsm.fols;obtain⟨x0,x1,x2,x3,x4,x5,x6,x7,x8⟩:=ak hb0;have HS:=h_ (hS.nix hf0);have HB:=h_ hb0;have dM:=h_ hf0;have HW:=h_ hw0;clear hS hsm hw0 hf0 hb0;unfold bE;obtain⟨A,c⟩:=fo;dsimp only at x1 x2 x3 x4 ⊢;go_enter Tryz.func74,Tryz.ntmps74;go_wp2;rw[←HW.out]
 go_loopw [7] (λkv wr=>∃k:Nat,k≤x.fols.length∧kv=I J k∧(x.fols.take k).any (λt=>decide (t.inn=bb∧t.name=s))=false∧aa ac w0 wr) (λkv _=>x.fols.length-(intOf kv).toNat)
 case atStart=>exact⟨0,by omega,rfl,by simp,aa.refl _ _⟩
 case round=>
  obtain⟨k,hk,rfl,ht,hf⟩:=hrel;have HT:=h_ ht;have HF:=h_ hf;have mf:=HB.out.frm hf (λh=>h);have xx:=mf.cell 1;simp at xx;clear ht hf mf
  by_cases hlt:k<x.fols.length
  ·obtain⟨b,off,hA,-,hbl,hcell⟩:=(HS.out.fols.nix HF.out).at_ bg.clen (by decide) (by omega)
   dsimp only at hA;subst hA;obtain⟨p0,p1,p2⟩:=Bh (w:=wr) (b:=b) (off:=off+k * 3) (e:=x.fols[k]) (hcell k hlt);have jp:=h_ (λhe=>G3 (b:=bb) (s:=s) hlt he);have dc:=h_ (λhe=>nV hlt HT.out (decide_eq_false he));obtain⟨q,hq⟩:∃q,x.fols[k]=q:=⟨_,rfl⟩;rw[hq] at p0 p1 p2 jp dc;clear hcell hq;generalize q.id=f0 at *;generalize q.inn=f1 at *;generalize q.name=f2 at *
   by_cases sw:f1=bb
   case neg=>
    go_wp2;go_roundw
    case rel=>exact⟨k+1,by omega,by go_num,dc.out (by rintro⟨e0,e1⟩;exact sw e0),HF.out⟩
    case measure=>simp[intOf];omega
   subst sw
   by_cases N7:f2=s
   case neg=>
    obtain⟨xh,nk⟩:=sj N7;go_wp2;go_roundw
    case rel=>exact⟨k+1,by omega,by go_num,dc.out (by rintro⟨e0,e1⟩;exact N7 e1),HF.out⟩
    case measure=>simp[intOf];omega
   subst N7;have HH:=h_ (jp.out ⟨rfl,rfl⟩);clear jp dc;go_wp2;go_ret;exact⟨by rw[HH.out]<;>rfl,dM.out.trans HF.out⟩
  ·obtain rfl:k=x.fols.length:=by omega
   have HE:=h_ (by have:=HT.out;rw[List.take_length] at this;exact G4 this);go_wp2;go_ret;exact⟨by rw[HE.out]<;>rfl,dM.out.trans HF.out⟩
theorem Ee{x:St}(hS:aM w G fo fe it se ts x)(hsm:aH x)(id:Int):
  Calls pQ 75 #[bE fo fe it se x,I J id] w λe w'=>e=.returned (.bool (kZ x id))∧aa ac w w':=by
 obtain⟨w0,hw0,hf0,hb0⟩:=nM w fo fe it se x;have ew:=hsm.fols;obtain⟨x0,x1,x2,x3,x4,x5,x6,x7,x8⟩:=ak hb0;have HS:=h_ (hS.nix hf0);have HB:=h_ hb0;have dM:=h_ hf0;have HW:=h_ hw0;have qN:=hsm.fees;clear hS hsm hw0 hf0 hb0;unfold bE;obtain⟨A,c⟩:=fo;dsimp only at x1 x2 x3 x4 ⊢;go_enter Tryz.func75,Tryz.ntmps75;go_wp2;rw[←HW.out]
 go_loopw [5] (λkv wr=>∃k:Nat,k≤x.fols.length∧kv=I J k∧(x.fols.take k).any (λf=>decide (f.inn=id))=false∧aa ac w0 wr) (λkv _=>x.fols.length-(intOf kv).toNat)
 case atStart=>exact⟨0,by omega,rfl,by simp,aa.refl _ _⟩
 case round=>
  obtain⟨k,hk,rfl,ht,hf⟩:=hrel;have HT:=h_ ht;have HF:=h_ hf;have mf:=HB.out.frm hf (λh=>h);have xx:=mf.cell 1;simp at xx;clear ht hf mf
  by_cases hlt:k<x.fols.length
  ·obtain⟨b,off,hA,-,hbl,hcell⟩:=(HS.out.fols.nix HF.out).at_ bg.clen (by decide) (by omega)
   dsimp only at hA;subst hA;obtain⟨p0,p1,p2⟩:=Bh (w:=wr) (b:=b) (off:=off+k * 3) (e:=x.fols[k]) (hcell k hlt);have jp:=h_ (λhe=>Ea (b:=id) hlt he);have dc:=h_ (λhe=>nV hlt HT.out (decide_eq_false he));obtain⟨q,hq⟩:∃q,x.fols[k]=q:=⟨_,rfl⟩;rw[hq] at p0 p1 p2 jp dc;clear hcell hq;generalize q.id=f0 at *;generalize q.inn=f1 at *;generalize q.name=f2 at *
   by_cases sw:f1=id
   case neg=>
    go_wp2;go_roundw
    case rel=>exact⟨k+1,by omega,by go_num,dc.out (by exact sw),HF.out⟩
    case measure=>simp[intOf];omega
   subst sw;have HH:=h_ (jp.out rfl);clear jp dc;go_wp2;go_ret;exact⟨by rw[HH.out]<;>rfl,dM.out.trans HF.out⟩
  ·obtain rfl:k=x.fols.length:=by omega
   have HE:=h_ (show x.fols.any (λf=>decide (f.inn=id))=false by have:=HT.out;rw[List.take_length] at this;exact this);have Ry:=HE;clear HE;go_wp2;have y2:=HB.out.frm HF.out (λh=>h);obtain⟨z0,z1,z2,z3,z4,z5,z6,z7,z8⟩:=ak y2;clear y2;have Bq:=HF;clear HF;obtain⟨A2,c2⟩:=fe;dsimp only at z1 z2 z3 z4
   go_loopw [6] (λkv wr=>∃k:Nat,k≤x.fees.length∧kv=I J k∧(x.fees.take k).any (λf=>decide (f.inn=id))=false∧aa ac w0 wr) (λkv _=>x.fees.length-(intOf kv).toNat)
   case atStart=>exact⟨0,by omega,rfl,by simp,Bq.out⟩
   case round=>
    clear xx z0 z1 z2 z3 z4 z5 z6 z7 z8;obtain⟨k,hk,rfl,ht,hf⟩:=hrel;have HT:=h_ ht;have HF:=h_ hf;have mf:=HB.out.frm hf (λh=>h);have xx:=mf.cell 2;simp at xx;clear ht hf mf
    by_cases hlt:k<x.fees.length
    ·obtain⟨b,off,hA,-,hbl,hcell⟩:=(HS.out.fees.nix HF.out).at_ aP.clen (by decide) (by omega)
     dsimp only at hA;subst hA;obtain⟨p0,p1,p2,p3⟩:=Bi (w:=wr) (b:=b) (off:=off+k * 4) (e:=x.fees[k]) (hcell k hlt);have jp:=h_ (λhe=>Ec (b:=id) hlt he);have dc:=h_ (λhe=>nV hlt HT.out (decide_eq_false he));obtain⟨q,hq⟩:∃q,x.fees[k]=q:=⟨_,rfl⟩;rw[hq] at p0 p1 p2 p3 jp dc;clear hcell hq;generalize q.id=f0 at *;generalize q.inn=f1 at *;generalize q.url=f2 at *;generalize q.title=f3 at *
     by_cases sw:f1=id
     case neg=>
      go_wp2;go_roundw
      case rel=>exact⟨k+1,by omega,by go_num,dc.out (by exact sw),HF.out⟩
      case measure=>simp[intOf];omega
     subst sw;have HH:=h_ (jp.out rfl);clear jp dc;go_wp2;go_ret;exact⟨by rw[HH.out]<;>rfl,dM.out.trans HF.out⟩
    ·obtain rfl:k=x.fees.length:=by omega
     have HE:=h_ (by have:=HT.out;rw[List.take_length] at this;exact G5 Ry.out this);go_wp2;go_ret;exact⟨by rw[HE.out]<;>rfl,dM.out.trans HF.out⟩
theorem Cl{v:Sl}(l:List ByteArray)(hv:aN w G 1 v l.length (l.map Value.string))(hn:l.length≤1000000)(t:ByteArray):
  Calls pQ 78 #[U v.1 l.length v.2,V t] w λe w'=>e=.returned (.bool (l.any λy=>decide (y=t)))∧aa ac w w':=by
 obtain⟨A,c⟩:=v;dsimp only;rw[sV] at hv;have HV:=h_ hv;clear hv;go_enter Tryz.func78,Tryz.ntmps78;go_wp2
 go_loopw [5] (λkv wr=>∃k:Nat,k≤l.length∧kv=I J k∧(l.take k).any (λy=>decide (y=t))=false∧aa ac w wr) (λkv _=>l.length-(intOf kv).toNat)
 case atStart=>exact⟨0,by omega,rfl,by simp,aa.refl _ _⟩
 case round=>
  obtain⟨k,hk,rfl,ht,hf⟩:=hrel;have HT:=h_ ht;have HF:=h_ hf;clear ht hf
  by_cases hlt:k<l.length
  ·obtain⟨b,off,hA,-,hbl,hcell⟩:=(HV.out.nix HF.out).at_ (f:=λi=>[Value.string i]) (λ_=>rfl) (by decide) (by omega)
   dsimp only at hA;subst hA;have x0:=hcell k hlt 0 _ rfl;rw[Nat.mul_one,Nat.add_zero] at x0;have jp:=h_ (λhe=>tu (p:=λy=>decide (y=t)) hlt (decide_eq_true he));have dc:=h_ (λhe=>nV (p:=λy=>decide (y=t)) hlt HT.out (decide_eq_false he));clear hcell;generalize l[k]=q at *
   by_cases he:q=t
   case neg=>
    obtain⟨xh,nk⟩:=sj he;go_wp2;go_roundw
    case rel=>exact⟨k+1,by omega,by go_num,dc.out he,HF.out⟩
    case measure=>simp[intOf];omega
   subst he;have HH:=h_ (jp.out rfl);clear jp dc;go_wp2;go_ret;exact⟨by rw[HH.out]<;>rfl,HF.out⟩
  ·obtain rfl:k=l.length:=by omega
   have HE:Hid (l.any (λy=>decide (y=t))=false):=by have:=HT.out;rw[List.take_length] at this;exact this
   go_wp2;go_ret;exact⟨by rw[HE.out]<;>rfl,HF.out⟩
theorem tA(a b:Int)(w:World):Calls pQ 80 #[I J a,I J b] w λe w'=>e=.returned (I J (max a b))∧w=w':=by
 by_cases h:b<a
 ·rw[show max a b=a by omega]
  go_enter Tryz.func80,Tryz.ntmps80;go_wp2;go_ret;exact⟨rfl,rfl⟩
 ·rw[show max a b=b by omega]
  go_enter Tryz.func80,Tryz.ntmps80;go_wp2;go_ret;exact⟨rfl,rfl⟩
end Go.Proofs.YtaecjmiobllhmaaGreat
