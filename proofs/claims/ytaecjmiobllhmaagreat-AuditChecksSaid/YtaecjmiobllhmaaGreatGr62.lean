/- Words. -/
import Derived.Test.YtaecjmiobllhmaaGreatGr24
set_option linter.unusedVariables false
set_option linter.unusedSimpArgs false
set_option maxRecDepth 100000
set_option maxHeartbeats 16000000
namespace Go.Proofs.YtaecjmiobllhmaaGreat
open Go.Value renaming int→I,string→V,slice→U
open Go.IntKind renaming i64→J
open Tryz renaming prog→pQ
open Go.RowKit Go.Lib
variable {w:World}{G:Nat→Prop}{fo fe it se:Sl}{ts:List (Sl×aR)}
section
section
variable {α:Type} {p:α→Bool} {l:List α} {k:Nat}
theorem iI(h:k<l.length)(hn:(l.take k).any p=false)(he:p l[k]=false):(l.take (k+1)).any p=false:=by
 rw[List.take_succ_eq_append_getElem h,List.any_append,hn];simp[he]
theorem mF(h:k<l.length)(he:p l[k]=true):l.any p=true:=List.any_eq_true.2 ⟨_,List.getElem_mem h,he⟩
theorem wQ(h:k<l.length)(hn:(l.take k).any p=false)(he:p l[k]=true):l.find? p=some l[k]:=by
 have e:l=l.take k++l.drop k:=(List.take_append_drop k l).symm;rw[List.drop_eq_getElem_cons h] at e
 conv=>lhs;rw[e]
 rw[List.find?_append,List.find?_eq_none.2 (by simpa using hn),List.find?_cons_of_pos (by simpa using he)];simp
theorem J7(h:k<l.length)(hn:(l.take k).any p=false)(he:p l[k]=true):l.findIdx p=k:=by
 rw[List.findIdx_eq h];refine⟨he,λj hj=>?_⟩;have:=List.any_eq_false.1 hn l[j] (List.mem_take_iff_getElem.2 ⟨j,by omega,rfl⟩)
 simpa using this
theorem BM(hn:l.any p=false):l.find? p=none:=List.find?_eq_none.2 (by simpa using hn)
theorem BN(h:k<l.length)(he:p l[k]=true):((l.take (k+1)).filter p).length=((l.take k).filter p).length+1:=by
 rw[List.take_succ_eq_append_getElem h,List.filter_append];simp[he]
end
def mY{α:Type}(g:α→Int)(id:Int)(l:List α):Int:=if bl g id l=true then (qM g id l:Int) else -1
section
variable {α:Type} {g:α→Int} {id:Int} {l:List α} {k:Nat}
theorem tD(h:k<l.length)(hn:bl g id (l.take k)=false)(he:g l[k]=id):mY g id l=k:=by
 have h1:bl g id l=true:=mF h (by simpa using he);have h2:qM g id l=k:=J7 h hn (by simpa using he);unfold mY;rw[h1,if_pos rfl,h2]
theorem bZ(hn:bl g id l=false):mY g id l= -1:=by
 unfold mY;rw[hn];rfl
theorem tE(h:k<l.length)(hn:bl g id (l.take k)=false)(he:¬g l[k]=id):bl g id (l.take (k+1))=false:=iI h hn (by simpa using he)
theorem cj(h:bl g id l=true):∃(k:Nat) (hk:k<l.length),mY g id l=k∧g l[k]=id∧kS g id l=some l[k]∧qM g id l=k:=by
 have hk:qM g id l<l.length:=by
  unfold qM;rw[List.findIdx_lt_length]
  simpa [bl] using h
 refine⟨qM g id l,hk,by unfold mY;rw[if_pos h],?_,?_,rfl⟩
 ·have:=List.findIdx_getElem (xs:=l) (p:=λx=>decide (g x=id)) (w:=hk)
  exact of_decide_eq_true this
 ·have h1:=List.findIdx_getElem (xs:=l) (p:=λx=>decide (g x=id)) (w:=hk)
  refine wQ hk ?_ h1;refine List.any_eq_false.2 λa ha=>?_
  obtain⟨j,hj,rfl⟩:=List.mem_take_iff_getElem.1 ha;have:=List.not_of_lt_findIdx (xs:=l) (p:=λx=>decide (g x=id)) (i:=j) (by unfold qM at hj;omega)
  simpa using this
end
end
section
section
variable {x:St} {k:Nat} {s:ByteArray} {b:Int}
theorem Fr(h:k<x.fees.length)(hn:(x.fees.take k).any (λf=>decide (f.url=s))=false)(he:x.fees[k].url=s):dX x s=x.fees[k].id:=by
 unfold dX;rw[wQ h hn (by simpa using he)]
theorem Fs(hn:x.fees.any (λf=>decide (f.url=s))=false):dX x s=0:=by
 unfold dX;rw[BM hn]
theorem Ih(h:k<x.itms.length)(hn:(x.itms.take k).any (λt=>decide (t.feed=b∧t.guid=s))=false)(he:x.itms[k].feed=b∧x.itms[k].guid=s):jI x b s=x.itms[k].id:=by
 unfold jI;rw[wQ h hn (by simpa using he)]
theorem Ii(hn:x.itms.any (λt=>decide (t.feed=b∧t.guid=s))=false):jI x b s=0:=by
 unfold jI;rw[BM hn]
theorem Fu(h:k<x.fols.length)(he:x.fols[k].inn=b∧x.fols[k].name=s):nK x b s=true:=mF (p:=λf:bh=>decide (f.inn=b∧f.name=s)) h (by simpa using he)
theorem Fv(hn:x.fols.any (λf=>decide (f.inn=b∧f.name=s))=false):nK x b s=false:=hn
theorem Di(h:k<x.fols.length)(he:x.fols[k].inn=b):kM x b=false:=by
 unfold kM;rw[mF (p:=λf:bh=>decide (f.inn=b)) h (by simpa using he)];rfl
theorem Dj(h:k<x.fees.length)(he:x.fees[k].inn=b):kM x b=false:=by
 unfold kM;rw[mF (p:=λf:aX=>decide (f.inn=b)) h (by simpa using he)];simp
theorem Fw(h1:x.fols.any (λf=>decide (f.inn=b))=false)(h2:x.fees.any (λf=>decide (f.inn=b))=false):kM x b=true:=by
 unfold kM;rw[h1,h2];rfl
theorem py(h:aY w G fo fe it se ts x)(hk:k<x.itms.length):∃Bg:k<ts.length,(ts[k]'Bg).2=x.itms[k]:=by
 have Bg:k<ts.length:=by rw[h.len];exact hk
 refine⟨Bg,?_⟩;have:(ts.map (·.2))[k]'(by simpa using Bg)=(ts[k]'Bg).2:=by simp
 rw[←this]
 congr 1
 exact h.same
end
theorem sD{a b:ByteArray}(h:¬a=b):¬a.toList=b.toList∧(a.toList==b.toList)=false:=by
 have hq:¬a.toList=b.toList:=λe=>h (dW.1 e)
 exact⟨hq,by simp[hq]⟩
theorem mK{x:St}(hS:aY w G fo fe it se ts x)(hsm:aP x)(id:Int):
  Calls pQ 72 #[cC fo fe it se x,I J id] w λe w'=>e=.returned (I J (mY bh.id id x.fols))∧aa ag w w':=by
 obtain⟨w0,hw0,hf0,hb0⟩:=pH w fo fe it se x;have cm:=hsm.fols;obtain⟨x0,x1,x2,x3,x4,x5,x6,x7,x8⟩:=aA hb0;have HS:=h_ (hS.nix hf0);have HB:=h_ hb0;have bI:=h_ hf0;have HW:=h_ hw0;clear hS hsm hw0 hf0 hb0;unfold cC;obtain⟨A,c⟩:=fo;dsimp only at x1 x2 x3 x4 ⊢;go_enter Tryz.func72,Tryz.ntmps72;go_wp2;rw[←HW.out]
 go_loopw [5] (λkv wr=>∃k:Nat,k≤x.fols.length∧kv=I J k∧bl bh.id id (x.fols.take k)=false∧aa ag w0 wr) (λkv _=>x.fols.length-(intOf kv).toNat)
 case atStart=>exact⟨0,by omega,rfl,by simp[bl],aa.refl _ _⟩
 case round=>
  obtain⟨k,hk,rfl,ht,hf⟩:=hrel;have HT:=h_ ht;have HF:=h_ hf;have lR:=HB.out.frm hf (λh=>h);have xx:=lR.cell 1;simp at xx;clear ht hf lR
  by_cases hlt:k<x.fols.length
  ·obtain⟨b,off,hA,-,hbl,hcell⟩:=(HS.out.fols.nix HF.out).at_ bh.clen (by decide) (by omega)
   dsimp only at hA;subst hA;obtain⟨p0,p1,p2⟩:=uB (w:=wr) (b:=b) (off:=off+k * 3) (e:=x.fols[k]) (hcell k hlt);have cO:=h_ (λhe=>tD hlt HT.out he);have bv:=h_ (λhe=>tE hlt HT.out he);obtain⟨q,hq⟩:∃q,x.fols[k]=q:=⟨_,rfl⟩;rw[hq] at p0 p1 p2 cO bv;clear hcell hq;generalize q.id=f0 at *;generalize q.inn=f1 at *;generalize q.name=f2 at *
   by_cases rE:f0=id
   case neg=>
    go_wp2;go_roundw
    case rel=>exact⟨k+1,by omega,by go_num,bv.out (by exact rE),HF.out⟩
    case measure=>simp[intOf];omega
   subst rE;have HH:=h_ (cO.out rfl);clear cO bv;go_wp2;go_ret;exact⟨by rw[HH.out]<;>rfl,bI.out.trans HF.out⟩
  ·obtain rfl:k=x.fols.length:=by omega
   have HE:=h_ (by have:=HT.out;rw[List.take_length] at this;exact bZ this);go_wp2;go_ret;exact⟨by rw[HE.out]<;>rfl,bI.out.trans HF.out⟩
theorem lB{x:St}(hS:aY w G fo fe it se ts x)(hsm:aP x)(id:Int):
  Calls pQ 33 #[cC fo fe it se x,I J id] w λe w'=>e=.returned (I J (mY aX.id id x.fees))∧aa ag w w':=by
 obtain⟨w0,hw0,hf0,hb0⟩:=pH w fo fe it se x;have cm:=hsm.fees;obtain⟨x0,x1,x2,x3,x4,x5,x6,x7,x8⟩:=aA hb0;have HS:=h_ (hS.nix hf0);have HB:=h_ hb0;have bI:=h_ hf0;have HW:=h_ hw0;clear hS hsm hw0 hf0 hb0;unfold cC;obtain⟨A,c⟩:=fe;dsimp only at x1 x2 x3 x4 ⊢;go_enter Tryz.func33,Tryz.ntmps33;go_wp2;rw[←HW.out]
 go_loopw [5] (λkv wr=>∃k:Nat,k≤x.fees.length∧kv=I J k∧bl aX.id id (x.fees.take k)=false∧aa ag w0 wr) (λkv _=>x.fees.length-(intOf kv).toNat)
 case atStart=>exact⟨0,by omega,rfl,by simp[bl],aa.refl _ _⟩
 case round=>
  obtain⟨k,hk,rfl,ht,hf⟩:=hrel;have HT:=h_ ht;have HF:=h_ hf;have lR:=HB.out.frm hf (λh=>h);have xx:=lR.cell 2;simp at xx;clear ht hf lR
  by_cases hlt:k<x.fees.length
  ·obtain⟨b,off,hA,-,hbl,hcell⟩:=(HS.out.fees.nix HF.out).at_ aX.clen (by decide) (by omega)
   dsimp only at hA;subst hA;obtain⟨p0,p1,p2,p3⟩:=uC (w:=wr) (b:=b) (off:=off+k * 4) (e:=x.fees[k]) (hcell k hlt);have cO:=h_ (λhe=>tD hlt HT.out he);have bv:=h_ (λhe=>tE hlt HT.out he);obtain⟨q,hq⟩:∃q,x.fees[k]=q:=⟨_,rfl⟩;rw[hq] at p0 p1 p2 p3 cO bv;clear hcell hq;generalize q.id=f0 at *;generalize q.inn=f1 at *;generalize q.url=f2 at *;generalize q.title=f3 at *
   by_cases rE:f0=id
   case neg=>
    go_wp2;go_roundw
    case rel=>exact⟨k+1,by omega,by go_num,bv.out (by exact rE),HF.out⟩
    case measure=>simp[intOf];omega
   subst rE;have HH:=h_ (cO.out rfl);clear cO bv;go_wp2;go_ret;exact⟨by rw[HH.out]<;>rfl,bI.out.trans HF.out⟩
  ·obtain rfl:k=x.fees.length:=by omega
   have HE:=h_ (by have:=HT.out;rw[List.take_length] at this;exact bZ this);go_wp2;go_ret;exact⟨by rw[HE.out]<;>rfl,bI.out.trans HF.out⟩
theorem my{x:St}(hS:aY w G fo fe it se ts x)(hsm:aP x)(id:Int):
  Calls pQ 34 #[cC fo fe it se x,I J id] w λe w'=>e=.returned (I J (mY aR.id id x.itms))∧aa ag w w':=by
 obtain⟨w0,hw0,hf0,hb0⟩:=pH w fo fe it se x;have cm:=hsm.itms;obtain⟨x0,x1,x2,x3,x4,x5,x6,x7,x8⟩:=aA hb0;have HS:=h_ (hS.nix hf0);have HB:=h_ hb0;have bI:=h_ hf0;have HW:=h_ hw0;clear hS hsm hw0 hf0 hb0;unfold cC;obtain⟨A,c⟩:=it;dsimp only at x1 x2 x3 x4 ⊢;go_enter Tryz.func34,Tryz.ntmps34;go_wp2;rw[←HW.out]
 go_loopw [5] (λkv wr=>∃k:Nat,k≤x.itms.length∧kv=I J k∧bl aR.id id (x.itms.take k)=false∧aa ag w0 wr) (λkv _=>x.itms.length-(intOf kv).toNat)
 case atStart=>exact⟨0,by omega,rfl,by simp[bl],aa.refl _ _⟩
 case round=>
  obtain⟨k,hk,rfl,ht,hf⟩:=hrel;have HT:=h_ ht;have HF:=h_ hf;have lR:=HB.out.frm hf (λh=>h);have xx:=lR.cell 3;simp at xx;clear ht hf lR
  by_cases hlt:k<x.itms.length
  ·obtain⟨mG,uj⟩:=py HS.out hlt
   obtain⟨b,off,hA,-,hbl,hcell⟩:=(HS.out.itms.row.nix HF.out).at_ bN (by decide) (by omega);dsimp only at hA;subst hA;have hc:=hcell k mG;obtain⟨tp,Es⟩:∃tp,ts[k]=tp:=⟨_,rfl⟩;rw[Es] at hc uj;obtain⟨p0,p1,p2,p3,p4,p5,p6,p7,p8⟩:=rU (w:=wr) (b:=b) (off:=off+k * 9) (p:=tp) hc;rw[uj] at p0 p1 p2 p3 p4 p5 p6 p7 p8;have cO:=h_ (λhe=>tD hlt HT.out he);have bv:=h_ (λhe=>tE hlt HT.out he);obtain⟨q,hq⟩:∃q,x.itms[k]=q:=⟨_,rfl⟩;rw[hq] at p0 p1 p2 p3 p4 p5 p6 p7 p8 cO bv;clear hcell hq hc Es uj;generalize q.id=f0 at *;generalize q.feed=f1 at *;generalize q.date=f2 at *;generalize q.guid=f3 at *;generalize q.title=f4 at *;generalize q.link=f5 at *;generalize q.read=f6 at *;generalize q.star=f7 at *
   by_cases rE:f0=id
   case neg=>
    go_wp2;go_roundw
    case rel=>exact⟨k+1,by omega,by go_num,bv.out (by exact rE),HF.out⟩
    case measure=>simp[intOf];omega
   subst rE;have HH:=h_ (cO.out rfl);clear cO bv;go_wp2;go_ret;exact⟨by rw[HH.out]<;>rfl,bI.out.trans HF.out⟩
  ·obtain rfl:k=x.itms.length:=by omega
   have HE:=h_ (by have:=HT.out;rw[List.take_length] at this;exact bZ this);go_wp2;go_ret;exact⟨by rw[HE.out]<;>rfl,bI.out.trans HF.out⟩
theorem q9{x:St}(hS:aY w G fo fe it se ts x)(hsm:aP x)(id:Int):
  Calls pQ 79 #[cC fo fe it se x,I J id] w λe w'=>e=.returned (I J (mY ce.id id x.seas))∧aa ag w w':=by
 obtain⟨w0,hw0,hf0,hb0⟩:=pH w fo fe it se x;have cm:=hsm.seas;obtain⟨x0,x1,x2,x3,x4,x5,x6,x7,x8⟩:=aA hb0;have HS:=h_ (hS.nix hf0);have HB:=h_ hb0;have bI:=h_ hf0;have HW:=h_ hw0;clear hS hsm hw0 hf0 hb0;unfold cC;obtain⟨A,c⟩:=se;dsimp only at x1 x2 x3 x4 ⊢;go_enter Tryz.func79,Tryz.ntmps79;go_wp2;rw[←HW.out]
 go_loopw [5] (λkv wr=>∃k:Nat,k≤x.seas.length∧kv=I J k∧bl ce.id id (x.seas.take k)=false∧aa ag w0 wr) (λkv _=>x.seas.length-(intOf kv).toNat)
 case atStart=>exact⟨0,by omega,rfl,by simp[bl],aa.refl _ _⟩
 case round=>
  obtain⟨k,hk,rfl,ht,hf⟩:=hrel;have HT:=h_ ht;have HF:=h_ hf;have lR:=HB.out.frm hf (λh=>h);have xx:=lR.cell 4;simp at xx;clear ht hf lR
  by_cases hlt:k<x.seas.length
  ·obtain⟨b,off,hA,-,hbl,hcell⟩:=(HS.out.seas.nix HF.out).at_ ce.clen (by decide) (by omega)
   dsimp only at hA;subst hA;obtain⟨p0,p1,p2⟩:=xZ (w:=wr) (b:=b) (off:=off+k * 3) (e:=x.seas[k]) (hcell k hlt);have cO:=h_ (λhe=>tD hlt HT.out he);have bv:=h_ (λhe=>tE hlt HT.out he);obtain⟨q,hq⟩:∃q,x.seas[k]=q:=⟨_,rfl⟩;rw[hq] at p0 p1 p2 cO bv;clear hcell hq;generalize q.id=f0 at *;generalize q.name=f1 at *;generalize q.query=f2 at *
   by_cases rE:f0=id
   case neg=>
    go_wp2;go_roundw
    case rel=>exact⟨k+1,by omega,by go_num,bv.out (by exact rE),HF.out⟩
    case measure=>simp[intOf];omega
   subst rE;have HH:=h_ (cO.out rfl);clear cO bv;go_wp2;go_ret;exact⟨by rw[HH.out]<;>rfl,bI.out.trans HF.out⟩
  ·obtain rfl:k=x.seas.length:=by omega
   have HE:=h_ (by have:=HT.out;rw[List.take_length] at this;exact bZ this);go_wp2;go_ret;exact⟨by rw[HE.out]<;>rfl,bI.out.trans HF.out⟩
end
theorem Dk{x:St}(hS:aY w G fo fe it se ts x)(hsm:aP x)(url:ByteArray):
  Calls pQ 76 #[cC fo fe it se x,V url] w λe w'=>e=.returned (I J (dX x url))∧aa ag w w':=by
 obtain⟨w0,hw0,hf0,hb0⟩:=pH w fo fe it se x;have cm:=hsm.fees;obtain⟨x0,x1,x2,x3,x4,x5,x6,x7,x8⟩:=aA hb0;have HS:=h_ (hS.nix hf0);have HB:=h_ hb0;have bI:=h_ hf0;have HW:=h_ hw0;clear hS hsm hw0 hf0 hb0;unfold cC;obtain⟨A,c⟩:=fe;dsimp only at x1 x2 x3 x4 ⊢;go_enter Tryz.func76,Tryz.ntmps76;go_wp2;rw[←HW.out]
 go_loopw [5] (λkv wr=>∃k:Nat,k≤x.fees.length∧kv=I J k∧(x.fees.take k).any (λf=>decide (f.url=url))=false∧aa ag w0 wr) (λkv _=>x.fees.length-(intOf kv).toNat)
 case atStart=>exact⟨0,by omega,rfl,by simp,aa.refl _ _⟩
 case round=>
  obtain⟨k,hk,rfl,ht,hf⟩:=hrel;have HT:=h_ ht;have HF:=h_ hf;have lR:=HB.out.frm hf (λh=>h);have xx:=lR.cell 2;simp at xx;clear ht hf lR
  by_cases hlt:k<x.fees.length
  ·obtain⟨b,off,hA,-,hbl,hcell⟩:=(HS.out.fees.nix HF.out).at_ aX.clen (by decide) (by omega)
   dsimp only at hA;subst hA;obtain⟨p0,p1,p2,p3⟩:=uC (w:=wr) (b:=b) (off:=off+k * 4) (e:=x.fees[k]) (hcell k hlt);have cO:=h_ (λhe=>Fr hlt HT.out he);have bv:=h_ (λhe=>iI hlt HT.out (decide_eq_false he));obtain⟨q,hq⟩:∃q,x.fees[k]=q:=⟨_,rfl⟩;rw[hq] at p0 p1 p2 p3 cO bv;clear hcell hq;generalize q.id=f0 at *;generalize q.inn=f1 at *;generalize q.url=f2 at *;generalize q.title=f3 at *
   by_cases rE:f2=url
   case neg=>
    obtain⟨td,mR⟩:=sD rE;go_wp2;go_roundw
    case rel=>exact⟨k+1,by omega,by go_num,bv.out (by exact rE),HF.out⟩
    case measure=>simp[intOf];omega
   subst rE;have HH:=h_ (cO.out rfl);clear cO bv;go_wp2;go_ret;exact⟨by rw[HH.out]<;>rfl,bI.out.trans HF.out⟩
  ·obtain rfl:k=x.fees.length:=by omega
   have HE:=h_ (by have:=HT.out;rw[List.take_length] at this;exact Fs this);go_wp2;go_ret;exact⟨by rw[HE.out]<;>rfl,bI.out.trans HF.out⟩
theorem Fx{x:St}(hS:aY w G fo fe it se ts x)(hsm:aP x)(bb:Int)(s:ByteArray):
  Calls pQ 77 #[cC fo fe it se x,I J bb,V s] w λe w'=>e=.returned (I J (jI x bb s))∧aa ag w w':=by
 obtain⟨w0,hw0,hf0,hb0⟩:=pH w fo fe it se x;have cm:=hsm.itms;obtain⟨x0,x1,x2,x3,x4,x5,x6,x7,x8⟩:=aA hb0;have HS:=h_ (hS.nix hf0);have HB:=h_ hb0;have bI:=h_ hf0;have HW:=h_ hw0;clear hS hsm hw0 hf0 hb0;unfold cC;obtain⟨A,c⟩:=it;dsimp only at x1 x2 x3 x4 ⊢;go_enter Tryz.func77,Tryz.ntmps77;go_wp2;rw[←HW.out]
 go_loopw [7] (λkv wr=>∃k:Nat,k≤x.itms.length∧kv=I J k∧(x.itms.take k).any (λt=>decide (t.feed=bb∧t.guid=s))=false∧aa ag w0 wr) (λkv _=>x.itms.length-(intOf kv).toNat)
 case atStart=>exact⟨0,by omega,rfl,by simp,aa.refl _ _⟩
 case round=>
  obtain⟨k,hk,rfl,ht,hf⟩:=hrel;have HT:=h_ ht;have HF:=h_ hf;have lR:=HB.out.frm hf (λh=>h);have xx:=lR.cell 3;simp at xx;clear ht hf lR
  by_cases hlt:k<x.itms.length
  ·obtain⟨mG,uj⟩:=py HS.out hlt
   obtain⟨b,off,hA,-,hbl,hcell⟩:=(HS.out.itms.row.nix HF.out).at_ bN (by decide) (by omega);dsimp only at hA;subst hA;have hc:=hcell k mG;obtain⟨tp,Es⟩:∃tp,ts[k]=tp:=⟨_,rfl⟩;rw[Es] at hc uj;obtain⟨p0,p1,p2,p3,p4,p5,p6,p7,p8⟩:=rU (w:=wr) (b:=b) (off:=off+k * 9) (p:=tp) hc;rw[uj] at p0 p1 p2 p3 p4 p5 p6 p7 p8;have cO:=h_ (λhe=>Ih hlt HT.out he);have bv:=h_ (λhe=>iI hlt HT.out (decide_eq_false he));obtain⟨q,hq⟩:∃q,x.itms[k]=q:=⟨_,rfl⟩;rw[hq] at p0 p1 p2 p3 p4 p5 p6 p7 p8 cO bv;clear hcell hq hc Es uj;generalize q.id=f0 at *;generalize q.feed=f1 at *;generalize q.date=f2 at *;generalize q.guid=f3 at *;generalize q.title=f4 at *;generalize q.link=f5 at *;generalize q.read=f6 at *;generalize q.star=f7 at *
   by_cases rE:f1=bb
   case neg=>
    go_wp2;go_roundw
    case rel=>exact⟨k+1,by omega,by go_num,bv.out (by rintro⟨e0,e1⟩;exact rE e0),HF.out⟩
    case measure=>simp[intOf];omega
   subst rE
   by_cases I4:f3=s
   case neg=>
    obtain⟨td,mR⟩:=sD I4;go_wp2;go_roundw
    case rel=>exact⟨k+1,by omega,by go_num,bv.out (by rintro⟨e0,e1⟩;exact I4 e1),HF.out⟩
    case measure=>simp[intOf];omega
   subst I4;have HH:=h_ (cO.out ⟨rfl,rfl⟩);clear cO bv;go_wp2;go_ret;exact⟨by rw[HH.out]<;>rfl,bI.out.trans HF.out⟩
  ·obtain rfl:k=x.itms.length:=by omega
   have HE:=h_ (by have:=HT.out;rw[List.take_length] at this;exact Ii this);go_wp2;go_ret;exact⟨by rw[HE.out]<;>rfl,bI.out.trans HF.out⟩
theorem Dl{x:St}(hS:aY w G fo fe it se ts x)(hsm:aP x)(bb:Int)(s:ByteArray):
  Calls pQ 74 #[cC fo fe it se x,I J bb,V s] w λe w'=>e=.returned (.bool (nK x bb s))∧aa ag w w':=by
 obtain⟨w0,hw0,hf0,hb0⟩:=pH w fo fe it se x;have cm:=hsm.fols;obtain⟨x0,x1,x2,x3,x4,x5,x6,x7,x8⟩:=aA hb0;have HS:=h_ (hS.nix hf0);have HB:=h_ hb0;have bI:=h_ hf0;have HW:=h_ hw0;clear hS hsm hw0 hf0 hb0;unfold cC;obtain⟨A,c⟩:=fo;dsimp only at x1 x2 x3 x4 ⊢;go_enter Tryz.func74,Tryz.ntmps74;go_wp2;rw[←HW.out]
 go_loopw [7] (λkv wr=>∃k:Nat,k≤x.fols.length∧kv=I J k∧(x.fols.take k).any (λt=>decide (t.inn=bb∧t.name=s))=false∧aa ag w0 wr) (λkv _=>x.fols.length-(intOf kv).toNat)
 case atStart=>exact⟨0,by omega,rfl,by simp,aa.refl _ _⟩
 case round=>
  obtain⟨k,hk,rfl,ht,hf⟩:=hrel;have HT:=h_ ht;have HF:=h_ hf;have lR:=HB.out.frm hf (λh=>h);have xx:=lR.cell 1;simp at xx;clear ht hf lR
  by_cases hlt:k<x.fols.length
  ·obtain⟨b,off,hA,-,hbl,hcell⟩:=(HS.out.fols.nix HF.out).at_ bh.clen (by decide) (by omega)
   dsimp only at hA;subst hA;obtain⟨p0,p1,p2⟩:=uB (w:=wr) (b:=b) (off:=off+k * 3) (e:=x.fols[k]) (hcell k hlt);have cO:=h_ (λhe=>Fu (b:=bb) (s:=s) hlt he);have bv:=h_ (λhe=>iI hlt HT.out (decide_eq_false he));obtain⟨q,hq⟩:∃q,x.fols[k]=q:=⟨_,rfl⟩;rw[hq] at p0 p1 p2 cO bv;clear hcell hq;generalize q.id=f0 at *;generalize q.inn=f1 at *;generalize q.name=f2 at *
   by_cases rE:f1=bb
   case neg=>
    go_wp2;go_roundw
    case rel=>exact⟨k+1,by omega,by go_num,bv.out (by rintro⟨e0,e1⟩;exact rE e0),HF.out⟩
    case measure=>simp[intOf];omega
   subst rE
   by_cases I4:f2=s
   case neg=>
    obtain⟨td,mR⟩:=sD I4;go_wp2;go_roundw
    case rel=>exact⟨k+1,by omega,by go_num,bv.out (by rintro⟨e0,e1⟩;exact I4 e1),HF.out⟩
    case measure=>simp[intOf];omega
   subst I4;have HH:=h_ (cO.out ⟨rfl,rfl⟩);clear cO bv;go_wp2;go_ret;exact⟨by rw[HH.out]<;>rfl,bI.out.trans HF.out⟩
  ·obtain rfl:k=x.fols.length:=by omega
   have HE:=h_ (by have:=HT.out;rw[List.take_length] at this;exact Fv this);go_wp2;go_ret;exact⟨by rw[HE.out]<;>rfl,bI.out.trans HF.out⟩
theorem Dm{x:St}(hS:aY w G fo fe it se ts x)(hsm:aP x)(id:Int):
  Calls pQ 75 #[cC fo fe it se x,I J id] w λe w'=>e=.returned (.bool (kM x id))∧aa ag w w':=by
 obtain⟨w0,hw0,hf0,hb0⟩:=pH w fo fe it se x;have cm:=hsm.fols;obtain⟨x0,x1,x2,x3,x4,x5,x6,x7,x8⟩:=aA hb0;have HS:=h_ (hS.nix hf0);have HB:=h_ hb0;have bI:=h_ hf0;have HW:=h_ hw0;have qH:=hsm.fees;clear hS hsm hw0 hf0 hb0;unfold cC;obtain⟨A,c⟩:=fo;dsimp only at x1 x2 x3 x4 ⊢;go_enter Tryz.func75,Tryz.ntmps75;go_wp2;rw[←HW.out]
 go_loopw [5] (λkv wr=>∃k:Nat,k≤x.fols.length∧kv=I J k∧(x.fols.take k).any (λf=>decide (f.inn=id))=false∧aa ag w0 wr) (λkv _=>x.fols.length-(intOf kv).toNat)
 case atStart=>exact⟨0,by omega,rfl,by simp,aa.refl _ _⟩
 case round=>
  obtain⟨k,hk,rfl,ht,hf⟩:=hrel;have HT:=h_ ht;have HF:=h_ hf;have lR:=HB.out.frm hf (λh=>h);have xx:=lR.cell 1;simp at xx;clear ht hf lR
  by_cases hlt:k<x.fols.length
  ·obtain⟨b,off,hA,-,hbl,hcell⟩:=(HS.out.fols.nix HF.out).at_ bh.clen (by decide) (by omega)
   dsimp only at hA;subst hA;obtain⟨p0,p1,p2⟩:=uB (w:=wr) (b:=b) (off:=off+k * 3) (e:=x.fols[k]) (hcell k hlt);have cO:=h_ (λhe=>Di (b:=id) hlt he);have bv:=h_ (λhe=>iI hlt HT.out (decide_eq_false he));obtain⟨q,hq⟩:∃q,x.fols[k]=q:=⟨_,rfl⟩;rw[hq] at p0 p1 p2 cO bv;clear hcell hq;generalize q.id=f0 at *;generalize q.inn=f1 at *;generalize q.name=f2 at *
   by_cases rE:f1=id
   case neg=>
    go_wp2;go_roundw
    case rel=>exact⟨k+1,by omega,by go_num,bv.out (by exact rE),HF.out⟩
    case measure=>simp[intOf];omega
   subst rE;have HH:=h_ (cO.out rfl);clear cO bv;go_wp2;go_ret;exact⟨by rw[HH.out]<;>rfl,bI.out.trans HF.out⟩
  ·obtain rfl:k=x.fols.length:=by omega
   have HE:=h_ (show x.fols.any (λf=>decide (f.inn=id))=false by have:=HT.out;rw[List.take_length] at this;exact this);have PL:=HE;clear HE;go_wp2;have y2:=HB.out.frm HF.out (λh=>h);obtain⟨z0,z1,z2,z3,z4,z5,z6,z7,z8⟩:=aA y2;clear y2;have pG:=HF;clear HF;obtain⟨A2,c2⟩:=fe;dsimp only at z1 z2 z3 z4
   go_loopw [6] (λkv wr=>∃k:Nat,k≤x.fees.length∧kv=I J k∧(x.fees.take k).any (λf=>decide (f.inn=id))=false∧aa ag w0 wr) (λkv _=>x.fees.length-(intOf kv).toNat)
   case atStart=>exact⟨0,by omega,rfl,by simp,pG.out⟩
   case round=>
    clear xx z0 z1 z2 z3 z4 z5 z6 z7 z8;obtain⟨k,hk,rfl,ht,hf⟩:=hrel;have HT:=h_ ht;have HF:=h_ hf;have lR:=HB.out.frm hf (λh=>h);have xx:=lR.cell 2;simp at xx;clear ht hf lR
    by_cases hlt:k<x.fees.length
    ·obtain⟨b,off,hA,-,hbl,hcell⟩:=(HS.out.fees.nix HF.out).at_ aX.clen (by decide) (by omega)
     dsimp only at hA;subst hA;obtain⟨p0,p1,p2,p3⟩:=uC (w:=wr) (b:=b) (off:=off+k * 4) (e:=x.fees[k]) (hcell k hlt);have cO:=h_ (λhe=>Dj (b:=id) hlt he);have bv:=h_ (λhe=>iI hlt HT.out (decide_eq_false he));obtain⟨q,hq⟩:∃q,x.fees[k]=q:=⟨_,rfl⟩;rw[hq] at p0 p1 p2 p3 cO bv;clear hcell hq;generalize q.id=f0 at *;generalize q.inn=f1 at *;generalize q.url=f2 at *;generalize q.title=f3 at *
     by_cases rE:f1=id
     case neg=>
      go_wp2;go_roundw
      case rel=>exact⟨k+1,by omega,by go_num,bv.out (by exact rE),HF.out⟩
      case measure=>simp[intOf];omega
     subst rE;have HH:=h_ (cO.out rfl);clear cO bv;go_wp2;go_ret;exact⟨by rw[HH.out]<;>rfl,bI.out.trans HF.out⟩
    ·obtain rfl:k=x.fees.length:=by omega
     have HE:=h_ (by have:=HT.out;rw[List.take_length] at this;exact Fw PL.out this);go_wp2;go_ret;exact⟨by rw[HE.out]<;>rfl,bI.out.trans HF.out⟩
theorem BO{v:Sl}(l:List ByteArray)(hv:aF w G 1 v l.length (l.map Value.string))(hn:l.length≤1000000)(t:ByteArray):
  Calls pQ 78 #[U v.1 l.length v.2,V t] w λe w'=>e=.returned (.bool (l.any λy=>decide (y=t)))∧aa ag w w':=by
 obtain⟨A,c⟩:=v;dsimp only;rw[tj] at hv;have HV:=h_ hv;clear hv;go_enter Tryz.func78,Tryz.ntmps78;go_wp2
 go_loopw [5] (λkv wr=>∃k:Nat,k≤l.length∧kv=I J k∧(l.take k).any (λy=>decide (y=t))=false∧aa ag w wr) (λkv _=>l.length-(intOf kv).toNat)
 case atStart=>exact⟨0,by omega,rfl,by simp,aa.refl _ _⟩
 case round=>
  obtain⟨k,hk,rfl,ht,hf⟩:=hrel;have HT:=h_ ht;have HF:=h_ hf;clear ht hf
  by_cases hlt:k<l.length
  ·obtain⟨b,off,hA,-,hbl,hcell⟩:=(HV.out.nix HF.out).at_ (f:=λi=>[Value.string i]) (λ_=>rfl) (by decide) (by omega)
   dsimp only at hA;subst hA;have x0:=hcell k hlt 0 _ rfl;rw[Nat.mul_one,Nat.add_zero] at x0;have cO:=h_ (λhe=>mF (p:=λy=>decide (y=t)) hlt (decide_eq_true he));have bv:=h_ (λhe=>iI (p:=λy=>decide (y=t)) hlt HT.out (decide_eq_false he));clear hcell;generalize l[k]=q at *
   by_cases he:q=t
   case neg=>
    obtain⟨td,mR⟩:=sD he;go_wp2;go_roundw
    case rel=>exact⟨k+1,by omega,by go_num,bv.out he,HF.out⟩
    case measure=>simp[intOf];omega
   subst he;have HH:=h_ (cO.out rfl);clear cO bv;go_wp2;go_ret;exact⟨by rw[HH.out]<;>rfl,HF.out⟩
  ·obtain rfl:k=l.length:=by omega
   have HE:Hid (l.any (λy=>decide (y=t))=false):=by have:=HT.out;rw[List.take_length] at this;exact this
   go_wp2;go_ret;exact⟨by rw[HE.out]<;>rfl,HF.out⟩
theorem tF(a b:Int)(w:World):Calls pQ 80 #[I J a,I J b] w λe w'=>e=.returned (I J (max a b))∧w=w':=by
 by_cases h:b<a
 ·rw[show max a b=a by omega]
  go_enter Tryz.func80,Tryz.ntmps80;go_wp2;go_ret;exact⟨rfl,rfl⟩
 ·rw[show max a b=b by omega]
  go_enter Tryz.func80,Tryz.ntmps80;go_wp2;go_ret;exact⟨rfl,rfl⟩
end Go.Proofs.YtaecjmiobllhmaaGreat
