/- Words. -/
import Derived.Test.YtaecjmiobllhmaaGreatGp10
import Derived.Test.YtaecjmiobllhmaaGreatGp24
import Derived.Test.YtaecjmiobllhmaaGreatGp15
set_option linter.unusedVariables false
set_option linter.unusedSimpArgs false
set_option maxRecDepth 100000
set_option maxHeartbeats 16000000
namespace Go.Proofs.YtaecjmiobllhmaaGreat
open Go.RowKit Go.Lib
section
section
variable {α:Type} {p:α→Bool} {l:List α} {k:Nat}
theorem fst_step(h:k<l.length)(hn:(l.take k).any p=false)(he:p l[k]=false):(l.take (k+1)).any p=false:=by
 rw[List.take_succ_eq_append_getElem h,List.any_append,hn];simp[he]
theorem fst_any(h:k<l.length)(he:p l[k]=true):l.any p=true:=List.any_eq_true.2 ⟨_,List.getElem_mem h,he⟩
theorem fst_find(h:k<l.length)(hn:(l.take k).any p=false)(he:p l[k]=true):l.find? p=some l[k]:=by
 have e:l=l.take k++l.drop k:=(List.take_append_drop k l).symm;rw[List.drop_eq_getElem_cons h] at e
 conv=>lhs;rw[e]
 rw[List.find?_append,List.find?_eq_none.2 (by simpa using hn),List.find?_cons_of_pos (by simpa using he)];simp
theorem fst_idx(h:k<l.length)(hn:(l.take k).any p=false)(he:p l[k]=true):l.findIdx p=k:=by
 rw[List.findIdx_eq h];refine⟨he,λj hj=>?_⟩;have:=List.any_eq_false.1 hn l[j] (List.mem_take_iff_getElem.2 ⟨j,by omega,rfl⟩)
 simpa using this
theorem fst_none(hn:l.any p=false):l.find? p=none:=List.find?_eq_none.2 (by simpa using hn)
theorem fil_len_yes(h:k<l.length)(he:p l[k]=true):((l.take (k+1)).filter p).length=((l.take k).filter p).length+1:=by
 rw[List.take_succ_eq_append_getElem h,List.filter_append];simp[he]
end
def posR{α:Type}(g:α→Int)(id:Int)(l:List α):Int:=if isI g id l=true then (posI g id l:Int) else -1
section
variable {α:Type} {g:α→Int} {id:Int} {l:List α} {k:Nat}
theorem posR_hit(h:k<l.length)(hn:isI g id (l.take k)=false)(he:g l[k]=id):posR g id l=k:=by
 have h1:isI g id l=true:=fst_any h (by simpa using he);have h2:posI g id l=k:=fst_idx h hn (by simpa using he);unfold posR;rw[h1,if_pos rfl,h2]
theorem posR_end(hn:isI g id l=false):posR g id l= -1:=by
 unfold posR;rw[hn];rfl
theorem isI_step(h:k<l.length)(hn:isI g id (l.take k)=false)(he:¬g l[k]=id):isI g id (l.take (k+1))=false:=fst_step h hn (by simpa using he)
theorem posR_at(h:isI g id l=true):∃(k:Nat) (hk:k<l.length),posR g id l=k∧g l[k]=id∧atI g id l=some l[k]∧posI g id l=k:=by
 have hk:posI g id l<l.length:=by
  unfold posI;rw[List.findIdx_lt_length]
  simpa [isI] using h
 refine⟨posI g id l,hk,by unfold posR;rw[if_pos h],?_,?_,rfl⟩
 ·have:=List.findIdx_getElem (xs:=l) (p:=λx=>decide (g x=id)) (w:=hk)
  exact of_decide_eq_true this
 ·have h1:=List.findIdx_getElem (xs:=l) (p:=λx=>decide (g x=id)) (w:=hk)
  refine fst_find hk ?_ h1;refine List.any_eq_false.2 λa ha=>?_
  obtain⟨j,hj,rfl⟩:=List.mem_take_iff_getElem.1 ha;have:=List.not_of_lt_findIdx (xs:=l) (p:=λx=>decide (g x=id)) (i:=j) (by unfold posI at hj;omega)
  simpa using this
end
end
section
section
variable {x:St} {k:Nat} {s:ByteArray} {b:Int}
theorem place_hit(h:k<x.fees.length)(hn:(x.fees.take k).any (λf=>decide (f.url=s))=false)(he:x.fees[k].url=s):placeS x s=x.fees[k].id:=by
 unfold placeS;rw[fst_find h hn (by simpa using he)]
theorem place_end(hn:x.fees.any (λf=>decide (f.url=s))=false):placeS x s=0:=by
 unfold placeS;rw[fst_none hn]
theorem guid_hit(h:k<x.itms.length)(hn:(x.itms.take k).any (λt=>decide (t.feed=b∧t.guid=s))=false)(he:x.itms[k].feed=b∧x.itms[k].guid=s):guidS x b s=x.itms[k].id:=by
 unfold guidS;rw[fst_find h hn (by simpa using he)]
theorem guid_end(hn:x.itms.any (λt=>decide (t.feed=b∧t.guid=s))=false):guidS x b s=0:=by
 unfold guidS;rw[fst_none hn]
theorem named_hit(h:k<x.fols.length)(he:x.fols[k].inn=b∧x.fols[k].name=s):namedS x b s=true:=fst_any (p:=λf:Fol=>decide (f.inn=b∧f.name=s)) h (by simpa using he)
theorem named_end(hn:x.fols.any (λf=>decide (f.inn=b∧f.name=s))=false):namedS x b s=false:=hn
theorem empty_hit1(h:k<x.fols.length)(he:x.fols[k].inn=b):emptyS x b=false:=by
 unfold emptyS;rw[fst_any (p:=λf:Fol=>decide (f.inn=b)) h (by simpa using he)];rfl
theorem empty_hit2(h:k<x.fees.length)(he:x.fees[k].inn=b):emptyS x b=false:=by
 unfold emptyS;rw[fst_any (p:=λf:Fee=>decide (f.inn=b)) h (by simpa using he)];simp
theorem empty_end(h1:x.fols.any (λf=>decide (f.inn=b))=false)(h2:x.fees.any (λf=>decide (f.inn=b))=false):emptyS x b=true:=by
 unfold emptyS;rw[h1,h2];rfl
theorem itms_at{w:World}{G:Nat→Prop}{fo fe it se:Sl}{ts:List (Sl×Itm)}(h:StIn w G fo fe it se ts x)(hk:k<x.itms.length):∃hk':k<ts.length,(ts[k]'hk').2=x.itms[k]:=by
 have hk':k<ts.length:=by rw[h.len];exact hk
 refine⟨hk',?_⟩;have:(ts.map (·.2))[k]'(by simpa using hk')=(ts[k]'hk').2:=by simp
 rw[←this]
 congr 1
 exact h.same
end
theorem str_ne{a b:ByteArray}(h:¬a=b):¬a.toList=b.toList∧(a.toList==b.toList)=false:=by
 have hq:¬a.toList=b.toList:=λe=>h (toList_inj.1 e)
 exact⟨hq,by simp[hq]⟩
theorem rFolder_any{w:World}{fo fe it se:Sl}{ts:List (Sl×Itm)}{x:St}{G:Nat→Prop}(hS:StIn w G fo fe it se ts x)(hsm:StSmall x)(id:Int):
  Calls Tryz.prog 72 #[stV fo fe it se x,.int .i64 id] w λe w'=>e=.returned (.int .i64 (posR Fol.id id x.fols))∧Frm Nix w w':=by
 obtain⟨w0,hw0,hf0,hb0⟩:=box_st w fo fe it se x;have hcap:=hsm.fols;obtain⟨x0,x1,x2,x3,x4,x5,x6,x7,x8⟩:=blk9 hb0;have HS:=h_ (hS.nix hf0);have HB:=h_ hb0;have HF0:=h_ hf0;have HW:=h_ hw0;clear hS hsm hw0 hf0 hb0;unfold stV;obtain⟨A,c⟩:=fo;dsimp only at x1 x2 x3 x4 ⊢;go_enter Tryz.func72,Tryz.ntmps72;go_wp2;rw[←HW.out]
 go_loopw [5] (λkv wr=>∃k:Nat,k≤x.fols.length∧kv=.int .i64 k∧isI Fol.id id (x.fols.take k)=false∧Frm Nix w0 wr) (λkv _=>x.fols.length - (intOf kv).toNat)
 case atStart=>exact⟨0,by omega,rfl,by simp[isI],Frm.refl _ _⟩
 case round=>
  obtain⟨k,hk,rfl,ht,hf⟩:=hrel;have HT:=h_ ht;have HF:=h_ hf;have hbx:=HB.out.frm hf (λh=>h);have xx:=hbx.cell 1;simp at xx;clear ht hf hbx
  by_cases hlt:k<x.fols.length
  ·obtain⟨b,off,hA,-,hbl,hcell⟩:=(HS.out.fols.nix HF.out).at_ Fol.clen (by decide) (by omega)
   dsimp only at hA;subst hA;obtain⟨p0,p1,p2⟩:=Folcs (w:=wr) (b:=b) (off:=off+k * 3) (e:=x.fols[k]) (hcell k hlt);have HHit:=h_ (λhe=>posR_hit hlt HT.out he);have HStep:=h_ (λhe=>isI_step hlt HT.out he);obtain⟨q,hq⟩:∃q,x.fols[k]=q:=⟨_,rfl⟩;rw[hq] at p0 p1 p2 HHit HStep;clear hcell hq;generalize q.id=f0 at *;generalize q.inn=f1 at *;generalize q.name=f2 at *
   by_cases he0:f0=id
   case neg=>
    go_wp2;go_roundw
    case rel=>exact⟨k+1,by omega,by go_num,HStep.out (by exact he0),HF.out⟩
    case measure=>simp[intOf];omega
   subst he0;have HH:=h_ (HHit.out rfl);clear HHit HStep;go_wp2;go_ret;exact⟨by rw[HH.out]<;>rfl,HF0.out.trans HF.out⟩
  ·obtain rfl:k=x.fols.length:=by omega
   have HE:=h_ (by have:=HT.out;rw[List.take_length] at this;exact posR_end this);go_wp2;go_ret;exact⟨by rw[HE.out]<;>rfl,HF0.out.trans HF.out⟩
theorem rFeed_any{w:World}{fo fe it se:Sl}{ts:List (Sl×Itm)}{x:St}{G:Nat→Prop}(hS:StIn w G fo fe it se ts x)(hsm:StSmall x)(id:Int):
  Calls Tryz.prog 33 #[stV fo fe it se x,.int .i64 id] w λe w'=>e=.returned (.int .i64 (posR Fee.id id x.fees))∧Frm Nix w w':=by
 obtain⟨w0,hw0,hf0,hb0⟩:=box_st w fo fe it se x;have hcap:=hsm.fees;obtain⟨x0,x1,x2,x3,x4,x5,x6,x7,x8⟩:=blk9 hb0;have HS:=h_ (hS.nix hf0);have HB:=h_ hb0;have HF0:=h_ hf0;have HW:=h_ hw0;clear hS hsm hw0 hf0 hb0;unfold stV;obtain⟨A,c⟩:=fe;dsimp only at x1 x2 x3 x4 ⊢;go_enter Tryz.func33,Tryz.ntmps33;go_wp2;rw[←HW.out]
 go_loopw [5] (λkv wr=>∃k:Nat,k≤x.fees.length∧kv=.int .i64 k∧isI Fee.id id (x.fees.take k)=false∧Frm Nix w0 wr) (λkv _=>x.fees.length - (intOf kv).toNat)
 case atStart=>exact⟨0,by omega,rfl,by simp[isI],Frm.refl _ _⟩
 case round=>
  obtain⟨k,hk,rfl,ht,hf⟩:=hrel;have HT:=h_ ht;have HF:=h_ hf;have hbx:=HB.out.frm hf (λh=>h);have xx:=hbx.cell 2;simp at xx;clear ht hf hbx
  by_cases hlt:k<x.fees.length
  ·obtain⟨b,off,hA,-,hbl,hcell⟩:=(HS.out.fees.nix HF.out).at_ Fee.clen (by decide) (by omega)
   dsimp only at hA;subst hA;obtain⟨p0,p1,p2,p3⟩:=Feecs (w:=wr) (b:=b) (off:=off+k * 4) (e:=x.fees[k]) (hcell k hlt);have HHit:=h_ (λhe=>posR_hit hlt HT.out he);have HStep:=h_ (λhe=>isI_step hlt HT.out he);obtain⟨q,hq⟩:∃q,x.fees[k]=q:=⟨_,rfl⟩;rw[hq] at p0 p1 p2 p3 HHit HStep;clear hcell hq;generalize q.id=f0 at *;generalize q.inn=f1 at *;generalize q.url=f2 at *;generalize q.title=f3 at *
   by_cases he0:f0=id
   case neg=>
    go_wp2;go_roundw
    case rel=>exact⟨k+1,by omega,by go_num,HStep.out (by exact he0),HF.out⟩
    case measure=>simp[intOf];omega
   subst he0;have HH:=h_ (HHit.out rfl);clear HHit HStep;go_wp2;go_ret;exact⟨by rw[HH.out]<;>rfl,HF0.out.trans HF.out⟩
  ·obtain rfl:k=x.fees.length:=by omega
   have HE:=h_ (by have:=HT.out;rw[List.take_length] at this;exact posR_end this);go_wp2;go_ret;exact⟨by rw[HE.out]<;>rfl,HF0.out.trans HF.out⟩
theorem rItem_any{w:World}{fo fe it se:Sl}{ts:List (Sl×Itm)}{x:St}{G:Nat→Prop}(hS:StIn w G fo fe it se ts x)(hsm:StSmall x)(id:Int):
  Calls Tryz.prog 34 #[stV fo fe it se x,.int .i64 id] w λe w'=>e=.returned (.int .i64 (posR Itm.id id x.itms))∧Frm Nix w w':=by
 obtain⟨w0,hw0,hf0,hb0⟩:=box_st w fo fe it se x;have hcap:=hsm.itms;obtain⟨x0,x1,x2,x3,x4,x5,x6,x7,x8⟩:=blk9 hb0;have HS:=h_ (hS.nix hf0);have HB:=h_ hb0;have HF0:=h_ hf0;have HW:=h_ hw0;clear hS hsm hw0 hf0 hb0;unfold stV;obtain⟨A,c⟩:=it;dsimp only at x1 x2 x3 x4 ⊢;go_enter Tryz.func34,Tryz.ntmps34;go_wp2;rw[←HW.out]
 go_loopw [5] (λkv wr=>∃k:Nat,k≤x.itms.length∧kv=.int .i64 k∧isI Itm.id id (x.itms.take k)=false∧Frm Nix w0 wr) (λkv _=>x.itms.length - (intOf kv).toNat)
 case atStart=>exact⟨0,by omega,rfl,by simp[isI],Frm.refl _ _⟩
 case round=>
  obtain⟨k,hk,rfl,ht,hf⟩:=hrel;have HT:=h_ ht;have HF:=h_ hf;have hbx:=HB.out.frm hf (λh=>h);have xx:=hbx.cell 3;simp at xx;clear ht hf hbx
  by_cases hlt:k<x.itms.length
  ·obtain⟨hkt,het⟩:=itms_at HS.out hlt
   obtain⟨b,off,hA,-,hbl,hcell⟩:=(HS.out.itms.row.nix HF.out).at_ itmC_len (by decide) (by omega);dsimp only at hA;subst hA;have hc:=hcell k hkt;obtain⟨tp,htp⟩:∃tp,ts[k]=tp:=⟨_,rfl⟩;rw[htp] at hc het;obtain⟨p0,p1,p2,p3,p4,p5,p6,p7,p8⟩:=itmcs (w:=wr) (b:=b) (off:=off+k * 9) (p:=tp) hc;rw[het] at p0 p1 p2 p3 p4 p5 p6 p7 p8;have HHit:=h_ (λhe=>posR_hit hlt HT.out he);have HStep:=h_ (λhe=>isI_step hlt HT.out he);obtain⟨q,hq⟩:∃q,x.itms[k]=q:=⟨_,rfl⟩;rw[hq] at p0 p1 p2 p3 p4 p5 p6 p7 p8 HHit HStep;clear hcell hq hc htp het;generalize q.id=f0 at *;generalize q.feed=f1 at *;generalize q.date=f2 at *;generalize q.guid=f3 at *;generalize q.title=f4 at *;generalize q.link=f5 at *;generalize q.read=f6 at *;generalize q.star=f7 at *
   by_cases he0:f0=id
   case neg=>
    go_wp2;go_roundw
    case rel=>exact⟨k+1,by omega,by go_num,HStep.out (by exact he0),HF.out⟩
    case measure=>simp[intOf];omega
   subst he0;have HH:=h_ (HHit.out rfl);clear HHit HStep;go_wp2;go_ret;exact⟨by rw[HH.out]<;>rfl,HF0.out.trans HF.out⟩
  ·obtain rfl:k=x.itms.length:=by omega
   have HE:=h_ (by have:=HT.out;rw[List.take_length] at this;exact posR_end this);go_wp2;go_ret;exact⟨by rw[HE.out]<;>rfl,HF0.out.trans HF.out⟩
theorem rSearch_any{w:World}{fo fe it se:Sl}{ts:List (Sl×Itm)}{x:St}{G:Nat→Prop}(hS:StIn w G fo fe it se ts x)(hsm:StSmall x)(id:Int):
  Calls Tryz.prog 79 #[stV fo fe it se x,.int .i64 id] w λe w'=>e=.returned (.int .i64 (posR Sea.id id x.seas))∧Frm Nix w w':=by
 obtain⟨w0,hw0,hf0,hb0⟩:=box_st w fo fe it se x;have hcap:=hsm.seas;obtain⟨x0,x1,x2,x3,x4,x5,x6,x7,x8⟩:=blk9 hb0;have HS:=h_ (hS.nix hf0);have HB:=h_ hb0;have HF0:=h_ hf0;have HW:=h_ hw0;clear hS hsm hw0 hf0 hb0;unfold stV;obtain⟨A,c⟩:=se;dsimp only at x1 x2 x3 x4 ⊢;go_enter Tryz.func79,Tryz.ntmps79;go_wp2;rw[←HW.out]
 go_loopw [5] (λkv wr=>∃k:Nat,k≤x.seas.length∧kv=.int .i64 k∧isI Sea.id id (x.seas.take k)=false∧Frm Nix w0 wr) (λkv _=>x.seas.length - (intOf kv).toNat)
 case atStart=>exact⟨0,by omega,rfl,by simp[isI],Frm.refl _ _⟩
 case round=>
  obtain⟨k,hk,rfl,ht,hf⟩:=hrel;have HT:=h_ ht;have HF:=h_ hf;have hbx:=HB.out.frm hf (λh=>h);have xx:=hbx.cell 4;simp at xx;clear ht hf hbx
  by_cases hlt:k<x.seas.length
  ·obtain⟨b,off,hA,-,hbl,hcell⟩:=(HS.out.seas.nix HF.out).at_ Sea.clen (by decide) (by omega)
   dsimp only at hA;subst hA;obtain⟨p0,p1,p2⟩:=Seacs (w:=wr) (b:=b) (off:=off+k * 3) (e:=x.seas[k]) (hcell k hlt);have HHit:=h_ (λhe=>posR_hit hlt HT.out he);have HStep:=h_ (λhe=>isI_step hlt HT.out he);obtain⟨q,hq⟩:∃q,x.seas[k]=q:=⟨_,rfl⟩;rw[hq] at p0 p1 p2 HHit HStep;clear hcell hq;generalize q.id=f0 at *;generalize q.name=f1 at *;generalize q.query=f2 at *
   by_cases he0:f0=id
   case neg=>
    go_wp2;go_roundw
    case rel=>exact⟨k+1,by omega,by go_num,HStep.out (by exact he0),HF.out⟩
    case measure=>simp[intOf];omega
   subst he0;have HH:=h_ (HHit.out rfl);clear HHit HStep;go_wp2;go_ret;exact⟨by rw[HH.out]<;>rfl,HF0.out.trans HF.out⟩
  ·obtain rfl:k=x.seas.length:=by omega
   have HE:=h_ (by have:=HT.out;rw[List.take_length] at this;exact posR_end this);go_wp2;go_ret;exact⟨by rw[HE.out]<;>rfl,HF0.out.trans HF.out⟩
end
theorem rPlace_any{w:World}{fo fe it se:Sl}{ts:List (Sl×Itm)}{x:St}{G:Nat→Prop}(hS:StIn w G fo fe it se ts x)(hsm:StSmall x)(url:ByteArray):
  Calls Tryz.prog 76 #[stV fo fe it se x,.string url] w λe w'=>e=.returned (.int .i64 (placeS x url))∧Frm Nix w w':=by
 obtain⟨w0,hw0,hf0,hb0⟩:=box_st w fo fe it se x;have hcap:=hsm.fees;obtain⟨x0,x1,x2,x3,x4,x5,x6,x7,x8⟩:=blk9 hb0;have HS:=h_ (hS.nix hf0);have HB:=h_ hb0;have HF0:=h_ hf0;have HW:=h_ hw0;clear hS hsm hw0 hf0 hb0;unfold stV;obtain⟨A,c⟩:=fe;dsimp only at x1 x2 x3 x4 ⊢;go_enter Tryz.func76,Tryz.ntmps76;go_wp2;rw[←HW.out]
 go_loopw [5] (λkv wr=>∃k:Nat,k≤x.fees.length∧kv=.int .i64 k∧(x.fees.take k).any (λf=>decide (f.url=url))=false∧Frm Nix w0 wr) (λkv _=>x.fees.length - (intOf kv).toNat)
 case atStart=>exact⟨0,by omega,rfl,by simp,Frm.refl _ _⟩
 case round=>
  obtain⟨k,hk,rfl,ht,hf⟩:=hrel;have HT:=h_ ht;have HF:=h_ hf;have hbx:=HB.out.frm hf (λh=>h);have xx:=hbx.cell 2;simp at xx;clear ht hf hbx
  by_cases hlt:k<x.fees.length
  ·obtain⟨b,off,hA,-,hbl,hcell⟩:=(HS.out.fees.nix HF.out).at_ Fee.clen (by decide) (by omega)
   dsimp only at hA;subst hA;obtain⟨p0,p1,p2,p3⟩:=Feecs (w:=wr) (b:=b) (off:=off+k * 4) (e:=x.fees[k]) (hcell k hlt);have HHit:=h_ (λhe=>place_hit hlt HT.out he);have HStep:=h_ (λhe=>fst_step hlt HT.out (decide_eq_false he));obtain⟨q,hq⟩:∃q,x.fees[k]=q:=⟨_,rfl⟩;rw[hq] at p0 p1 p2 p3 HHit HStep;clear hcell hq;generalize q.id=f0 at *;generalize q.inn=f1 at *;generalize q.url=f2 at *;generalize q.title=f3 at *
   by_cases he0:f2=url
   case neg=>
    obtain⟨hq1,hq2⟩:=str_ne he0;go_wp2;go_roundw
    case rel=>exact⟨k+1,by omega,by go_num,HStep.out (by exact he0),HF.out⟩
    case measure=>simp[intOf];omega
   subst he0;have HH:=h_ (HHit.out rfl);clear HHit HStep;go_wp2;go_ret;exact⟨by rw[HH.out]<;>rfl,HF0.out.trans HF.out⟩
  ·obtain rfl:k=x.fees.length:=by omega
   have HE:=h_ (by have:=HT.out;rw[List.take_length] at this;exact place_end this);go_wp2;go_ret;exact⟨by rw[HE.out]<;>rfl,HF0.out.trans HF.out⟩
theorem rGuid_any{w:World}{fo fe it se:Sl}{ts:List (Sl×Itm)}{x:St}{G:Nat→Prop}(hS:StIn w G fo fe it se ts x)(hsm:StSmall x)(bb:Int)(s:ByteArray):
  Calls Tryz.prog 77 #[stV fo fe it se x,.int .i64 bb,.string s] w λe w'=>e=.returned (.int .i64 (guidS x bb s))∧Frm Nix w w':=by
 obtain⟨w0,hw0,hf0,hb0⟩:=box_st w fo fe it se x;have hcap:=hsm.itms;obtain⟨x0,x1,x2,x3,x4,x5,x6,x7,x8⟩:=blk9 hb0;have HS:=h_ (hS.nix hf0);have HB:=h_ hb0;have HF0:=h_ hf0;have HW:=h_ hw0;clear hS hsm hw0 hf0 hb0;unfold stV;obtain⟨A,c⟩:=it;dsimp only at x1 x2 x3 x4 ⊢;go_enter Tryz.func77,Tryz.ntmps77;go_wp2;rw[←HW.out]
 go_loopw [7] (λkv wr=>∃k:Nat,k≤x.itms.length∧kv=.int .i64 k∧(x.itms.take k).any (λt=>decide (t.feed=bb∧t.guid=s))=false∧Frm Nix w0 wr) (λkv _=>x.itms.length - (intOf kv).toNat)
 case atStart=>exact⟨0,by omega,rfl,by simp,Frm.refl _ _⟩
 case round=>
  obtain⟨k,hk,rfl,ht,hf⟩:=hrel;have HT:=h_ ht;have HF:=h_ hf;have hbx:=HB.out.frm hf (λh=>h);have xx:=hbx.cell 3;simp at xx;clear ht hf hbx
  by_cases hlt:k<x.itms.length
  ·obtain⟨hkt,het⟩:=itms_at HS.out hlt
   obtain⟨b,off,hA,-,hbl,hcell⟩:=(HS.out.itms.row.nix HF.out).at_ itmC_len (by decide) (by omega);dsimp only at hA;subst hA;have hc:=hcell k hkt;obtain⟨tp,htp⟩:∃tp,ts[k]=tp:=⟨_,rfl⟩;rw[htp] at hc het;obtain⟨p0,p1,p2,p3,p4,p5,p6,p7,p8⟩:=itmcs (w:=wr) (b:=b) (off:=off+k * 9) (p:=tp) hc;rw[het] at p0 p1 p2 p3 p4 p5 p6 p7 p8;have HHit:=h_ (λhe=>guid_hit hlt HT.out he);have HStep:=h_ (λhe=>fst_step hlt HT.out (decide_eq_false he));obtain⟨q,hq⟩:∃q,x.itms[k]=q:=⟨_,rfl⟩;rw[hq] at p0 p1 p2 p3 p4 p5 p6 p7 p8 HHit HStep;clear hcell hq hc htp het;generalize q.id=f0 at *;generalize q.feed=f1 at *;generalize q.date=f2 at *;generalize q.guid=f3 at *;generalize q.title=f4 at *;generalize q.link=f5 at *;generalize q.read=f6 at *;generalize q.star=f7 at *
   by_cases he0:f1=bb
   case neg=>
    go_wp2;go_roundw
    case rel=>exact⟨k+1,by omega,by go_num,HStep.out (by rintro⟨e0,e1⟩;exact he0 e0),HF.out⟩
    case measure=>simp[intOf];omega
   subst he0
   by_cases he1:f3=s
   case neg=>
    obtain⟨hq1,hq2⟩:=str_ne he1;go_wp2;go_roundw
    case rel=>exact⟨k+1,by omega,by go_num,HStep.out (by rintro⟨e0,e1⟩;exact he1 e1),HF.out⟩
    case measure=>simp[intOf];omega
   subst he1;have HH:=h_ (HHit.out ⟨rfl,rfl⟩);clear HHit HStep;go_wp2;go_ret;exact⟨by rw[HH.out]<;>rfl,HF0.out.trans HF.out⟩
  ·obtain rfl:k=x.itms.length:=by omega
   have HE:=h_ (by have:=HT.out;rw[List.take_length] at this;exact guid_end this);go_wp2;go_ret;exact⟨by rw[HE.out]<;>rfl,HF0.out.trans HF.out⟩
theorem rNamed_any{w:World}{fo fe it se:Sl}{ts:List (Sl×Itm)}{x:St}{G:Nat→Prop}(hS:StIn w G fo fe it se ts x)(hsm:StSmall x)(bb:Int)(s:ByteArray):
  Calls Tryz.prog 74 #[stV fo fe it se x,.int .i64 bb,.string s] w λe w'=>e=.returned (.bool (namedS x bb s))∧Frm Nix w w':=by
 obtain⟨w0,hw0,hf0,hb0⟩:=box_st w fo fe it se x;have hcap:=hsm.fols;obtain⟨x0,x1,x2,x3,x4,x5,x6,x7,x8⟩:=blk9 hb0;have HS:=h_ (hS.nix hf0);have HB:=h_ hb0;have HF0:=h_ hf0;have HW:=h_ hw0;clear hS hsm hw0 hf0 hb0;unfold stV;obtain⟨A,c⟩:=fo;dsimp only at x1 x2 x3 x4 ⊢;go_enter Tryz.func74,Tryz.ntmps74;go_wp2;rw[←HW.out]
 go_loopw [7] (λkv wr=>∃k:Nat,k≤x.fols.length∧kv=.int .i64 k∧(x.fols.take k).any (λt=>decide (t.inn=bb∧t.name=s))=false∧Frm Nix w0 wr) (λkv _=>x.fols.length - (intOf kv).toNat)
 case atStart=>exact⟨0,by omega,rfl,by simp,Frm.refl _ _⟩
 case round=>
  obtain⟨k,hk,rfl,ht,hf⟩:=hrel;have HT:=h_ ht;have HF:=h_ hf;have hbx:=HB.out.frm hf (λh=>h);have xx:=hbx.cell 1;simp at xx;clear ht hf hbx
  by_cases hlt:k<x.fols.length
  ·obtain⟨b,off,hA,-,hbl,hcell⟩:=(HS.out.fols.nix HF.out).at_ Fol.clen (by decide) (by omega)
   dsimp only at hA;subst hA;obtain⟨p0,p1,p2⟩:=Folcs (w:=wr) (b:=b) (off:=off+k * 3) (e:=x.fols[k]) (hcell k hlt);have HHit:=h_ (λhe=>named_hit (b:=bb) (s:=s) hlt he);have HStep:=h_ (λhe=>fst_step hlt HT.out (decide_eq_false he));obtain⟨q,hq⟩:∃q,x.fols[k]=q:=⟨_,rfl⟩;rw[hq] at p0 p1 p2 HHit HStep;clear hcell hq;generalize q.id=f0 at *;generalize q.inn=f1 at *;generalize q.name=f2 at *
   by_cases he0:f1=bb
   case neg=>
    go_wp2;go_roundw
    case rel=>exact⟨k+1,by omega,by go_num,HStep.out (by rintro⟨e0,e1⟩;exact he0 e0),HF.out⟩
    case measure=>simp[intOf];omega
   subst he0
   by_cases he1:f2=s
   case neg=>
    obtain⟨hq1,hq2⟩:=str_ne he1;go_wp2;go_roundw
    case rel=>exact⟨k+1,by omega,by go_num,HStep.out (by rintro⟨e0,e1⟩;exact he1 e1),HF.out⟩
    case measure=>simp[intOf];omega
   subst he1;have HH:=h_ (HHit.out ⟨rfl,rfl⟩);clear HHit HStep;go_wp2;go_ret;exact⟨by rw[HH.out]<;>rfl,HF0.out.trans HF.out⟩
  ·obtain rfl:k=x.fols.length:=by omega
   have HE:=h_ (by have:=HT.out;rw[List.take_length] at this;exact named_end this);go_wp2;go_ret;exact⟨by rw[HE.out]<;>rfl,HF0.out.trans HF.out⟩
theorem rEmpty_any{w:World}{fo fe it se:Sl}{ts:List (Sl×Itm)}{x:St}{G:Nat→Prop}(hS:StIn w G fo fe it se ts x)(hsm:StSmall x)(id:Int):
  Calls Tryz.prog 75 #[stV fo fe it se x,.int .i64 id] w λe w'=>e=.returned (.bool (emptyS x id))∧Frm Nix w w':=by
 obtain⟨w0,hw0,hf0,hb0⟩:=box_st w fo fe it se x;have hcap:=hsm.fols;obtain⟨x0,x1,x2,x3,x4,x5,x6,x7,x8⟩:=blk9 hb0;have HS:=h_ (hS.nix hf0);have HB:=h_ hb0;have HF0:=h_ hf0;have HW:=h_ hw0;have hcap2:=hsm.fees;clear hS hsm hw0 hf0 hb0;unfold stV;obtain⟨A,c⟩:=fo;dsimp only at x1 x2 x3 x4 ⊢;go_enter Tryz.func75,Tryz.ntmps75;go_wp2;rw[←HW.out]
 go_loopw [5] (λkv wr=>∃k:Nat,k≤x.fols.length∧kv=.int .i64 k∧(x.fols.take k).any (λf=>decide (f.inn=id))=false∧Frm Nix w0 wr) (λkv _=>x.fols.length - (intOf kv).toNat)
 case atStart=>exact⟨0,by omega,rfl,by simp,Frm.refl _ _⟩
 case round=>
  obtain⟨k,hk,rfl,ht,hf⟩:=hrel;have HT:=h_ ht;have HF:=h_ hf;have hbx:=HB.out.frm hf (λh=>h);have xx:=hbx.cell 1;simp at xx;clear ht hf hbx
  by_cases hlt:k<x.fols.length
  ·obtain⟨b,off,hA,-,hbl,hcell⟩:=(HS.out.fols.nix HF.out).at_ Fol.clen (by decide) (by omega)
   dsimp only at hA;subst hA;obtain⟨p0,p1,p2⟩:=Folcs (w:=wr) (b:=b) (off:=off+k * 3) (e:=x.fols[k]) (hcell k hlt);have HHit:=h_ (λhe=>empty_hit1 (b:=id) hlt he);have HStep:=h_ (λhe=>fst_step hlt HT.out (decide_eq_false he));obtain⟨q,hq⟩:∃q,x.fols[k]=q:=⟨_,rfl⟩;rw[hq] at p0 p1 p2 HHit HStep;clear hcell hq;generalize q.id=f0 at *;generalize q.inn=f1 at *;generalize q.name=f2 at *
   by_cases he0:f1=id
   case neg=>
    go_wp2;go_roundw
    case rel=>exact⟨k+1,by omega,by go_num,HStep.out (by exact he0),HF.out⟩
    case measure=>simp[intOf];omega
   subst he0;have HH:=h_ (HHit.out rfl);clear HHit HStep;go_wp2;go_ret;exact⟨by rw[HH.out]<;>rfl,HF0.out.trans HF.out⟩
  ·obtain rfl:k=x.fols.length:=by omega
   have HE:=h_ (show x.fols.any (λf=>decide (f.inn=id))=false by have:=HT.out;rw[List.take_length] at this;exact this);have HE0:=HE;clear HE;go_wp2;have y2:=HB.out.frm HF.out (λh=>h);obtain⟨z0,z1,z2,z3,z4,z5,z6,z7,z8⟩:=blk9 y2;clear y2;have HF1:=HF;clear HF;obtain⟨A2,c2⟩:=fe;dsimp only at z1 z2 z3 z4
   go_loopw [6] (λkv wr=>∃k:Nat,k≤x.fees.length∧kv=.int .i64 k∧(x.fees.take k).any (λf=>decide (f.inn=id))=false∧Frm Nix w0 wr) (λkv _=>x.fees.length - (intOf kv).toNat)
   case atStart=>exact⟨0,by omega,rfl,by simp,HF1.out⟩
   case round=>
    clear xx z0 z1 z2 z3 z4 z5 z6 z7 z8;obtain⟨k,hk,rfl,ht,hf⟩:=hrel;have HT:=h_ ht;have HF:=h_ hf;have hbx:=HB.out.frm hf (λh=>h);have xx:=hbx.cell 2;simp at xx;clear ht hf hbx
    by_cases hlt:k<x.fees.length
    ·obtain⟨b,off,hA,-,hbl,hcell⟩:=(HS.out.fees.nix HF.out).at_ Fee.clen (by decide) (by omega)
     dsimp only at hA;subst hA;obtain⟨p0,p1,p2,p3⟩:=Feecs (w:=wr) (b:=b) (off:=off+k * 4) (e:=x.fees[k]) (hcell k hlt);have HHit:=h_ (λhe=>empty_hit2 (b:=id) hlt he);have HStep:=h_ (λhe=>fst_step hlt HT.out (decide_eq_false he));obtain⟨q,hq⟩:∃q,x.fees[k]=q:=⟨_,rfl⟩;rw[hq] at p0 p1 p2 p3 HHit HStep;clear hcell hq;generalize q.id=f0 at *;generalize q.inn=f1 at *;generalize q.url=f2 at *;generalize q.title=f3 at *
     by_cases he0:f1=id
     case neg=>
      go_wp2;go_roundw
      case rel=>exact⟨k+1,by omega,by go_num,HStep.out (by exact he0),HF.out⟩
      case measure=>simp[intOf];omega
     subst he0;have HH:=h_ (HHit.out rfl);clear HHit HStep;go_wp2;go_ret;exact⟨by rw[HH.out]<;>rfl,HF0.out.trans HF.out⟩
    ·obtain rfl:k=x.fees.length:=by omega
     have HE:=h_ (by have:=HT.out;rw[List.take_length] at this;exact empty_end HE0.out this);go_wp2;go_ret;exact⟨by rw[HE.out]<;>rfl,HF0.out.trans HF.out⟩
theorem rTagged_any{w:World}{v:Sl}{G:Nat→Prop}(l:List ByteArray)(hv:SlIn w G 1 v l.length (l.map Value.string))(hn:l.length≤1000000)(t:ByteArray):
  Calls Tryz.prog 78 #[.slice v.1 l.length v.2,.string t] w λe w'=>e=.returned (.bool (l.any λy=>decide (y=t)))∧Frm Nix w w':=by
 obtain⟨A,c⟩:=v;dsimp only;rw[str_flat] at hv;have HV:=h_ hv;clear hv;go_enter Tryz.func78,Tryz.ntmps78;go_wp2
 go_loopw [5] (λkv wr=>∃k:Nat,k≤l.length∧kv=.int .i64 k∧(l.take k).any (λy=>decide (y=t))=false∧Frm Nix w wr) (λkv _=>l.length - (intOf kv).toNat)
 case atStart=>exact⟨0,by omega,rfl,by simp,Frm.refl _ _⟩
 case round=>
  obtain⟨k,hk,rfl,ht,hf⟩:=hrel;have HT:=h_ ht;have HF:=h_ hf;clear ht hf
  by_cases hlt:k<l.length
  ·obtain⟨b,off,hA,-,hbl,hcell⟩:=(HV.out.nix HF.out).at_ (f:=λi=>[Value.string i]) (λ_=>rfl) (by decide) (by omega)
   dsimp only at hA;subst hA;have x0:=hcell k hlt 0 _ rfl;rw[Nat.mul_one,Nat.add_zero] at x0;have HHit:=h_ (λhe=>fst_any (p:=λy=>decide (y=t)) hlt (decide_eq_true he));have HStep:=h_ (λhe=>fst_step (p:=λy=>decide (y=t)) hlt HT.out (decide_eq_false he));clear hcell;generalize l[k]=q at *
   by_cases he:q=t
   case neg=>
    obtain⟨hq1,hq2⟩:=str_ne he;go_wp2;go_roundw
    case rel=>exact⟨k+1,by omega,by go_num,HStep.out he,HF.out⟩
    case measure=>simp[intOf];omega
   subst he;have HH:=h_ (HHit.out rfl);clear HHit HStep;go_wp2;go_ret;exact⟨by rw[HH.out]<;>rfl,HF.out⟩
  ·obtain rfl:k=l.length:=by omega
   have HE:Hid (l.any (λy=>decide (y=t))=false):=by have:=HT.out;rw[List.take_length] at this;exact this
   go_wp2;go_ret;exact⟨by rw[HE.out]<;>rfl,HF.out⟩
theorem rtop_any(a b:Int)(w:World):Calls Tryz.prog 80 #[.int .i64 a,.int .i64 b] w λe w'=>e=.returned (.int .i64 (max a b))∧w=w':=by
 by_cases h:b<a
 ·rw[show max a b=a by omega]
  go_enter Tryz.func80,Tryz.ntmps80;go_wp2;go_ret;exact⟨rfl,rfl⟩
 ·rw[show max a b=b by omega]
  go_enter Tryz.func80,Tryz.ntmps80;go_wp2;go_ret;exact⟨rfl,rfl⟩
end Go.Proofs.YtaecjmiobllhmaaGreat
