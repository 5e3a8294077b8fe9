/- Words. -/
import Derived.Test.YtaecjmiobllhmaaGreatGp65
import Derived.Test.YtaecjmiobllhmaaGreatGp15
import Derived.Test.YtaecjmiobllhmaaGreatGp67
import Derived.Test.YtaecjmiobllhmaaGreatGp66
import Derived.Test.YtaecjmiobllhmaaGreatGp64
import Derived.Test.YtaecjmiobllhmaaGreatGp13
import Derived.Test.YtaecjmiobllhmaaGreatGp30
set_option linter.unusedVariables false
set_option linter.unusedSimpArgs false
set_option maxRecDepth 100000
set_option maxHeartbeats 16000000
namespace Go.Proofs.YtaecjmiobllhmaaGreat
open Go.RowKit Go.Lib
section
section
variable {α:Type} {g:α→Int} {id:Int}
theorem updI_set(f:α→α):∀(l:List α) (h:posI g id l<l.length),updI g id f l=l.set (posI g id l) (f l[posI g id l])
 | [],h=>by simp at h
 | a::l,h=>by
   by_cases ha:g a=id
   ·have e:posI g id (a::l)=0:=by simp[posI,List.findIdx_cons,ha]
    simp only[e,updI,if_pos ha];rfl
   ·have e:posI g id (a::l)=posI g id l+1:=by simp[posI,List.findIdx_cons,ha]
    have h':posI g id l<l.length:=by
     rw[e] at h
     simpa using h
    simp only[e,updI,if_neg ha];rw[List.set_cons_succ,updI_set f l h'];rfl
theorem flat_set1{f:α→List Value}{s:Nat}(hs:∀a,(f a).length=s)(l:List α)(i:Nat)(hi:i<l.length)(y:α)(j:Nat)(hj:j<s)(u:Value)(hy:f y=(f l[i]).set j u):(l.flatMap f).set (i * s+j) u=(l.set i y).flatMap f:=by
 refine List.ext_getElem? λm=>?_
 have hlen:=flat_len hs l
 have his:i * s+s≤l.length * s:=by
  have h1:(i+1) * s≤l.length * s:=Nat.mul_le_mul_right _ hi
  rwa [Nat.succ_mul] at h1
 rw[flat_set hs y l i hi m,List.getElem?_set]
 by_cases hm:i * s+j=m
 ·subst hm
  rw[if_pos rfl,if_pos (by omega),if_pos (by omega),hy,show i * s+j - i * s=j by omega,List.getElem?_set,if_pos rfl,if_pos (by rw[hs];exact hj)]
 ·rw[if_neg hm]
  by_cases hc:i * s≤m∧m<i * s+s
  ·rw[if_pos hc,hy,List.getElem?_set,if_neg (by omega)]
   have:=flat_at hs l i hi (m - i * s) (by omega);rw[show i * s+(m - i * s)=m by omega] at this;exact this
  ·rw[if_neg hc]
end
theorem copy_run{P:Program}{t e:TypeId}{s bytes:Nat}(E:ElemK P t e s bytes){w1:World}{G:Nat→Prop}{A:Option Addr}{c n:Nat}{xs:List Value}
  (hr:Rd w1 G s A n xs) (h1:∀u∈xs,u.oneCell'=true) (hn:n≤100000) (hby:bytes≤1000):
  ∃rA rc wa,(∀ty,(Builtin.append_ #[t,t] ty #[.slice (some ⟨w1.heap.size,0,none⟩) 0 0,.slice A n c]).run P (w1.alloc (.cells #[] e))=.ok (.slice rA n rc) wa)∧RowK e s w1 wa (.slice rA n rc) n xs:=by
 have hb1:(0+n) * bytes≤140737488355328:=by
  have:=Nat.mul_le_mul (show 0+n≤100000 by omega) hby;omega
 have r0:=RowK.empty (w0:=w1) e s (fR w1);obtain⟨v1,wa,q1,r1,-,-⟩:=r0.app E c (hr.frm r0.frm λ_ _=>id) h1 (by unfold maxLen;omega) hb1;rw[Nat.zero_add,List.nil_append] at r1;obtain⟨rA,rc,rfl,-⟩:=r1.shape;exact⟨rA,rc,wa,q1,r1⟩
section
variable {w:World} {G:Nat→Prop} {v fo fe it se:Sl} {ts:List (Sl×Itm)} {x:St} {s n:Nat} {xs:List Value}
theorem Rd.old{A:Option Addr}(h:Rd w G s A n xs):Rd w (λk=>G k∧k<w.heap.size) s A n xs:=
 ⟨h.1,λhn=>by
  obtain⟨a,e,h1,h2,h3⟩:=h.2 hn;exact⟨a,e,⟨h1,h2⟩,h2,h3⟩⟩
theorem SlIn.old(h:SlIn w G s v n xs):SlIn w (λk=>G k∧k<w.heap.size) s v n xs:=⟨h.rd.old,h.nil,h.cap,h.max⟩
theorem StIn.old(h:StIn w G fo fe it se ts x):StIn w (λk=>G k∧k<w.heap.size) fo fe it se ts x:=⟨h.fols.old,h.fees.old,⟨h.itms.row.old,λp hp=>(h.itms.tags p hp).old⟩,h.same,h.seas.old⟩
end
end
def ApOut(w:World)(G:Nat→Prop)(y:St)(b:Bool)(r:Ending)(w':World):Prop:=∃(fo fe it se:Sl) (ts:List (Sl×Itm)),r=.returned (.tuple #[stV fo fe it se y,.bool b])∧StIn w' (λk=>G k∨w.heap.size≤k) fo fe it se ts y∧Frm Nix w w'
def DoOut(w:World)(G:Nat→Prop)(y:St)(r:Ending)(w':World):Prop:=∃(fo fe it se:Sl) (ts:List (Sl×Itm)),r=.returned (stV fo fe it se y)∧StIn w' (λk=>G k∨w.heap.size≤k) fo fe it se ts y∧Frm Nix w w'
theorem rmade_any{w:World}{fo fe it se:Sl}{ts:List (Sl×Itm)}{x:St}{G:Nat→Prop}(hS:StIn w G fo fe it se ts x)(hsm:StSmall x)(k a b n:Int)(s t u:ByteArray)(hk:k=1∨k=3∨k=7∨k=11):
  Calls Tryz.prog 31 #[stV fo fe it se x,evV ⟨k,a,b,n,s,t,u⟩] w (DoOut w G (doS x ⟨k,a,b,n,s,t,u⟩)):=by
 rcases hk with rfl | rfl | rfl | rfl
 ·rw[do1 rfl]
  exact(rmade1_any hS hsm).mono λr w' ⟨v,h⟩=>⟨v,_,_,_,_,h⟩
 ·rw[do3 rfl]
  exact(rmade3_any hS hsm).mono λr w' ⟨v,h⟩=>⟨_,v,_,_,_,h⟩
 ·rw[do7 rfl]
  exact(rmade7_any hS hsm).mono λr w' ⟨v,ts',h⟩=>⟨_,_,v,_,ts',h⟩
 ·rw[do11 rfl]
  exact(rmade11_any hS hsm).mono λr w' ⟨v,h⟩=>⟨_,_,_,v,_,h⟩
theorem rgone_any{w:World}{fo fe it se:Sl}{ts:List (Sl×Itm)}{x:St}{G:Nat→Prop}(hS:StIn w G fo fe it se ts x)(hsm:StSmall x)(k a b n:Int)(s t u:ByteArray)(hk:k=2∨k=4∨k=12)(hf:fits x ⟨k,a,b,n,s,t,u⟩=true):
  Calls Tryz.prog 32 #[stV fo fe it se x,evV ⟨k,a,b,n,s,t,u⟩] w (DoOut w G (doS x ⟨k,a,b,n,s,t,u⟩)):=by
 rcases hk with rfl | rfl | rfl
 ·rw[do2 rfl]
  exact(rgone2_any hS hsm (by unfold fits at hf;simp at hf;exact hf.2.1)).mono λr w' ⟨v,h⟩=>⟨v,_,_,_,_,h⟩
 ·rw[do4 rfl]
  exact(rgone4_any hS hsm (by unfold fits at hf;simp at hf;exact hf.2)).mono λr w' ⟨v,v',ts',h⟩=>⟨_,v,v',_,ts',h⟩
 ·rw[do12 rfl]
  exact(rgone12_any hS hsm (by unfold fits at hf;simp at hf;exact hf.2)).mono λr w' ⟨v,h⟩=>⟨_,_,_,v,_,h⟩
theorem rapply_ret{W:World}{g:Nat}{tmps:Array Value}{a0 a1 a2 a3 a4 a5 a6 a7 a8 b:Value}(hb:Blk W g 36 #[a0,a1,a2,a3,a4,a5,a6,a7,a8])(h2:tmps.getD 4 undef=.pointer (some ⟨g,0,none⟩))(h3:tmps.getD 5 undef=b):
  (results Tryz.f14 tmps).run Tryz.prog W=.ok (.tuple #[.agg #[a0,a1,a2,a3,a4,a5,a6,a7,a8],b]) W:=by
 obtain⟨c0,c1,c2,c3,c4,c5,c6,c7,c8⟩:=blk9 hb;have h2':tmps[4]?.getD undef=.pointer (some ⟨g,0,none⟩):=by simpa using h2
 have h3':tmps[5]?.getD undef=b:=by simpa using h3
 simp[results,Tryz.results14,h2',h3',go_sem,c0,c1,c2,c3,c4,c5,c6,c7,c8]
theorem rapply_no{w:World}{fo fe it se:Sl}{ts:List (Sl×Itm)}{x:St}{G:Nat→Prop}(hS:StIn w G fo fe it se ts x)(hsm:StSmall x){k a b n:Int}{s t u:ByteArray}(hfit:fits x ⟨k,a,b,n,s,t,u⟩=false):
  Calls Tryz.prog 14 #[stV fo fe it se x,evV ⟨k,a,b,n,s,t,u⟩] w (ApOut w G x false):=by
 obtain⟨w0,hw0,hf0,hb1,hb2,hb3⟩:=box_ser w fo fe it se x k a b n s t u;have HS0:=h_ hS;have HS:=h_ (hS.nix hf0);have HSm:=h_ hsm;have HB1:=h_ hb1;have HB2:=h_ hb2;have HB3:=h_ hb3;have HF0:=h_ hf0;have HW:=h_ hw0;have HFt:=h_ hfit
 have KFi:Hid (Calls Tryz.prog 30 #[stV fo fe it se x,.agg #[.int .i64 k,.int .i64 a,.int .i64 b,.int .i64 n,.string s,.string t,.string u]] w0 λe w'=>e=.returned (.bool false)∧Frm Nix w0 w'):=by
  have:=rFits_any (hS.nix hf0) hsm ⟨k,a,b,n,s,t,u⟩;rw[hfit] at this;exact this
 clear hS hsm hf0 hb1 hb2 hb3 hw0 hfit;unfold stV evV;dsimp only;go_enter Tryz.func14,Tryz.ntmps14;show Code.wp Tryz.prog (peel 0 (bodyOf Tryz.f14)) _ _ _
 refine peelK (k':=1) λK hK=>?_
 conv in hdC _=>whnf
 go_wp2;rw[←HW.out];obtain⟨e0,e1,e2,e3,e4,e5,e6⟩:=blk7 HB2.out;obtain⟨x0,x1,x2,x3,x4,x5,x6,x7,x8⟩:=blk9 HB1.out;simp only[peel,bodyOf,Tryz.f14];go_wp2_with (go_at_call 30;refine KFi.out.mono ?_;rintro e w1 ⟨rfl,hf⟩;have Z1:=h_ hf;clear hf;clear x0 x1 x2 x3 x4 x5 x6 x7 x8;obtain⟨x0,x1,x2,x3,x4,x5,x6,x7,x8⟩:=blk9 (HB1.out.frm Z1.out id);have hb4:Blk w1 (w.heap.size+1+1) 36 #[.int .i64 0,.slice none 0 0,.slice none 0 0,.slice none 0 0,.slice none 0 0,.int .i64 0,.int .i64 0,.int .i64 0,.int .i64 0]:=HB3.out.frm Z1.out id;obtain⟨y0,y1,y2,y3,y4,y5,y6,y7,y8⟩:=blk9 hb4;have g0:=hb4.frozen 0;have g1:=hb4.frozen 1;have g2:=hb4.frozen 2;have g3:=hb4.frozen 3;have g4:=hb4.frozen 4;have g5:=hb4.frozen 5;have g6:=hb4.frozen 6;have g7:=hb4.frozen 7;have g8:=hb4.frozen 8);have hb4:Blk w1 (w.heap.size+1+1) 36 #[.int .i64 0,.slice none 0 0,.slice none 0 0,.slice none 0 0,.slice none 0 0,.int .i64 0,.int .i64 0,.int .i64 0,.int .i64 0]:=HB3.out.frm Z1.out id;obtain⟨we,hwe⟩:∃we,we=w1.setCells (w.heap.size+1+1) 0 [.int .i64 x.clock,.slice fo.1 x.fols.length fo.2,.slice fe.1 x.fees.length fe.2,.slice it.1 x.itms.length it.2,.slice se.1 x.seas.length se.2,.int .i64 x.tFol,.int .i64 x.tFee,.int .i64 x.tItm,.int .i64 x.tSea]:=⟨_,rfl⟩
 have hbe:Blk we (w.heap.size+1+1) 36 #[.int .i64 x.clock,.slice fo.1 x.fols.length fo.2,.slice fe.1 x.fees.length fe.2,.slice it.1 x.itms.length it.2,.slice se.1 x.seas.length se.2,.int .i64 x.tFol,.int .i64 x.tFee,.int .i64 x.tItm,.int .i64 x.tSea]:=by
  have:=Blk.putL [.int .i64 x.clock,.slice fo.1 x.fols.length fo.2,.slice fe.1 x.fees.length fe.2,.slice it.1 x.itms.length it.2,.slice se.1 x.seas.length se.2,.int .i64 x.tFol,.int .i64 x.tFee,.int .i64 x.tItm,.int .i64 x.tSea] 0 hb4;rw[putL9] at this;rw[hwe];exact this
 have fe_:Frm (λk=>k=w.heap.size+1+1) w1 we:=by rw[hwe];exact Frm.setCells _ 0 (Frm.refl _ _) (.inl rfl)
 have HFin:Hid (Frm Nix w we):=(HF0.out.trans Z1.out).next fe_ (λk hk=>.inr (by omega))
 have HBe:=h_ hbe;simp only[World.setCells] at hwe;rw[←hwe];refine bodyPost_ret (rapply_ret HBe.out rfl rfl) rfl ?_;exact⟨_,_,_,_,_,rfl,(HS0.out.nix HFin.out).mono λk hk=>.inl hk,HFin.out⟩
theorem rapply_made{w:World}{fo fe it se:Sl}{ts:List (Sl×Itm)}{x:St}{G:Nat→Prop}(hS:StIn w G fo fe it se ts x)(hsm:StSmall x){k a b n:Int}{s t u:ByteArray}(hk:k=1∨k=3∨k=7∨k=11)(hfit:fits x ⟨k,a,b,n,s,t,u⟩=true):
  Calls Tryz.prog 14 #[stV fo fe it se x,evV ⟨k,a,b,n,s,t,u⟩] w (ApOut w G (doS x ⟨k,a,b,n,s,t,u⟩) true):=by
 obtain⟨w0,hw0,hf0,hb1,hb2,hb3⟩:=box_ser w fo fe it se x k a b n s t u;have KM:Hid (∀W,Frm Nix w0 W→Calls Tryz.prog 31 #[stV fo fe it se x,.agg #[.int .i64 k,.int .i64 a,.int .i64 b,.int .i64 n,.string s,.string t,.string u]] W (DoOut W (λk=>G k∧k<w.heap.size) (doS x ⟨k,a,b,n,s,t,u⟩))):=λW hW=>rmade_any (hS.old.nix (hf0.trans hW)) hsm k a b n s t u hk
 have HS0:=h_ hS;have HS:=h_ (hS.nix hf0);have HSm:=h_ hsm;have HB1:=h_ hb1;have HB2:=h_ hb2;have HB3:=h_ hb3;have HF0:=h_ hf0;have HW:=h_ hw0;have HFt:=h_ hfit
 have KFi:Hid (Calls Tryz.prog 30 #[stV fo fe it se x,.agg #[.int .i64 k,.int .i64 a,.int .i64 b,.int .i64 n,.string s,.string t,.string u]] w0 λe w'=>e=.returned (.bool true)∧Frm Nix w0 w'):=by
  have:=rFits_any (hS.nix hf0) hsm ⟨k,a,b,n,s,t,u⟩;rw[hfit] at this;exact this
 clear hS hsm hf0 hb1 hb2 hb3 hw0 hfit;unfold stV evV;dsimp only;obtain⟨y,hy⟩:∃y,doS x ⟨k,a,b,n,s,t,u⟩=y:=⟨_,rfl⟩;rw[hy] at KM ⊢;clear hy;go_enter Tryz.func14,Tryz.ntmps14;show Code.wp Tryz.prog (peel 0 (bodyOf Tryz.f14)) _ _ _
 refine peelK (k':=1) λK hK=>?_
 conv in hdC _=>whnf
 go_wp2;rw[←HW.out];obtain⟨e0,e1,e2,e3,e4,e5,e6⟩:=blk7 HB2.out;obtain⟨x0,x1,x2,x3,x4,x5,x6,x7,x8⟩:=blk9 HB1.out;refine peelK (k':=2) λK hK=>?_
 conv in hdC _=>whnf
 go_wp2_with (go_at_call 30;refine KFi.out.mono ?_;rintro e w1 ⟨rfl,hf⟩;have Z1:=h_ hf;clear hf);clear x0 x1 x2 x3 x4 x5 x6 x7 x8 e0 e1 e2 e3 e4 e5 e6;obtain⟨e0,e1,e2,e3,e4,e5,e6⟩:=blk7 (HB2.out.frm Z1.out id);obtain⟨x0,x1,x2,x3,x4,x5,x6,x7,x8⟩:=blk9 (HB1.out.frm Z1.out id);simp only[peel,bodyOf,Tryz.f14];rcases hk with rfl | rfl | rfl | rfl
 all_goals
  go_wp2_with (go_at_call 31;refine(KM.out _ Z1.out).mono ?_;rintro r w2 ⟨fo',fe',it',se',ts',rfl,hs,hf⟩;have HY:=h_ hs;have Z2:=h_ hf;clear hs hf;have hb4:Blk w2 (w.heap.size+1+1) 36 #[.int .i64 0,.slice none 0 0,.slice none 0 0,.slice none 0 0,.slice none 0 0,.int .i64 0,.int .i64 0,.int .i64 0,.int .i64 0]:=HB3.out.frm (Z1.out.trans Z2.out) id;obtain⟨y0,y1,y2,y3,y4,y5,y6,y7,y8⟩:=blk9 hb4;have g0:=hb4.frozen 0;have g1:=hb4.frozen 1;have g2:=hb4.frozen 2;have g3:=hb4.frozen 3;have g4:=hb4.frozen 4;have g5:=hb4.frozen 5;have g6:=hb4.frozen 6;have g7:=hb4.frozen 7;have g8:=hb4.frozen 8;unfold stV);have hb4:Blk w2 (w.heap.size+1+1) 36 #[.int .i64 0,.slice none 0 0,.slice none 0 0,.slice none 0 0,.slice none 0 0,.int .i64 0,.int .i64 0,.int .i64 0,.int .i64 0]:=HB3.out.frm (Z1.out.trans Z2.out) id;obtain⟨we,hwe⟩:∃we,we=w2.setCells (w.heap.size+1+1) 0 [.int .i64 y.clock,.slice fo'.1 y.fols.length fo'.2,.slice fe'.1 y.fees.length fe'.2,.slice it'.1 y.itms.length it'.2,.slice se'.1 y.seas.length se'.2,.int .i64 y.tFol,.int .i64 y.tFee,.int .i64 y.tItm,.int .i64 y.tSea]:=⟨_,rfl⟩
  have hbe:Blk we (w.heap.size+1+1) 36 #[.int .i64 y.clock,.slice fo'.1 y.fols.length fo'.2,.slice fe'.1 y.fees.length fe'.2,.slice it'.1 y.itms.length it'.2,.slice se'.1 y.seas.length se'.2,.int .i64 y.tFol,.int .i64 y.tFee,.int .i64 y.tItm,.int .i64 y.tSea]:=by
   have:=Blk.putL [.int .i64 y.clock,.slice fo'.1 y.fols.length fo'.2,.slice fe'.1 y.fees.length fe'.2,.slice it'.1 y.itms.length it'.2,.slice se'.1 y.seas.length se'.2,.int .i64 y.tFol,.int .i64 y.tFee,.int .i64 y.tItm,.int .i64 y.tSea] 0 hb4;rw[putL9] at this;rw[hwe];exact this
  have fe_:Frm (λk=>k=w.heap.size+1+1) w2 we:=by rw[hwe];exact Frm.setCells _ 0 (Frm.refl _ _) (.inl rfl)
  have HFin:Hid (Frm Nix w we):=((HF0.out.trans Z1.out).trans Z2.out).next fe_ (λk hk=>.inr (by omega))
  have HBe:=h_ hbe
  have HYe:Hid (StIn we (λk=>G k∨w.heap.size≤k) fo' fe' it' se' ts' y):=by
   have h1:=(HF0.out.trans Z1.out).size;have h2:=HB3.out.frm Z1.out id |>.lt
   refine(HY.out.frm fe_ ?_).mono ?_
   ·exact λk hk e=>by rcases hk with ⟨-,hk⟩ | hk<;>omega
   ·exact λk hk=>hk.elim (λh=>.inl h.1) λh=>.inr (by omega)
  simp only[World.setCells] at hwe;rw[←hwe];refine bodyPost_ret (rapply_ret HBe.out rfl rfl) rfl ?_;exact⟨_,_,_,_,_,rfl,HYe.out,HFin.out⟩
theorem rapply_gone{w:World}{fo fe it se:Sl}{ts:List (Sl×Itm)}{x:St}{G:Nat→Prop}(hS:StIn w G fo fe it se ts x)(hsm:StSmall x){k a b n:Int}{s t u:ByteArray}(hk:k=2∨k=4∨k=12)(hfit:fits x ⟨k,a,b,n,s,t,u⟩=true):
  Calls Tryz.prog 14 #[stV fo fe it se x,evV ⟨k,a,b,n,s,t,u⟩] w (ApOut w G (doS x ⟨k,a,b,n,s,t,u⟩) true):=by
 obtain⟨w0,hw0,hf0,hb1,hb2,hb3⟩:=box_ser w fo fe it se x k a b n s t u;have KM:Hid (∀W,Frm Nix w0 W→Calls Tryz.prog 32 #[stV fo fe it se x,.agg #[.int .i64 k,.int .i64 a,.int .i64 b,.int .i64 n,.string s,.string t,.string u]] W (DoOut W (λk=>G k∧k<w.heap.size) (doS x ⟨k,a,b,n,s,t,u⟩))):=λW hW=>rgone_any (hS.old.nix (hf0.trans hW)) hsm k a b n s t u hk hfit
 have HS0:=h_ hS;have HS:=h_ (hS.nix hf0);have HSm:=h_ hsm;have HB1:=h_ hb1;have HB2:=h_ hb2;have HB3:=h_ hb3;have HF0:=h_ hf0;have HW:=h_ hw0;have HFt:=h_ hfit
 have KFi:Hid (Calls Tryz.prog 30 #[stV fo fe it se x,.agg #[.int .i64 k,.int .i64 a,.int .i64 b,.int .i64 n,.string s,.string t,.string u]] w0 λe w'=>e=.returned (.bool true)∧Frm Nix w0 w'):=by
  have:=rFits_any (hS.nix hf0) hsm ⟨k,a,b,n,s,t,u⟩;rw[hfit] at this;exact this
 clear hS hsm hf0 hb1 hb2 hb3 hw0 hfit;unfold stV evV;dsimp only;obtain⟨y,hy⟩:∃y,doS x ⟨k,a,b,n,s,t,u⟩=y:=⟨_,rfl⟩;rw[hy] at KM ⊢;clear hy;go_enter Tryz.func14,Tryz.ntmps14;show Code.wp Tryz.prog (peel 0 (bodyOf Tryz.f14)) _ _ _
 refine peelK (k':=1) λK hK=>?_
 conv in hdC _=>whnf
 go_wp2;rw[←HW.out];obtain⟨e0,e1,e2,e3,e4,e5,e6⟩:=blk7 HB2.out;obtain⟨x0,x1,x2,x3,x4,x5,x6,x7,x8⟩:=blk9 HB1.out;refine peelK (k':=2) λK hK=>?_
 conv in hdC _=>whnf
 go_wp2_with (go_at_call 30;refine KFi.out.mono ?_;rintro e w1 ⟨rfl,hf⟩;have Z1:=h_ hf;clear hf);clear x0 x1 x2 x3 x4 x5 x6 x7 x8 e0 e1 e2 e3 e4 e5 e6;obtain⟨e0,e1,e2,e3,e4,e5,e6⟩:=blk7 (HB2.out.frm Z1.out id);obtain⟨x0,x1,x2,x3,x4,x5,x6,x7,x8⟩:=blk9 (HB1.out.frm Z1.out id);simp only[peel,bodyOf,Tryz.f14];rcases hk with rfl | rfl | rfl
 all_goals
  go_wp2_with (go_at_call 32;refine(KM.out _ Z1.out).mono ?_;rintro r w2 ⟨fo',fe',it',se',ts',rfl,hs,hf⟩;have HY:=h_ hs;have Z2:=h_ hf;clear hs hf;have hb4:Blk w2 (w.heap.size+1+1) 36 #[.int .i64 0,.slice none 0 0,.slice none 0 0,.slice none 0 0,.slice none 0 0,.int .i64 0,.int .i64 0,.int .i64 0,.int .i64 0]:=HB3.out.frm (Z1.out.trans Z2.out) id;obtain⟨y0,y1,y2,y3,y4,y5,y6,y7,y8⟩:=blk9 hb4;have g0:=hb4.frozen 0;have g1:=hb4.frozen 1;have g2:=hb4.frozen 2;have g3:=hb4.frozen 3;have g4:=hb4.frozen 4;have g5:=hb4.frozen 5;have g6:=hb4.frozen 6;have g7:=hb4.frozen 7;have g8:=hb4.frozen 8;unfold stV);have hb4:Blk w2 (w.heap.size+1+1) 36 #[.int .i64 0,.slice none 0 0,.slice none 0 0,.slice none 0 0,.slice none 0 0,.int .i64 0,.int .i64 0,.int .i64 0,.int .i64 0]:=HB3.out.frm (Z1.out.trans Z2.out) id;obtain⟨we,hwe⟩:∃we,we=w2.setCells (w.heap.size+1+1) 0 [.int .i64 y.clock,.slice fo'.1 y.fols.length fo'.2,.slice fe'.1 y.fees.length fe'.2,.slice it'.1 y.itms.length it'.2,.slice se'.1 y.seas.length se'.2,.int .i64 y.tFol,.int .i64 y.tFee,.int .i64 y.tItm,.int .i64 y.tSea]:=⟨_,rfl⟩
  have hbe:Blk we (w.heap.size+1+1) 36 #[.int .i64 y.clock,.slice fo'.1 y.fols.length fo'.2,.slice fe'.1 y.fees.length fe'.2,.slice it'.1 y.itms.length it'.2,.slice se'.1 y.seas.length se'.2,.int .i64 y.tFol,.int .i64 y.tFee,.int .i64 y.tItm,.int .i64 y.tSea]:=by
   have:=Blk.putL [.int .i64 y.clock,.slice fo'.1 y.fols.length fo'.2,.slice fe'.1 y.fees.length fe'.2,.slice it'.1 y.itms.length it'.2,.slice se'.1 y.seas.length se'.2,.int .i64 y.tFol,.int .i64 y.tFee,.int .i64 y.tItm,.int .i64 y.tSea] 0 hb4;rw[putL9] at this;rw[hwe];exact this
  have fe_:Frm (λk=>k=w.heap.size+1+1) w2 we:=by rw[hwe];exact Frm.setCells _ 0 (Frm.refl _ _) (.inl rfl)
  have HFin:Hid (Frm Nix w we):=((HF0.out.trans Z1.out).trans Z2.out).next fe_ (λk hk=>.inr (by omega))
  have HBe:=h_ hbe
  have HYe:Hid (StIn we (λk=>G k∨w.heap.size≤k) fo' fe' it' se' ts' y):=by
   have h1:=(HF0.out.trans Z1.out).size;have h2:=HB3.out.frm Z1.out id |>.lt
   refine(HY.out.frm fe_ ?_).mono ?_
   ·exact λk hk e=>by rcases hk with ⟨-,hk⟩ | hk<;>omega
   ·exact λk hk=>hk.elim (λh=>.inl h.1) λh=>.inr (by omega)
  simp only[World.setCells] at hwe;rw[←hwe];refine bodyPost_ret (rapply_ret HBe.out rfl rfl) rfl ?_;exact⟨_,_,_,_,_,rfl,HYe.out,HFin.out⟩
theorem rapply13{w:World}{fo fe it se:Sl}{ts:List (Sl×Itm)}{x:St}{G:Nat→Prop}(hS:StIn w G fo fe it se ts x)(hsm:StSmall x){a b n:Int}{s t u:ByteArray}(hfit:fits x ⟨13,a,b,n,s,t,u⟩=true):
  Calls Tryz.prog 14 #[stV fo fe it se x,evV ⟨13,a,b,n,s,t,u⟩] w (ApOut w G (doS x ⟨13,a,b,n,s,t,u⟩) true):=by
 obtain⟨w0,hw0,hf0,hb1,hb2,hb3⟩:=box_ser w fo fe it se x 13 a b n s t u;have HS0:=h_ hS;have HS:=h_ (hS.nix hf0);have HSm:=h_ hsm;have HB1:=h_ hb1;have HB2:=h_ hb2;have HB3:=h_ hb3;have HF0:=h_ hf0;have HW:=h_ hw0;have HFt:=h_ hfit
 have KFi:Hid (Calls Tryz.prog 30 #[stV fo fe it se x,.agg #[.int .i64 13,.int .i64 a,.int .i64 b,.int .i64 n,.string s,.string t,.string u]] w0 λe w'=>e=.returned (.bool true)∧Frm Nix w0 w'):=by
  have:=rFits_any (hS.nix hf0) hsm ⟨13,a,b,n,s,t,u⟩;rw[hfit] at this;exact this
 clear hS hsm hf0 hb1 hb2 hb3 hw0 hfit;unfold stV evV;dsimp only;go_enter Tryz.func14,Tryz.ntmps14;show Code.wp Tryz.prog (peel 0 (bodyOf Tryz.f14)) _ _ _
 refine peelK (k':=1) λK hK=>?_
 conv in hdC _=>whnf
 go_wp2;rw[←HW.out];obtain⟨e0,e1,e2,e3,e4,e5,e6⟩:=blk7 HB2.out;obtain⟨x0,x1,x2,x3,x4,x5,x6,x7,x8⟩:=blk9 HB1.out;refine peelK (k':=2) λK hK=>?_
 conv in hdC _=>whnf
 go_wp2_with (go_at_call 30;refine KFi.out.mono ?_;rintro e w1 ⟨rfl,hf⟩;have Z1:=h_ hf;clear hf);clear x0 x1 x2 x3 x4 x5 x6 x7 x8 e0 e1 e2 e3 e4 e5 e6;obtain⟨e0,e1,e2,e3,e4,e5,e6⟩:=blk7 (HB2.out.frm Z1.out id);obtain⟨x0,x1,x2,x3,x4,x5,x6,x7,x8⟩:=blk9 (HB1.out.frm Z1.out id);simp only[peel,bodyOf,Tryz.f14];have gz:=(HB1.out.frm Z1.out id).frozen 0;obtain⟨wd,hwd⟩:∃wd,wd=w1.setCell ⟨w.heap.size,0,none⟩ (.int .i64 n):=⟨_,rfl⟩;have hbd:Blk wd w.heap.size 36 #[.int .i64 n,.slice fo.1 x.fols.length fo.2,.slice fe.1 x.fees.length fe.2,.slice it.1 x.itms.length it.2,.slice se.1 x.seas.length se.2,.int .i64 x.tFol,.int .i64 x.tFee,.int .i64 x.tItm,.int .i64 x.tSea]:=by rw[hwd];exact((HB1.out.frm Z1.out id).set_ 0 _)
 have fd:Frm (λk=>k=w.heap.size) w1 wd:=by rw[hwd];exact(Frm.refl (λk=>k=w.heap.size) w1).setCell (.inl rfl) _
 obtain⟨z0,z1,z2,z3,z4,z5,z6,z7,z8⟩:=blk9 hbd;have hb4:Blk wd (w.heap.size+1+1) 36 #[.int .i64 0,.slice none 0 0,.slice none 0 0,.slice none 0 0,.slice none 0 0,.int .i64 0,.int .i64 0,.int .i64 0,.int .i64 0]:=(HB3.out.frm Z1.out id).frm fd (by simp);obtain⟨y0,y1,y2,y3,y4,y5,y6,y7,y8⟩:=blk9 hb4;have g0:=hb4.frozen 0;have g1:=hb4.frozen 1;have g2:=hb4.frozen 2;have g3:=hb4.frozen 3;have g4:=hb4.frozen 4;have g5:=hb4.frozen 5;have g6:=hb4.frozen 6;have g7:=hb4.frozen 7;have g8:=hb4.frozen 8;rw[hwd] at z0 z1 z2 z3 z4 z5 z6 z7 z8 y0 y1 y2 y3 y4 y5 y6 y7 y8 g0 g1 g2 g3 g4 g5 g6 g7 g8;go_wp2;rw[←hwd];obtain⟨we,hwe⟩:∃we,we=wd.setCells (w.heap.size+1+1) 0 [.int .i64 n,.slice fo.1 x.fols.length fo.2,.slice fe.1 x.fees.length fe.2,.slice it.1 x.itms.length it.2,.slice se.1 x.seas.length se.2,.int .i64 x.tFol,.int .i64 x.tFee,.int .i64 x.tItm,.int .i64 x.tSea]:=⟨_,rfl⟩
 have hbe:Blk we (w.heap.size+1+1) 36 #[.int .i64 n,.slice fo.1 x.fols.length fo.2,.slice fe.1 x.fees.length fe.2,.slice it.1 x.itms.length it.2,.slice se.1 x.seas.length se.2,.int .i64 x.tFol,.int .i64 x.tFee,.int .i64 x.tItm,.int .i64 x.tSea]:=by
  have:=Blk.putL [.int .i64 n,.slice fo.1 x.fols.length fo.2,.slice fe.1 x.fees.length fe.2,.slice it.1 x.itms.length it.2,.slice se.1 x.seas.length se.2,.int .i64 x.tFol,.int .i64 x.tFee,.int .i64 x.tItm,.int .i64 x.tSea] 0 hb4;rw[putL9] at this;rw[hwe];exact this
 have fe_:Frm (λk=>k=w.heap.size+1+1) wd we:=by rw[hwe];exact Frm.setCells _ 0 (Frm.refl _ _) (.inl rfl)
 have HFin:Hid (Frm Nix w we):=((HF0.out.trans Z1.out).next fd (λk hk=>.inr (by omega))).next fe_ (λk hk=>.inr (by omega))
 have HBe:=h_ hbe;simp only[World.setCells] at hwe;rw[←hwe];refine bodyPost_ret (rapply_ret HBe.out rfl rfl) rfl ?_;exact⟨_,_,_,_,_,rfl,⟨(HS0.out.nix HFin.out).fols.mono λk hk=>.inl hk,(HS0.out.nix HFin.out).fees.mono λk hk=>.inl hk,(HS0.out.nix HFin.out).itms.mono λk hk=>.inl hk,HS0.out.same,(HS0.out.nix HFin.out).seas.mono λk hk=>.inl hk⟩,HFin.out⟩
theorem rapply5{w:World}{fo fe it se:Sl}{ts:List (Sl×Itm)}{x:St}{G:Nat→Prop}(hS:StIn w G fo fe it se ts x)(hsm:StSmall x){a b n:Int}{s t u:ByteArray}(hfit:fits x ⟨5,a,b,n,s,t,u⟩=true):
  Calls Tryz.prog 14 #[stV fo fe it se x,evV ⟨5,a,b,n,s,t,u⟩] w (ApOut w G (doS x ⟨5,a,b,n,s,t,u⟩) true):=by
 obtain⟨w0,hw0,hf0,hb1,hb2,hb3⟩:=box_ser w fo fe it se x 5 a b n s t u;have hcap:=hsm.fees
 have hi:isI Fee.id a x.fees=true:=by
  unfold fits at hfit;simp at hfit;exact hfit.2
 obtain⟨p,hpl,hp,-,-,hpi⟩:=posR_at hi;have HS0:=h_ hS;have HS:=h_ (hS.nix hf0);have HSm:=h_ hsm;have HB1:=h_ hb1;have HB2:=h_ hb2;have HB3:=h_ hb3;have HF0:=h_ hf0;have HW:=h_ hw0;have HFt:=h_ hfit
 have KFi:Hid (Calls Tryz.prog 30 #[stV fo fe it se x,.agg #[.int .i64 5,.int .i64 a,.int .i64 b,.int .i64 n,.string s,.string t,.string u]] w0 λe w'=>e=.returned (.bool true)∧Frm Nix w0 w'):=by
  have:=rFits_any (hS.nix hf0) hsm ⟨5,a,b,n,s,t,u⟩;rw[hfit] at this;exact this
 clear hS hsm hf0 hb1 hb2 hb3 hw0 hfit;unfold stV evV;dsimp only;rw[do5 rfl];dsimp only;obtain⟨A,c⟩:=fe;dsimp only at HS HS0 HB1 HW KFi ⊢;go_enter Tryz.func14,Tryz.ntmps14;show Code.wp Tryz.prog (peel 0 (bodyOf Tryz.f14)) _ _ _
 refine peelK (k':=1) λK hK=>?_
 conv in hdC _=>whnf
 go_wp2;rw[←HW.out];obtain⟨e0,e1,e2,e3,e4,e5,e6⟩:=blk7 HB2.out;obtain⟨x0,x1,x2,x3,x4,x5,x6,x7,x8⟩:=blk9 HB1.out;refine peelK (k':=2) λK hK=>?_
 conv in hdC _=>whnf
 go_wp2_with (go_at_call 30;refine KFi.out.mono ?_;rintro e w1 ⟨rfl,hf⟩;have Z1:=h_ hf;clear hf);clear x0 x1 x2 x3 x4 x5 x6 x7 x8 e0 e1 e2 e3 e4 e5 e6;obtain⟨e0,e1,e2,e3,e4,e5,e6⟩:=blk7 (HB2.out.frm Z1.out id);obtain⟨x0,x1,x2,x3,x4,x5,x6,x7,x8⟩:=blk9 (HB1.out.frm Z1.out id);have hs1:=(HS.out.nix Z1.out).fees;obtain⟨rA,rc,wa,hrun0,hrow⟩:=copy_run elemFee (c:=c) hs1.rd (fee_one x.fees) (by exact hcap) (by omega);obtain⟨A2,c2,hsh,-,-,-,hblk⟩:=hrow.shape;injection hsh with hsA hsn hsc;subst hsA hsc;have hbs1:=HB1.out.frm Z1.out id;have hbs2:=HB2.out.frm Z1.out id;have hbs3:=HB3.out.frm Z1.out id;have h4l:=hbs3.lt;have fa:=hrow.frm;have hca:wa.cell? ⟨w.heap.size,2,none⟩=_:=((hbs1.frm fa id).cell 2).trans rfl;have hcf:=(hbs1.frm fa id).frozen 2;have hma:(w1.alloc (.cells #[] 64)).cell? ⟨w.heap.size,2,none⟩=some (.slice A x.fees.length c):=((hbs1.frm ((fR w1).alloc _) id).cell 2).trans rfl;have hnw:=World.new_ne w1 ⟨w.heap.size,2,none⟩ x2;skip;obtain⟨wd,hwd⟩:∃wd,wd=wa.setCell ⟨w.heap.size,2,none⟩ (.slice rA x.fees.length rc):=⟨_,rfl⟩;have fd:Frm (λk=>k=w.heap.size) wa wd:=by rw[hwd];exact(Frm.refl (λk=>k=w.heap.size) wa).setCell (.inl rfl) _
 have HFd:Hid (Frm Nix w wd):=((HF0.out.trans Z1.out).trans fa).next fd (λk hk=>.inr (by omega))
 have hob:∀k,(Value.slice rA x.fees.length rc).ownBlock=some k→w1.heap.size≤k:=λk hk=>by
  rcases rA with _ | ad
  ·simp[Value.ownBlock] at hk
  ·have:=(hblk ad rfl).2.2.1
   simp[Value.ownBlock] at hk;omega
 have HRw:Hid (RowK 64 4 w wd (.slice rA x.fees.length rc) x.fees.length (x.fees.flatMap Fee.cells)):=(hrow.since (HF0.out.trans Z1.out)).far fd (λk hk=>by omega) (λk hk e=>by have:=hob k hk;omega);have HBd:Hid (Blk wd w.heap.size 36 #[.int .i64 x.clock,.slice fo.1 x.fols.length fo.2,.slice rA x.fees.length rc,.slice it.1 x.itms.length it.2,.slice se.1 x.seas.length se.2,.int .i64 x.tFol,.int .i64 x.tFee,.int .i64 x.tItm,.int .i64 x.tSea]):=by unfold Hid;rw[hwd];exact((hbs1.frm fa id).set_ 2 _)
 have HBv:Hid (Blk wd (w.heap.size+1) 42 #[.int .i64 5,.int .i64 a,.int .i64 b,.int .i64 n,.string s,.string t,.string u]):=(hbs2.frm fa id).frm fd (by simp);have HB4:Hid (Blk wd (w.heap.size+1+1) 36 #[.int .i64 0,.slice none 0 0,.slice none 0 0,.slice none 0 0,.slice none 0 0,.int .i64 0,.int .i64 0,.int .i64 0,.int .i64 0]):=(hbs3.frm fa id).frm fd (by simp)
 have HSd:Hid (StIn wd (λk=>G k∨w.heap.size≤k) fo (rA,rc) it se ts x):=by
  have h0:=(HS0.out.nix HFd.out).mono (G':=λk=>G k∨w.heap.size≤k) λk hk=>.inl hk
  have h1:=hrow.sl.frm fd (λk hk e=>by omega);exact⟨h0.fols,h1.mono λk hk=>.inr (by omega),h0.itms,h0.same,h0.seas⟩
 obtain⟨old,hx0⟩:∃old,(x.fees.flatMap Fee.cells)[p * 4+3]? =some old:=⟨_,by rw[flat_at Fee.clen x.fees p hpl 3 (by decide)];rfl⟩
 have KF:Hid (Calls Tryz.prog 33 #[.agg #[.int .i64 x.clock,.slice fo.1 x.fols.length fo.2,.slice rA x.fees.length rc,.slice it.1 x.itms.length it.2,.slice se.1 x.seas.length se.2,.int .i64 x.tFol,.int .i64 x.tFee,.int .i64 x.tItm,.int .i64 x.tSea],.int .i64 a] wd λe w'=>e=.returned (.int .i64 p)∧Frm Nix wd w'):=by
  have:=rFeed_any HSd.out HSm.out a;rw[hp] at this;exact this
 obtain⟨z0,z1,z2,z3,z4,z5,z6,z7,z8⟩:=blk9 HBd.out;obtain⟨d0,d1,d2,d3,d4,d5,d6⟩:=blk7 HBv.out;have HWd:=h_ hwd;rw[hwd] at z0 z1 z2 z3 z4 z5 z6 z7 z8 d0 d1 d2 d3 d4 d5 d6;have HOb:=h_ hob;have HB3l:=h_ h4l;clear hs1 hrow hblk hbs1 hbs2 hbs3 h4l fa fd hob;simp only[peel,bodyOf,Tryz.f14]
 go_wp2_with (first
  | (at_builtin;refine wpList_append_run hrun0 rfl _ _ rfl rfl rfl ?_)
  | (go_at_call 33
     rw[←HWd.out];refine KF.out.mono ?_;rintro r w2 ⟨rfl,hf⟩;have Z2:=h_ hf;have HR2:Hid (RowK 64 4 w w2 (.slice rA x.fees.length rc) x.fees.length (x.fees.flatMap Fee.cells)):=HRw.out.more hf;obtain⟨z0,z1,z2,z3,z4,z5,z6,z7,z8⟩:=blk9 (HBd.out.frm hf id);obtain⟨d0,d1,d2,d3,d4,d5,d6⟩:=blk7 (HBv.out.frm hf id);obtain⟨y0,y1,y2,y3,y4,y5,y6,y7,y8⟩:=blk9 (HB4.out.frm hf id);have g0:=(HB4.out.frm hf id).frozen 0;have g1:=(HB4.out.frm hf id).frozen 1;have g2:=(HB4.out.frm hf id).frozen 2;have g3:=(HB4.out.frm hf id).frozen 3;have g4:=(HB4.out.frm hf id).frozen 4;have g5:=(HB4.out.frm hf id).frozen 5;have g6:=(HB4.out.frm hf id).frozen 6;have g7:=(HB4.out.frm hf id).frozen 7;have g8:=(HB4.out.frm hf id).frozen 8;obtain⟨g,hgA,hgc,hgf,hset,hgl,hgl2⟩:=HR2.out.set_ (p * 4+3) (by omega) (.string t);rw[hx0] at hgc;have hgo:w.heap.size+1+1<g:=by have h1:=HOb.out g (by rw[hgA];rfl);have h2:=HB3l.out;omega
     have hg0:¬g=w.heap.size:=by omega
     have hg1:¬g=w.heap.size+1:=by omega
     have hg2:¬g=w.heap.size+1+1:=by omega
     have hg0':¬w.heap.size=g:=by omega
     have hg1':¬w.heap.size+1=g:=by omega
     have hg2':¬w.heap.size+1+1=g:=by omega
     have HSet:=h_ hset;obtain⟨s0,s1,s2,s3,s4,s5,s6,s7,s8⟩:=blk9 ((HBd.out.frm hf id).far (p:=⟨g,p * 4+3,none⟩) hg0' (.string t));have hb4f:=(HB4.out.frm hf id).far (p:=⟨g,p * 4+3,none⟩) hg2' (.string t);obtain⟨t0,t1,t2,t3,t4,t5,t6,t7,t8⟩:=blk9 hb4f;have q0:=hb4f.frozen 0;have q1:=hb4f.frozen 1;have q2:=hb4f.frozen 2;have q3:=hb4f.frozen 3;have q4:=hb4f.frozen 4;have q5:=hb4f.frozen 5;have q6:=hb4f.frozen 6;have q7:=hb4f.frozen 7;have q8:=hb4f.frozen 8;clear hb4f;subst hgA;clear hf hset))
 obtain⟨wf,hwf⟩:∃wf,wf=w2.setCell ⟨g,p * 4+3,none⟩ (.string t):=⟨_,rfl⟩;have ff:Frm (λk=>k=g) w2 wf:=by rw[hwf];exact(Frm.refl (λk=>k=g) w2).setCell (.inl rfl) _
 have hb4:Blk wf (w.heap.size+1+1) 36 #[.int .i64 0,.slice none 0 0,.slice none 0 0,.slice none 0 0,.slice none 0 0,.int .i64 0,.int .i64 0,.int .i64 0,.int .i64 0]:=(HB4.out.frm Z2.out id).frm ff (by simpa using hg2');rw[←hwf] at HSet;obtain⟨we,hwe⟩:∃we,we=wf.setCells (w.heap.size+1+1) 0 [.int .i64 x.clock,.slice fo.1 x.fols.length fo.2,.slice (some ⟨g,0,none⟩) x.fees.length rc,.slice it.1 x.itms.length it.2,.slice se.1 x.seas.length se.2,.int .i64 x.tFol,.int .i64 x.tFee,.int .i64 x.tItm,.int .i64 x.tSea]:=⟨_,rfl⟩
 have hbe:Blk we (w.heap.size+1+1) 36 #[.int .i64 x.clock,.slice fo.1 x.fols.length fo.2,.slice (some ⟨g,0,none⟩) x.fees.length rc,.slice it.1 x.itms.length it.2,.slice se.1 x.seas.length se.2,.int .i64 x.tFol,.int .i64 x.tFee,.int .i64 x.tItm,.int .i64 x.tSea]:=by
  have:=Blk.putL [.int .i64 x.clock,.slice fo.1 x.fols.length fo.2,.slice (some ⟨g,0,none⟩) x.fees.length rc,.slice it.1 x.itms.length it.2,.slice se.1 x.seas.length se.2,.int .i64 x.tFol,.int .i64 x.tFee,.int .i64 x.tItm,.int .i64 x.tSea] 0 hb4;rw[putL9] at this;rw[hwe];exact this
 have fe_:Frm (λk=>k=w.heap.size+1+1) wf we:=by rw[hwe];exact Frm.setCells _ 0 (Frm.refl _ _) (.inl rfl)
 have HFin:Hid (Frm Nix w we):=((HFd.out.trans Z2.out).next ff (λk hk=>.inr (by omega))).next fe_ (λk hk=>.inr (by omega))
 have HBe:=h_ hbe
 have hrow:SlIn we (λk=>w.heap.size≤k) 4 (some ⟨g,0,none⟩,rc) x.fees.length ((x.fees.flatMap Fee.cells).set (p * 4+3) (.string t)):=by
  have hr3:=HSet.out.far fe_ (λk hk=>by omega) (λk hk e=>by simp[Value.ownBlock] at hk;omega);exact hr3.sl
 have HL:Hid ((updI Fee.id a (λf=>{f with title:=t}) x.fees)=x.fees.set p ((λf=>{f with title:=t}) x.fees[p])):=by
  unfold Hid;have:=@updI_set _ Fee.id a (λf=>{f with title:=t}) x.fees (by rw[hpi];exact hpl);simp only[hpi] at this;exact this
 rw[flat_set1 Fee.clen x.fees p hpl ((λf=>{f with title:=t}) x.fees[p]) 3 (by decide) _ rfl,←HL.out] at hrow;have hln:(updI Fee.id a (λf=>{f with title:=t}) x.fees).length=x.fees.length:=by rw[HL.out,List.length_set]
 rw[←hln] at hrow;simp only[World.setCells] at hwe;rw[hwf] at hwe;rw[←hwe];refine bodyPost_ret (rapply_ret HBe.out rfl rfl) rfl ?_;exact⟨fo,(some ⟨g,0,none⟩,rc),it,se,ts,by rw[←hln];rfl,⟨(HS0.out.nix HFin.out).fols.mono λk hk=>.inl hk,hrow.mono λk hk=>.inr hk,(HS0.out.nix HFin.out).itms.mono λk hk=>.inl hk,HS0.out.same,(HS0.out.nix HFin.out).seas.mono λk hk=>.inl hk⟩,HFin.out⟩
theorem rapply6{w:World}{fo fe it se:Sl}{ts:List (Sl×Itm)}{x:St}{G:Nat→Prop}(hS:StIn w G fo fe it se ts x)(hsm:StSmall x){a b n:Int}{s t u:ByteArray}(hfit:fits x ⟨6,a,b,n,s,t,u⟩=true):
  Calls Tryz.prog 14 #[stV fo fe it se x,evV ⟨6,a,b,n,s,t,u⟩] w (ApOut w G (doS x ⟨6,a,b,n,s,t,u⟩) true):=by
 obtain⟨w0,hw0,hf0,hb1,hb2,hb3⟩:=box_ser w fo fe it se x 6 a b n s t u;have hcap:=hsm.fees
 have hi:isI Fee.id a x.fees=true:=by
  unfold fits at hfit;simp at hfit;exact hfit.2.1
 obtain⟨p,hpl,hp,-,-,hpi⟩:=posR_at hi;have HS0:=h_ hS;have HS:=h_ (hS.nix hf0);have HSm:=h_ hsm;have HB1:=h_ hb1;have HB2:=h_ hb2;have HB3:=h_ hb3;have HF0:=h_ hf0;have HW:=h_ hw0;have HFt:=h_ hfit
 have KFi:Hid (Calls Tryz.prog 30 #[stV fo fe it se x,.agg #[.int .i64 6,.int .i64 a,.int .i64 b,.int .i64 n,.string s,.string t,.string u]] w0 λe w'=>e=.returned (.bool true)∧Frm Nix w0 w'):=by
  have:=rFits_any (hS.nix hf0) hsm ⟨6,a,b,n,s,t,u⟩;rw[hfit] at this;exact this
 clear hS hsm hf0 hb1 hb2 hb3 hw0 hfit;unfold stV evV;dsimp only;rw[do6 rfl];dsimp only;obtain⟨A,c⟩:=fe;dsimp only at HS HS0 HB1 HW KFi ⊢;go_enter Tryz.func14,Tryz.ntmps14;show Code.wp Tryz.prog (peel 0 (bodyOf Tryz.f14)) _ _ _
 refine peelK (k':=1) λK hK=>?_
 conv in hdC _=>whnf
 go_wp2;rw[←HW.out];obtain⟨e0,e1,e2,e3,e4,e5,e6⟩:=blk7 HB2.out;obtain⟨x0,x1,x2,x3,x4,x5,x6,x7,x8⟩:=blk9 HB1.out;refine peelK (k':=2) λK hK=>?_
 conv in hdC _=>whnf
 go_wp2_with (go_at_call 30;refine KFi.out.mono ?_;rintro e w1 ⟨rfl,hf⟩;have Z1:=h_ hf;clear hf);clear x0 x1 x2 x3 x4 x5 x6 x7 x8 e0 e1 e2 e3 e4 e5 e6;obtain⟨e0,e1,e2,e3,e4,e5,e6⟩:=blk7 (HB2.out.frm Z1.out id);obtain⟨x0,x1,x2,x3,x4,x5,x6,x7,x8⟩:=blk9 (HB1.out.frm Z1.out id);have hs1:=(HS.out.nix Z1.out).fees;obtain⟨rA,rc,wa,hrun0,hrow⟩:=copy_run elemFee (c:=c) hs1.rd (fee_one x.fees) (by exact hcap) (by omega);obtain⟨A2,c2,hsh,-,-,-,hblk⟩:=hrow.shape;injection hsh with hsA hsn hsc;subst hsA hsc;have hbs1:=HB1.out.frm Z1.out id;have hbs2:=HB2.out.frm Z1.out id;have hbs3:=HB3.out.frm Z1.out id;have h4l:=hbs3.lt;have fa:=hrow.frm;have hca:wa.cell? ⟨w.heap.size,2,none⟩=_:=((hbs1.frm fa id).cell 2).trans rfl;have hcf:=(hbs1.frm fa id).frozen 2;have hma:(w1.alloc (.cells #[] 64)).cell? ⟨w.heap.size,2,none⟩=some (.slice A x.fees.length c):=((hbs1.frm ((fR w1).alloc _) id).cell 2).trans rfl;have hnw:=World.new_ne w1 ⟨w.heap.size,2,none⟩ x2;skip;obtain⟨wd,hwd⟩:∃wd,wd=wa.setCell ⟨w.heap.size,2,none⟩ (.slice rA x.fees.length rc):=⟨_,rfl⟩;have fd:Frm (λk=>k=w.heap.size) wa wd:=by rw[hwd];exact(Frm.refl (λk=>k=w.heap.size) wa).setCell (.inl rfl) _
 have HFd:Hid (Frm Nix w wd):=((HF0.out.trans Z1.out).trans fa).next fd (λk hk=>.inr (by omega))
 have hob:∀k,(Value.slice rA x.fees.length rc).ownBlock=some k→w1.heap.size≤k:=λk hk=>by
  rcases rA with _ | ad
  ·simp[Value.ownBlock] at hk
  ·have:=(hblk ad rfl).2.2.1
   simp[Value.ownBlock] at hk;omega
 have HRw:Hid (RowK 64 4 w wd (.slice rA x.fees.length rc) x.fees.length (x.fees.flatMap Fee.cells)):=(hrow.since (HF0.out.trans Z1.out)).far fd (λk hk=>by omega) (λk hk e=>by have:=hob k hk;omega);have HBd:Hid (Blk wd w.heap.size 36 #[.int .i64 x.clock,.slice fo.1 x.fols.length fo.2,.slice rA x.fees.length rc,.slice it.1 x.itms.length it.2,.slice se.1 x.seas.length se.2,.int .i64 x.tFol,.int .i64 x.tFee,.int .i64 x.tItm,.int .i64 x.tSea]):=by unfold Hid;rw[hwd];exact((hbs1.frm fa id).set_ 2 _)
 have HBv:Hid (Blk wd (w.heap.size+1) 42 #[.int .i64 6,.int .i64 a,.int .i64 b,.int .i64 n,.string s,.string t,.string u]):=(hbs2.frm fa id).frm fd (by simp);have HB4:Hid (Blk wd (w.heap.size+1+1) 36 #[.int .i64 0,.slice none 0 0,.slice none 0 0,.slice none 0 0,.slice none 0 0,.int .i64 0,.int .i64 0,.int .i64 0,.int .i64 0]):=(hbs3.frm fa id).frm fd (by simp)
 have HSd:Hid (StIn wd (λk=>G k∨w.heap.size≤k) fo (rA,rc) it se ts x):=by
  have h0:=(HS0.out.nix HFd.out).mono (G':=λk=>G k∨w.heap.size≤k) λk hk=>.inl hk
  have h1:=hrow.sl.frm fd (λk hk e=>by omega);exact⟨h0.fols,h1.mono λk hk=>.inr (by omega),h0.itms,h0.same,h0.seas⟩
 obtain⟨old,hx0⟩:∃old,(x.fees.flatMap Fee.cells)[p * 4+1]? =some old:=⟨_,by rw[flat_at Fee.clen x.fees p hpl 1 (by decide)];rfl⟩
 have KF:Hid (Calls Tryz.prog 33 #[.agg #[.int .i64 x.clock,.slice fo.1 x.fols.length fo.2,.slice rA x.fees.length rc,.slice it.1 x.itms.length it.2,.slice se.1 x.seas.length se.2,.int .i64 x.tFol,.int .i64 x.tFee,.int .i64 x.tItm,.int .i64 x.tSea],.int .i64 a] wd λe w'=>e=.returned (.int .i64 p)∧Frm Nix wd w'):=by
  have:=rFeed_any HSd.out HSm.out a;rw[hp] at this;exact this
 obtain⟨z0,z1,z2,z3,z4,z5,z6,z7,z8⟩:=blk9 HBd.out;obtain⟨d0,d1,d2,d3,d4,d5,d6⟩:=blk7 HBv.out;have HWd:=h_ hwd;rw[hwd] at z0 z1 z2 z3 z4 z5 z6 z7 z8 d0 d1 d2 d3 d4 d5 d6;have HOb:=h_ hob;have HB3l:=h_ h4l;clear hs1 hrow hblk hbs1 hbs2 hbs3 h4l fa fd hob;simp only[peel,bodyOf,Tryz.f14]
 go_wp2_with (first
  | (at_builtin;refine wpList_append_run hrun0 rfl _ _ rfl rfl rfl ?_)
  | (go_at_call 33
     rw[←HWd.out];refine KF.out.mono ?_;rintro r w2 ⟨rfl,hf⟩;have Z2:=h_ hf;have HR2:Hid (RowK 64 4 w w2 (.slice rA x.fees.length rc) x.fees.length (x.fees.flatMap Fee.cells)):=HRw.out.more hf;obtain⟨z0,z1,z2,z3,z4,z5,z6,z7,z8⟩:=blk9 (HBd.out.frm hf id);obtain⟨d0,d1,d2,d3,d4,d5,d6⟩:=blk7 (HBv.out.frm hf id);obtain⟨y0,y1,y2,y3,y4,y5,y6,y7,y8⟩:=blk9 (HB4.out.frm hf id);have g0:=(HB4.out.frm hf id).frozen 0;have g1:=(HB4.out.frm hf id).frozen 1;have g2:=(HB4.out.frm hf id).frozen 2;have g3:=(HB4.out.frm hf id).frozen 3;have g4:=(HB4.out.frm hf id).frozen 4;have g5:=(HB4.out.frm hf id).frozen 5;have g6:=(HB4.out.frm hf id).frozen 6;have g7:=(HB4.out.frm hf id).frozen 7;have g8:=(HB4.out.frm hf id).frozen 8;obtain⟨g,hgA,hgc,hgf,hset,hgl,hgl2⟩:=HR2.out.set_ (p * 4+1) (by omega) (.int .i64 b);rw[hx0] at hgc;have hgo:w.heap.size+1+1<g:=by have h1:=HOb.out g (by rw[hgA];rfl);have h2:=HB3l.out;omega
     have hg0:¬g=w.heap.size:=by omega
     have hg1:¬g=w.heap.size+1:=by omega
     have hg2:¬g=w.heap.size+1+1:=by omega
     have hg0':¬w.heap.size=g:=by omega
     have hg1':¬w.heap.size+1=g:=by omega
     have hg2':¬w.heap.size+1+1=g:=by omega
     have HSet:=h_ hset;obtain⟨s0,s1,s2,s3,s4,s5,s6,s7,s8⟩:=blk9 ((HBd.out.frm hf id).far (p:=⟨g,p * 4+1,none⟩) hg0' (.int .i64 b));have hb4f:=(HB4.out.frm hf id).far (p:=⟨g,p * 4+1,none⟩) hg2' (.int .i64 b);obtain⟨t0,t1,t2,t3,t4,t5,t6,t7,t8⟩:=blk9 hb4f;have q0:=hb4f.frozen 0;have q1:=hb4f.frozen 1;have q2:=hb4f.frozen 2;have q3:=hb4f.frozen 3;have q4:=hb4f.frozen 4;have q5:=hb4f.frozen 5;have q6:=hb4f.frozen 6;have q7:=hb4f.frozen 7;have q8:=hb4f.frozen 8;clear hb4f;subst hgA;clear hf hset))
 obtain⟨wf,hwf⟩:∃wf,wf=w2.setCell ⟨g,p * 4+1,none⟩ (.int .i64 b):=⟨_,rfl⟩;have ff:Frm (λk=>k=g) w2 wf:=by rw[hwf];exact(Frm.refl (λk=>k=g) w2).setCell (.inl rfl) _
 have hb4:Blk wf (w.heap.size+1+1) 36 #[.int .i64 0,.slice none 0 0,.slice none 0 0,.slice none 0 0,.slice none 0 0,.int .i64 0,.int .i64 0,.int .i64 0,.int .i64 0]:=(HB4.out.frm Z2.out id).frm ff (by simpa using hg2');rw[←hwf] at HSet;obtain⟨we,hwe⟩:∃we,we=wf.setCells (w.heap.size+1+1) 0 [.int .i64 x.clock,.slice fo.1 x.fols.length fo.2,.slice (some ⟨g,0,none⟩) x.fees.length rc,.slice it.1 x.itms.length it.2,.slice se.1 x.seas.length se.2,.int .i64 x.tFol,.int .i64 x.tFee,.int .i64 x.tItm,.int .i64 x.tSea]:=⟨_,rfl⟩
 have hbe:Blk we (w.heap.size+1+1) 36 #[.int .i64 x.clock,.slice fo.1 x.fols.length fo.2,.slice (some ⟨g,0,none⟩) x.fees.length rc,.slice it.1 x.itms.length it.2,.slice se.1 x.seas.length se.2,.int .i64 x.tFol,.int .i64 x.tFee,.int .i64 x.tItm,.int .i64 x.tSea]:=by
  have:=Blk.putL [.int .i64 x.clock,.slice fo.1 x.fols.length fo.2,.slice (some ⟨g,0,none⟩) x.fees.length rc,.slice it.1 x.itms.length it.2,.slice se.1 x.seas.length se.2,.int .i64 x.tFol,.int .i64 x.tFee,.int .i64 x.tItm,.int .i64 x.tSea] 0 hb4;rw[putL9] at this;rw[hwe];exact this
 have fe_:Frm (λk=>k=w.heap.size+1+1) wf we:=by rw[hwe];exact Frm.setCells _ 0 (Frm.refl _ _) (.inl rfl)
 have HFin:Hid (Frm Nix w we):=((HFd.out.trans Z2.out).next ff (λk hk=>.inr (by omega))).next fe_ (λk hk=>.inr (by omega))
 have HBe:=h_ hbe
 have hrow:SlIn we (λk=>w.heap.size≤k) 4 (some ⟨g,0,none⟩,rc) x.fees.length ((x.fees.flatMap Fee.cells).set (p * 4+1) (.int .i64 b)):=by
  have hr3:=HSet.out.far fe_ (λk hk=>by omega) (λk hk e=>by simp[Value.ownBlock] at hk;omega);exact hr3.sl
 have HL:Hid ((updI Fee.id a (λf=>{f with inn:=b}) x.fees)=x.fees.set p ((λf=>{f with inn:=b}) x.fees[p])):=by
  unfold Hid;have:=@updI_set _ Fee.id a (λf=>{f with inn:=b}) x.fees (by rw[hpi];exact hpl);simp only[hpi] at this;exact this
 rw[flat_set1 Fee.clen x.fees p hpl ((λf=>{f with inn:=b}) x.fees[p]) 1 (by decide) _ rfl,←HL.out] at hrow;have hln:(updI Fee.id a (λf=>{f with inn:=b}) x.fees).length=x.fees.length:=by rw[HL.out,List.length_set]
 rw[←hln] at hrow;simp only[World.setCells] at hwe;rw[hwf] at hwe;rw[←hwe];refine bodyPost_ret (rapply_ret HBe.out rfl rfl) rfl ?_;exact⟨fo,(some ⟨g,0,none⟩,rc),it,se,ts,by rw[←hln];rfl,⟨(HS0.out.nix HFin.out).fols.mono λk hk=>.inl hk,hrow.mono λk hk=>.inr hk,(HS0.out.nix HFin.out).itms.mono λk hk=>.inl hk,HS0.out.same,(HS0.out.nix HFin.out).seas.mono λk hk=>.inl hk⟩,HFin.out⟩
theorem itms_ts{w:World}{G:Nat→Prop}{fo fe it se:Sl}{ts:List (Sl×Itm)}{x:St}(h:StIn w G fo fe it se ts x){p:Nat}(hk:p<ts.length)(hp:p<x.itms.length):(ts[p]'hk).2=x.itms[p]:=by
 obtain⟨h1,h2⟩:=itms_at h hp;exact h2
theorem rapply8{w:World}{fo fe it se:Sl}{ts:List (Sl×Itm)}{x:St}{G:Nat→Prop}(hS:StIn w G fo fe it se ts x)(hsm:StSmall x){a b n:Int}{s t u:ByteArray}(hfit:fits x ⟨8,a,b,n,s,t,u⟩=true):
  Calls Tryz.prog 14 #[stV fo fe it se x,evV ⟨8,a,b,n,s,t,u⟩] w (ApOut w G (doS x ⟨8,a,b,n,s,t,u⟩) true):=by
 obtain⟨w0,hw0,hf0,hb1,hb2,hb3⟩:=box_ser w fo fe it se x 8 a b n s t u;have hcap:=hsm.itms
 have hi:isI Itm.id a x.itms=true:=by
  unfold fits at hfit;simp at hfit;exact hfit.2
 obtain⟨p,hpl,hp,-,-,hpi⟩:=posR_at hi;have HS0:=h_ hS;have HS:=h_ (hS.nix hf0);have HSm:=h_ hsm;have HB1:=h_ hb1;have HB2:=h_ hb2;have HB3:=h_ hb3;have HF0:=h_ hf0;have HW:=h_ hw0;have HFt:=h_ hfit
 have KFi:Hid (Calls Tryz.prog 30 #[stV fo fe it se x,.agg #[.int .i64 8,.int .i64 a,.int .i64 b,.int .i64 n,.string s,.string t,.string u]] w0 λe w'=>e=.returned (.bool true)∧Frm Nix w0 w'):=by
  have:=rFits_any (hS.nix hf0) hsm ⟨8,a,b,n,s,t,u⟩;rw[hfit] at this;exact this
 clear hS hsm hf0 hb1 hb2 hb3 hw0 hfit;unfold stV evV;dsimp only;rw[do8 rfl];dsimp only;obtain⟨A,c⟩:=it;dsimp only at HS HS0 HB1 HW KFi ⊢;go_enter Tryz.func14,Tryz.ntmps14;show Code.wp Tryz.prog (peel 0 (bodyOf Tryz.f14)) _ _ _
 refine peelK (k':=1) λK hK=>?_
 conv in hdC _=>whnf
 go_wp2;rw[←HW.out];obtain⟨e0,e1,e2,e3,e4,e5,e6⟩:=blk7 HB2.out;obtain⟨x0,x1,x2,x3,x4,x5,x6,x7,x8⟩:=blk9 HB1.out;refine peelK (k':=2) λK hK=>?_
 conv in hdC _=>whnf
 go_wp2_with (go_at_call 30;refine KFi.out.mono ?_;rintro e w1 ⟨rfl,hf⟩;have Z1:=h_ hf;clear hf);clear x0 x1 x2 x3 x4 x5 x6 x7 x8 e0 e1 e2 e3 e4 e5 e6;obtain⟨e0,e1,e2,e3,e4,e5,e6⟩:=blk7 (HB2.out.frm Z1.out id);obtain⟨x0,x1,x2,x3,x4,x5,x6,x7,x8⟩:=blk9 (HB1.out.frm Z1.out id);have hlen:ts.length=x.itms.length:=HS0.out.len;have hs1:=(HS.out.nix Z1.out).itms.row;obtain⟨rA,rc,wa,hrun0,hrow⟩:=copy_run elemItm (c:=c) hs1.rd (itm_one ts) (by rw[hlen];exact hcap) (by omega);obtain⟨A2,c2,hsh,-,-,-,hblk⟩:=hrow.shape;injection hsh with hsA hsn hsc;subst hsA hsc;have hbs1:=HB1.out.frm Z1.out id;have hbs2:=HB2.out.frm Z1.out id;have hbs3:=HB3.out.frm Z1.out id;have h4l:=hbs3.lt;have fa:=hrow.frm;have hca:wa.cell? ⟨w.heap.size,3,none⟩=_:=((hbs1.frm fa id).cell 3).trans rfl;have hcf:=(hbs1.frm fa id).frozen 3;have hma:(w1.alloc (.cells #[] 82)).cell? ⟨w.heap.size,3,none⟩=some (.slice A x.itms.length c):=((hbs1.frm ((fR w1).alloc _) id).cell 3).trans rfl;have hnw:=World.new_ne w1 ⟨w.heap.size,3,none⟩ x3;rw[hlen] at hrun0 hrow;obtain⟨wd,hwd⟩:∃wd,wd=wa.setCell ⟨w.heap.size,3,none⟩ (.slice rA x.itms.length rc):=⟨_,rfl⟩;have fd:Frm (λk=>k=w.heap.size) wa wd:=by rw[hwd];exact(Frm.refl (λk=>k=w.heap.size) wa).setCell (.inl rfl) _
 have HFd:Hid (Frm Nix w wd):=((HF0.out.trans Z1.out).trans fa).next fd (λk hk=>.inr (by omega))
 have hob:∀k,(Value.slice rA x.itms.length rc).ownBlock=some k→w1.heap.size≤k:=λk hk=>by
  rcases rA with _ | ad
  ·simp[Value.ownBlock] at hk
  ·have:=(hblk ad rfl).2.2.1
   simp[Value.ownBlock] at hk;omega
 have HRw:Hid (RowK 82 9 w wd (.slice rA x.itms.length rc) x.itms.length (ts.flatMap itmC)):=(hrow.since (HF0.out.trans Z1.out)).far fd (λk hk=>by omega) (λk hk e=>by have:=hob k hk;omega);have HBd:Hid (Blk wd w.heap.size 36 #[.int .i64 x.clock,.slice fo.1 x.fols.length fo.2,.slice fe.1 x.fees.length fe.2,.slice rA x.itms.length rc,.slice se.1 x.seas.length se.2,.int .i64 x.tFol,.int .i64 x.tFee,.int .i64 x.tItm,.int .i64 x.tSea]):=by unfold Hid;rw[hwd];exact((hbs1.frm fa id).set_ 3 _)
 have HBv:Hid (Blk wd (w.heap.size+1) 42 #[.int .i64 8,.int .i64 a,.int .i64 b,.int .i64 n,.string s,.string t,.string u]):=(hbs2.frm fa id).frm fd (by simp);have HB4:Hid (Blk wd (w.heap.size+1+1) 36 #[.int .i64 0,.slice none 0 0,.slice none 0 0,.slice none 0 0,.slice none 0 0,.int .i64 0,.int .i64 0,.int .i64 0,.int .i64 0]):=(hbs3.frm fa id).frm fd (by simp)
 have HSd:Hid (StIn wd (λk=>G k∨w.heap.size≤k) fo fe (rA,rc) se ts x):=by
  have h0:=(HS0.out.nix HFd.out).mono (G':=λk=>G k∨w.heap.size≤k) λk hk=>.inl hk
  have h1:=hrow.sl.frm fd (λk hk e=>by omega);rw[←hlen] at h1;exact⟨h0.fols,h0.fees,⟨h1.mono λk hk=>.inr (by omega),h0.itms.tags⟩,h0.same,h0.seas⟩
 obtain⟨old,hx0⟩:∃old,(ts.flatMap itmC)[p * 9+6]? =some old:=⟨_,by rw[flat_at itmC_len ts p (by rw[hlen];exact hpl) 6 (by decide)];rfl⟩
 have KF:Hid (Calls Tryz.prog 34 #[.agg #[.int .i64 x.clock,.slice fo.1 x.fols.length fo.2,.slice fe.1 x.fees.length fe.2,.slice rA x.itms.length rc,.slice se.1 x.seas.length se.2,.int .i64 x.tFol,.int .i64 x.tFee,.int .i64 x.tItm,.int .i64 x.tSea],.int .i64 a] wd λe w'=>e=.returned (.int .i64 p)∧Frm Nix wd w'):=by
  have:=rItem_any HSd.out HSm.out a;rw[hp] at this;exact this
 obtain⟨z0,z1,z2,z3,z4,z5,z6,z7,z8⟩:=blk9 HBd.out;obtain⟨d0,d1,d2,d3,d4,d5,d6⟩:=blk7 HBv.out;have HWd:=h_ hwd;rw[hwd] at z0 z1 z2 z3 z4 z5 z6 z7 z8 d0 d1 d2 d3 d4 d5 d6;have HOb:=h_ hob;have HB3l:=h_ h4l;clear hs1 hrow hblk hbs1 hbs2 hbs3 h4l fa fd hob;simp only[peel,bodyOf,Tryz.f14]
 go_wp2_with (first
  | (at_builtin;refine wpList_append_run hrun0 rfl _ _ rfl rfl rfl ?_)
  | (go_at_call 34
     rw[←HWd.out];refine KF.out.mono ?_;rintro r w2 ⟨rfl,hf⟩;have Z2:=h_ hf;have HR2:Hid (RowK 82 9 w w2 (.slice rA x.itms.length rc) x.itms.length (ts.flatMap itmC)):=HRw.out.more hf;obtain⟨z0,z1,z2,z3,z4,z5,z6,z7,z8⟩:=blk9 (HBd.out.frm hf id);obtain⟨d0,d1,d2,d3,d4,d5,d6⟩:=blk7 (HBv.out.frm hf id);obtain⟨y0,y1,y2,y3,y4,y5,y6,y7,y8⟩:=blk9 (HB4.out.frm hf id);have g0:=(HB4.out.frm hf id).frozen 0;have g1:=(HB4.out.frm hf id).frozen 1;have g2:=(HB4.out.frm hf id).frozen 2;have g3:=(HB4.out.frm hf id).frozen 3;have g4:=(HB4.out.frm hf id).frozen 4;have g5:=(HB4.out.frm hf id).frozen 5;have g6:=(HB4.out.frm hf id).frozen 6;have g7:=(HB4.out.frm hf id).frozen 7;have g8:=(HB4.out.frm hf id).frozen 8;obtain⟨g,hgA,hgc,hgf,hset,hgl,hgl2⟩:=HR2.out.set_ (p * 9+6) (by omega) (.bool (n==1));rw[hx0] at hgc;have hgo:w.heap.size+1+1<g:=by have h1:=HOb.out g (by rw[hgA];rfl);have h2:=HB3l.out;omega
     have hg0:¬g=w.heap.size:=by omega
     have hg1:¬g=w.heap.size+1:=by omega
     have hg2:¬g=w.heap.size+1+1:=by omega
     have hg0':¬w.heap.size=g:=by omega
     have hg1':¬w.heap.size+1=g:=by omega
     have hg2':¬w.heap.size+1+1=g:=by omega
     have HSet:=h_ hset;obtain⟨s0,s1,s2,s3,s4,s5,s6,s7,s8⟩:=blk9 ((HBd.out.frm hf id).far (p:=⟨g,p * 9+6,none⟩) hg0' (.bool (n==1)));have hb4f:=(HB4.out.frm hf id).far (p:=⟨g,p * 9+6,none⟩) hg2' (.bool (n==1));obtain⟨t0,t1,t2,t3,t4,t5,t6,t7,t8⟩:=blk9 hb4f;have q0:=hb4f.frozen 0;have q1:=hb4f.frozen 1;have q2:=hb4f.frozen 2;have q3:=hb4f.frozen 3;have q4:=hb4f.frozen 4;have q5:=hb4f.frozen 5;have q6:=hb4f.frozen 6;have q7:=hb4f.frozen 7;have q8:=hb4f.frozen 8;clear hb4f;subst hgA;clear hf hset))
 obtain⟨wf,hwf⟩:∃wf,wf=w2.setCell ⟨g,p * 9+6,none⟩ (.bool (n==1)):=⟨_,rfl⟩;have ff:Frm (λk=>k=g) w2 wf:=by rw[hwf];exact(Frm.refl (λk=>k=g) w2).setCell (.inl rfl) _
 have hb4:Blk wf (w.heap.size+1+1) 36 #[.int .i64 0,.slice none 0 0,.slice none 0 0,.slice none 0 0,.slice none 0 0,.int .i64 0,.int .i64 0,.int .i64 0,.int .i64 0]:=(HB4.out.frm Z2.out id).frm ff (by simpa using hg2');rw[←hwf] at HSet;obtain⟨we,hwe⟩:∃we,we=wf.setCells (w.heap.size+1+1) 0 [.int .i64 x.clock,.slice fo.1 x.fols.length fo.2,.slice fe.1 x.fees.length fe.2,.slice (some ⟨g,0,none⟩) x.itms.length rc,.slice se.1 x.seas.length se.2,.int .i64 x.tFol,.int .i64 x.tFee,.int .i64 x.tItm,.int .i64 x.tSea]:=⟨_,rfl⟩
 have hbe:Blk we (w.heap.size+1+1) 36 #[.int .i64 x.clock,.slice fo.1 x.fols.length fo.2,.slice fe.1 x.fees.length fe.2,.slice (some ⟨g,0,none⟩) x.itms.length rc,.slice se.1 x.seas.length se.2,.int .i64 x.tFol,.int .i64 x.tFee,.int .i64 x.tItm,.int .i64 x.tSea]:=by
  have:=Blk.putL [.int .i64 x.clock,.slice fo.1 x.fols.length fo.2,.slice fe.1 x.fees.length fe.2,.slice (some ⟨g,0,none⟩) x.itms.length rc,.slice se.1 x.seas.length se.2,.int .i64 x.tFol,.int .i64 x.tFee,.int .i64 x.tItm,.int .i64 x.tSea] 0 hb4;rw[putL9] at this;rw[hwe];exact this
 have fe_:Frm (λk=>k=w.heap.size+1+1) wf we:=by rw[hwe];exact Frm.setCells _ 0 (Frm.refl _ _) (.inl rfl)
 have HFin:Hid (Frm Nix w we):=((HFd.out.trans Z2.out).next ff (λk hk=>.inr (by omega))).next fe_ (λk hk=>.inr (by omega))
 have HBe:=h_ hbe
 have hrow:SlIn we (λk=>w.heap.size≤k) 9 (some ⟨g,0,none⟩,rc) x.itms.length ((ts.flatMap itmC).set (p * 9+6) (.bool (n==1))):=by
  have hr3:=HSet.out.far fe_ (λk hk=>by omega) (λk hk e=>by simp[Value.ownBlock] at hk;omega);exact hr3.sl
 have hkt:p<ts.length:=by rw[hlen];exact hpl
 have het:(ts[p]'hkt).2=x.itms[p]:=itms_ts HS0.out hkt hpl
 have HL:Hid ((updI Itm.id a (λt=>{t with read:=decide (n=1)}) x.itms)=x.itms.set p ((λt=>{t with read:=decide (n=1)}) x.itms[p])):=by
  unfold Hid;have:=@updI_set _ Itm.id a (λt=>{t with read:=decide (n=1)}) x.itms (by rw[hpi];exact hpl);simp only[hpi] at this;exact this
 rw[flat_set1 itmC_len ts p hkt ((ts[p]'hkt).1,((λt=>{t with read:=decide (n=1)}) (ts[p]'hkt).2)) 6 (by decide) (.bool (n==1)) rfl] at hrow
 have hsame:(ts.set p ((ts[p]'hkt).1,((λt=>{t with read:=decide (n=1)}) (ts[p]'hkt).2))).map (·.2)=(updI Itm.id a (λt=>{t with read:=decide (n=1)}) x.itms):=by
  rw[List.map_set,HS0.out.same,HL.out,het]
 have hln:(updI Itm.id a (λt=>{t with read:=decide (n=1)}) x.itms).length=x.itms.length:=by rw[HL.out,List.length_set]
 have hlt2:(ts.set p ((ts[p]'hkt).1,((λt=>{t with read:=decide (n=1)}) (ts[p]'hkt).2))).length=x.itms.length:=by rw[List.length_set,hlen]
 rw[←hlt2] at hrow
 have htg:∀q∈ts.set p ((ts[p]'hkt).1,((λt=>{t with read:=decide (n=1)}) (ts[p]'hkt).2)),SlIn we (λk=>G k∨w.heap.size≤k) 1 q.1 q.2.tags.length (q.2.tags.map Value.string):=λq hq=>by
  rcases List.mem_or_eq_of_mem_set hq with hq | rfl
  ·exact((HS0.out.nix HFin.out).itms.tags q hq).mono λk hk=>.inl hk
  ·exact((HS0.out.nix HFin.out).itms.tags _ (List.getElem_mem hkt)).mono λk hk=>.inl hk
 simp only[World.setCells] at hwe;rw[hwf] at hwe;rw[←hwe];refine bodyPost_ret (rapply_ret HBe.out rfl rfl) rfl ?_;exact⟨fo,fe,(some ⟨g,0,none⟩,rc),se,_,by rw[←hln];rfl,⟨(HS0.out.nix HFin.out).fols.mono λk hk=>.inl hk,(HS0.out.nix HFin.out).fees.mono λk hk=>.inl hk,⟨hrow.mono λk hk=>.inr hk,htg⟩,hsame,(HS0.out.nix HFin.out).seas.mono λk hk=>.inl hk⟩,HFin.out⟩
theorem rapply9{w:World}{fo fe it se:Sl}{ts:List (Sl×Itm)}{x:St}{G:Nat→Prop}(hS:StIn w G fo fe it se ts x)(hsm:StSmall x){a b n:Int}{s t u:ByteArray}(hfit:fits x ⟨9,a,b,n,s,t,u⟩=true):
  Calls Tryz.prog 14 #[stV fo fe it se x,evV ⟨9,a,b,n,s,t,u⟩] w (ApOut w G (doS x ⟨9,a,b,n,s,t,u⟩) true):=by
 obtain⟨w0,hw0,hf0,hb1,hb2,hb3⟩:=box_ser w fo fe it se x 9 a b n s t u;have hcap:=hsm.itms
 have hi:isI Itm.id a x.itms=true:=by
  unfold fits at hfit;simp at hfit;exact hfit.2
 obtain⟨p,hpl,hp,-,-,hpi⟩:=posR_at hi;have HS0:=h_ hS;have HS:=h_ (hS.nix hf0);have HSm:=h_ hsm;have HB1:=h_ hb1;have HB2:=h_ hb2;have HB3:=h_ hb3;have HF0:=h_ hf0;have HW:=h_ hw0;have HFt:=h_ hfit
 have KFi:Hid (Calls Tryz.prog 30 #[stV fo fe it se x,.agg #[.int .i64 9,.int .i64 a,.int .i64 b,.int .i64 n,.string s,.string t,.string u]] w0 λe w'=>e=.returned (.bool true)∧Frm Nix w0 w'):=by
  have:=rFits_any (hS.nix hf0) hsm ⟨9,a,b,n,s,t,u⟩;rw[hfit] at this;exact this
 clear hS hsm hf0 hb1 hb2 hb3 hw0 hfit;unfold stV evV;dsimp only;rw[do9 rfl];dsimp only;obtain⟨A,c⟩:=it;dsimp only at HS HS0 HB1 HW KFi ⊢;go_enter Tryz.func14,Tryz.ntmps14;show Code.wp Tryz.prog (peel 0 (bodyOf Tryz.f14)) _ _ _
 refine peelK (k':=1) λK hK=>?_
 conv in hdC _=>whnf
 go_wp2;rw[←HW.out];obtain⟨e0,e1,e2,e3,e4,e5,e6⟩:=blk7 HB2.out;obtain⟨x0,x1,x2,x3,x4,x5,x6,x7,x8⟩:=blk9 HB1.out;refine peelK (k':=2) λK hK=>?_
 conv in hdC _=>whnf
 go_wp2_with (go_at_call 30;refine KFi.out.mono ?_;rintro e w1 ⟨rfl,hf⟩;have Z1:=h_ hf;clear hf);clear x0 x1 x2 x3 x4 x5 x6 x7 x8 e0 e1 e2 e3 e4 e5 e6;obtain⟨e0,e1,e2,e3,e4,e5,e6⟩:=blk7 (HB2.out.frm Z1.out id);obtain⟨x0,x1,x2,x3,x4,x5,x6,x7,x8⟩:=blk9 (HB1.out.frm Z1.out id);have hlen:ts.length=x.itms.length:=HS0.out.len;have hs1:=(HS.out.nix Z1.out).itms.row;obtain⟨rA,rc,wa,hrun0,hrow⟩:=copy_run elemItm (c:=c) hs1.rd (itm_one ts) (by rw[hlen];exact hcap) (by omega);obtain⟨A2,c2,hsh,-,-,-,hblk⟩:=hrow.shape;injection hsh with hsA hsn hsc;subst hsA hsc;have hbs1:=HB1.out.frm Z1.out id;have hbs2:=HB2.out.frm Z1.out id;have hbs3:=HB3.out.frm Z1.out id;have h4l:=hbs3.lt;have fa:=hrow.frm;have hca:wa.cell? ⟨w.heap.size,3,none⟩=_:=((hbs1.frm fa id).cell 3).trans rfl;have hcf:=(hbs1.frm fa id).frozen 3;have hma:(w1.alloc (.cells #[] 82)).cell? ⟨w.heap.size,3,none⟩=some (.slice A x.itms.length c):=((hbs1.frm ((fR w1).alloc _) id).cell 3).trans rfl;have hnw:=World.new_ne w1 ⟨w.heap.size,3,none⟩ x3;rw[hlen] at hrun0 hrow;obtain⟨wd,hwd⟩:∃wd,wd=wa.setCell ⟨w.heap.size,3,none⟩ (.slice rA x.itms.length rc):=⟨_,rfl⟩;have fd:Frm (λk=>k=w.heap.size) wa wd:=by rw[hwd];exact(Frm.refl (λk=>k=w.heap.size) wa).setCell (.inl rfl) _
 have HFd:Hid (Frm Nix w wd):=((HF0.out.trans Z1.out).trans fa).next fd (λk hk=>.inr (by omega))
 have hob:∀k,(Value.slice rA x.itms.length rc).ownBlock=some k→w1.heap.size≤k:=λk hk=>by
  rcases rA with _ | ad
  ·simp[Value.ownBlock] at hk
  ·have:=(hblk ad rfl).2.2.1
   simp[Value.ownBlock] at hk;omega
 have HRw:Hid (RowK 82 9 w wd (.slice rA x.itms.length rc) x.itms.length (ts.flatMap itmC)):=(hrow.since (HF0.out.trans Z1.out)).far fd (λk hk=>by omega) (λk hk e=>by have:=hob k hk;omega);have HBd:Hid (Blk wd w.heap.size 36 #[.int .i64 x.clock,.slice fo.1 x.fols.length fo.2,.slice fe.1 x.fees.length fe.2,.slice rA x.itms.length rc,.slice se.1 x.seas.length se.2,.int .i64 x.tFol,.int .i64 x.tFee,.int .i64 x.tItm,.int .i64 x.tSea]):=by unfold Hid;rw[hwd];exact((hbs1.frm fa id).set_ 3 _)
 have HBv:Hid (Blk wd (w.heap.size+1) 42 #[.int .i64 9,.int .i64 a,.int .i64 b,.int .i64 n,.string s,.string t,.string u]):=(hbs2.frm fa id).frm fd (by simp);have HB4:Hid (Blk wd (w.heap.size+1+1) 36 #[.int .i64 0,.slice none 0 0,.slice none 0 0,.slice none 0 0,.slice none 0 0,.int .i64 0,.int .i64 0,.int .i64 0,.int .i64 0]):=(hbs3.frm fa id).frm fd (by simp)
 have HSd:Hid (StIn wd (λk=>G k∨w.heap.size≤k) fo fe (rA,rc) se ts x):=by
  have h0:=(HS0.out.nix HFd.out).mono (G':=λk=>G k∨w.heap.size≤k) λk hk=>.inl hk
  have h1:=hrow.sl.frm fd (λk hk e=>by omega);rw[←hlen] at h1;exact⟨h0.fols,h0.fees,⟨h1.mono λk hk=>.inr (by omega),h0.itms.tags⟩,h0.same,h0.seas⟩
 obtain⟨old,hx0⟩:∃old,(ts.flatMap itmC)[p * 9+7]? =some old:=⟨_,by rw[flat_at itmC_len ts p (by rw[hlen];exact hpl) 7 (by decide)];rfl⟩
 have KF:Hid (Calls Tryz.prog 34 #[.agg #[.int .i64 x.clock,.slice fo.1 x.fols.length fo.2,.slice fe.1 x.fees.length fe.2,.slice rA x.itms.length rc,.slice se.1 x.seas.length se.2,.int .i64 x.tFol,.int .i64 x.tFee,.int .i64 x.tItm,.int .i64 x.tSea],.int .i64 a] wd λe w'=>e=.returned (.int .i64 p)∧Frm Nix wd w'):=by
  have:=rItem_any HSd.out HSm.out a;rw[hp] at this;exact this
 obtain⟨z0,z1,z2,z3,z4,z5,z6,z7,z8⟩:=blk9 HBd.out;obtain⟨d0,d1,d2,d3,d4,d5,d6⟩:=blk7 HBv.out;have HWd:=h_ hwd;rw[hwd] at z0 z1 z2 z3 z4 z5 z6 z7 z8 d0 d1 d2 d3 d4 d5 d6;have HOb:=h_ hob;have HB3l:=h_ h4l;clear hs1 hrow hblk hbs1 hbs2 hbs3 h4l fa fd hob;simp only[peel,bodyOf,Tryz.f14]
 go_wp2_with (first
  | (at_builtin;refine wpList_append_run hrun0 rfl _ _ rfl rfl rfl ?_)
  | (go_at_call 34
     rw[←HWd.out];refine KF.out.mono ?_;rintro r w2 ⟨rfl,hf⟩;have Z2:=h_ hf;have HR2:Hid (RowK 82 9 w w2 (.slice rA x.itms.length rc) x.itms.length (ts.flatMap itmC)):=HRw.out.more hf;obtain⟨z0,z1,z2,z3,z4,z5,z6,z7,z8⟩:=blk9 (HBd.out.frm hf id);obtain⟨d0,d1,d2,d3,d4,d5,d6⟩:=blk7 (HBv.out.frm hf id);obtain⟨y0,y1,y2,y3,y4,y5,y6,y7,y8⟩:=blk9 (HB4.out.frm hf id);have g0:=(HB4.out.frm hf id).frozen 0;have g1:=(HB4.out.frm hf id).frozen 1;have g2:=(HB4.out.frm hf id).frozen 2;have g3:=(HB4.out.frm hf id).frozen 3;have g4:=(HB4.out.frm hf id).frozen 4;have g5:=(HB4.out.frm hf id).frozen 5;have g6:=(HB4.out.frm hf id).frozen 6;have g7:=(HB4.out.frm hf id).frozen 7;have g8:=(HB4.out.frm hf id).frozen 8;obtain⟨g,hgA,hgc,hgf,hset,hgl,hgl2⟩:=HR2.out.set_ (p * 9+7) (by omega) (.bool (n==1));rw[hx0] at hgc;have hgo:w.heap.size+1+1<g:=by have h1:=HOb.out g (by rw[hgA];rfl);have h2:=HB3l.out;omega
     have hg0:¬g=w.heap.size:=by omega
     have hg1:¬g=w.heap.size+1:=by omega
     have hg2:¬g=w.heap.size+1+1:=by omega
     have hg0':¬w.heap.size=g:=by omega
     have hg1':¬w.heap.size+1=g:=by omega
     have hg2':¬w.heap.size+1+1=g:=by omega
     have HSet:=h_ hset;obtain⟨s0,s1,s2,s3,s4,s5,s6,s7,s8⟩:=blk9 ((HBd.out.frm hf id).far (p:=⟨g,p * 9+7,none⟩) hg0' (.bool (n==1)));have hb4f:=(HB4.out.frm hf id).far (p:=⟨g,p * 9+7,none⟩) hg2' (.bool (n==1));obtain⟨t0,t1,t2,t3,t4,t5,t6,t7,t8⟩:=blk9 hb4f;have q0:=hb4f.frozen 0;have q1:=hb4f.frozen 1;have q2:=hb4f.frozen 2;have q3:=hb4f.frozen 3;have q4:=hb4f.frozen 4;have q5:=hb4f.frozen 5;have q6:=hb4f.frozen 6;have q7:=hb4f.frozen 7;have q8:=hb4f.frozen 8;clear hb4f;subst hgA;clear hf hset))
 obtain⟨wf,hwf⟩:∃wf,wf=w2.setCell ⟨g,p * 9+7,none⟩ (.bool (n==1)):=⟨_,rfl⟩;have ff:Frm (λk=>k=g) w2 wf:=by rw[hwf];exact(Frm.refl (λk=>k=g) w2).setCell (.inl rfl) _
 have hb4:Blk wf (w.heap.size+1+1) 36 #[.int .i64 0,.slice none 0 0,.slice none 0 0,.slice none 0 0,.slice none 0 0,.int .i64 0,.int .i64 0,.int .i64 0,.int .i64 0]:=(HB4.out.frm Z2.out id).frm ff (by simpa using hg2');rw[←hwf] at HSet;obtain⟨we,hwe⟩:∃we,we=wf.setCells (w.heap.size+1+1) 0 [.int .i64 x.clock,.slice fo.1 x.fols.length fo.2,.slice fe.1 x.fees.length fe.2,.slice (some ⟨g,0,none⟩) x.itms.length rc,.slice se.1 x.seas.length se.2,.int .i64 x.tFol,.int .i64 x.tFee,.int .i64 x.tItm,.int .i64 x.tSea]:=⟨_,rfl⟩
 have hbe:Blk we (w.heap.size+1+1) 36 #[.int .i64 x.clock,.slice fo.1 x.fols.length fo.2,.slice fe.1 x.fees.length fe.2,.slice (some ⟨g,0,none⟩) x.itms.length rc,.slice se.1 x.seas.length se.2,.int .i64 x.tFol,.int .i64 x.tFee,.int .i64 x.tItm,.int .i64 x.tSea]:=by
  have:=Blk.putL [.int .i64 x.clock,.slice fo.1 x.fols.length fo.2,.slice fe.1 x.fees.length fe.2,.slice (some ⟨g,0,none⟩) x.itms.length rc,.slice se.1 x.seas.length se.2,.int .i64 x.tFol,.int .i64 x.tFee,.int .i64 x.tItm,.int .i64 x.tSea] 0 hb4;rw[putL9] at this;rw[hwe];exact this
 have fe_:Frm (λk=>k=w.heap.size+1+1) wf we:=by rw[hwe];exact Frm.setCells _ 0 (Frm.refl _ _) (.inl rfl)
 have HFin:Hid (Frm Nix w we):=((HFd.out.trans Z2.out).next ff (λk hk=>.inr (by omega))).next fe_ (λk hk=>.inr (by omega))
 have HBe:=h_ hbe
 have hrow:SlIn we (λk=>w.heap.size≤k) 9 (some ⟨g,0,none⟩,rc) x.itms.length ((ts.flatMap itmC).set (p * 9+7) (.bool (n==1))):=by
  have hr3:=HSet.out.far fe_ (λk hk=>by omega) (λk hk e=>by simp[Value.ownBlock] at hk;omega);exact hr3.sl
 have hkt:p<ts.length:=by rw[hlen];exact hpl
 have het:(ts[p]'hkt).2=x.itms[p]:=itms_ts HS0.out hkt hpl
 have HL:Hid ((updI Itm.id a (λt=>{t with star:=decide (n=1)}) x.itms)=x.itms.set p ((λt=>{t with star:=decide (n=1)}) x.itms[p])):=by
  unfold Hid;have:=@updI_set _ Itm.id a (λt=>{t with star:=decide (n=1)}) x.itms (by rw[hpi];exact hpl);simp only[hpi] at this;exact this
 rw[flat_set1 itmC_len ts p hkt ((ts[p]'hkt).1,((λt=>{t with star:=decide (n=1)}) (ts[p]'hkt).2)) 7 (by decide) (.bool (n==1)) rfl] at hrow
 have hsame:(ts.set p ((ts[p]'hkt).1,((λt=>{t with star:=decide (n=1)}) (ts[p]'hkt).2))).map (·.2)=(updI Itm.id a (λt=>{t with star:=decide (n=1)}) x.itms):=by
  rw[List.map_set,HS0.out.same,HL.out,het]
 have hln:(updI Itm.id a (λt=>{t with star:=decide (n=1)}) x.itms).length=x.itms.length:=by rw[HL.out,List.length_set]
 have hlt2:(ts.set p ((ts[p]'hkt).1,((λt=>{t with star:=decide (n=1)}) (ts[p]'hkt).2))).length=x.itms.length:=by rw[List.length_set,hlen]
 rw[←hlt2] at hrow
 have htg:∀q∈ts.set p ((ts[p]'hkt).1,((λt=>{t with star:=decide (n=1)}) (ts[p]'hkt).2)),SlIn we (λk=>G k∨w.heap.size≤k) 1 q.1 q.2.tags.length (q.2.tags.map Value.string):=λq hq=>by
  rcases List.mem_or_eq_of_mem_set hq with hq | rfl
  ·exact((HS0.out.nix HFin.out).itms.tags q hq).mono λk hk=>.inl hk
  ·exact((HS0.out.nix HFin.out).itms.tags _ (List.getElem_mem hkt)).mono λk hk=>.inl hk
 simp only[World.setCells] at hwe;rw[hwf] at hwe;rw[←hwe];refine bodyPost_ret (rapply_ret HBe.out rfl rfl) rfl ?_;exact⟨fo,fe,(some ⟨g,0,none⟩,rc),se,_,by rw[←hln];rfl,⟨(HS0.out.nix HFin.out).fols.mono λk hk=>.inl hk,(HS0.out.nix HFin.out).fees.mono λk hk=>.inl hk,⟨hrow.mono λk hk=>.inr hk,htg⟩,hsame,(HS0.out.nix HFin.out).seas.mono λk hk=>.inl hk⟩,HFin.out⟩
theorem rapply10{w:World}{fo fe it se:Sl}{ts:List (Sl×Itm)}{x:St}{G:Nat→Prop}(hS:StIn w G fo fe it se ts x)(hsm:StSmall x){a b n:Int}{s t u:ByteArray}(hfit:fits x ⟨10,a,b,n,s,t,u⟩=true):
  Calls Tryz.prog 14 #[stV fo fe it se x,evV ⟨10,a,b,n,s,t,u⟩] w (ApOut w G (doS x ⟨10,a,b,n,s,t,u⟩) true):=by
 obtain⟨w0,hw0,hf0,hb1,hb2,hb3⟩:=box_ser w fo fe it se x 10 a b n s t u;have hcap:=hsm.itms
 have hi:isI Itm.id a x.itms=true:=by
  unfold fits at hfit
  cases hat:atI Itm.id a x.itms with
  | none=>rw[hat] at hfit;simp at hfit
  | some f=>exact isI_iff.2 ⟨f,List.mem_of_find?_eq_some hat,by simpa using List.find?_some hat⟩
 obtain⟨p,hpl,hp,-,-,hpi⟩:=posR_at hi;have HS0:=h_ hS;have HS:=h_ (hS.nix hf0);have HSm:=h_ hsm;have HB1:=h_ hb1;have HB2:=h_ hb2;have HB3:=h_ hb3;have HF0:=h_ hf0;have HW:=h_ hw0;have HFt:=h_ hfit
 have KFi:Hid (Calls Tryz.prog 30 #[stV fo fe it se x,.agg #[.int .i64 10,.int .i64 a,.int .i64 b,.int .i64 n,.string s,.string t,.string u]] w0 λe w'=>e=.returned (.bool true)∧Frm Nix w0 w'):=by
  have:=rFits_any (hS.nix hf0) hsm ⟨10,a,b,n,s,t,u⟩;rw[hfit] at this;exact this
 clear hS hsm hf0 hb1 hb2 hb3 hw0 hfit;unfold stV evV;dsimp only;rw[do10 rfl];dsimp only;obtain⟨A,c⟩:=it;dsimp only at HS HS0 HB1 HW KFi ⊢;go_enter Tryz.func14,Tryz.ntmps14;show Code.wp Tryz.prog (peel 0 (bodyOf Tryz.f14)) _ _ _
 refine peelK (k':=1) λK hK=>?_
 conv in hdC _=>whnf
 go_wp2;rw[←HW.out];obtain⟨e0,e1,e2,e3,e4,e5,e6⟩:=blk7 HB2.out;obtain⟨x0,x1,x2,x3,x4,x5,x6,x7,x8⟩:=blk9 HB1.out;refine peelK (k':=2) λK hK=>?_
 conv in hdC _=>whnf
 go_wp2_with (go_at_call 30;refine KFi.out.mono ?_;rintro e w1 ⟨rfl,hf⟩;have Z1:=h_ hf;clear hf);clear x0 x1 x2 x3 x4 x5 x6 x7 x8 e0 e1 e2 e3 e4 e5 e6;obtain⟨e0,e1,e2,e3,e4,e5,e6⟩:=blk7 (HB2.out.frm Z1.out id);obtain⟨x0,x1,x2,x3,x4,x5,x6,x7,x8⟩:=blk9 (HB1.out.frm Z1.out id);have hlen:ts.length=x.itms.length:=HS0.out.len;have hs1:=(HS.out.nix Z1.out).itms.row;obtain⟨rA,rc,wa,hrun0,hrow⟩:=copy_run elemItm (c:=c) hs1.rd (itm_one ts) (by rw[hlen];exact hcap) (by omega);obtain⟨A2,c2,hsh,-,-,-,hblk⟩:=hrow.shape;injection hsh with hsA hsn hsc;subst hsA hsc;have hbs1:=HB1.out.frm Z1.out id;have hbs2:=HB2.out.frm Z1.out id;have hbs3:=HB3.out.frm Z1.out id;have h4l:=hbs3.lt;have fa:=hrow.frm;have hca:wa.cell? ⟨w.heap.size,3,none⟩=_:=((hbs1.frm fa id).cell 3).trans rfl;have hcf:=(hbs1.frm fa id).frozen 3;have hma:(w1.alloc (.cells #[] 82)).cell? ⟨w.heap.size,3,none⟩=some (.slice A x.itms.length c):=((hbs1.frm ((fR w1).alloc _) id).cell 3).trans rfl;have hnw:=World.new_ne w1 ⟨w.heap.size,3,none⟩ x3;rw[hlen] at hrun0 hrow;obtain⟨wd,hwd⟩:∃wd,wd=wa.setCell ⟨w.heap.size,3,none⟩ (.slice rA x.itms.length rc):=⟨_,rfl⟩;have fd:Frm (λk=>k=w.heap.size) wa wd:=by rw[hwd];exact(Frm.refl (λk=>k=w.heap.size) wa).setCell (.inl rfl) _
 have HFd:Hid (Frm Nix w wd):=((HF0.out.trans Z1.out).trans fa).next fd (λk hk=>.inr (by omega))
 have hob:∀k,(Value.slice rA x.itms.length rc).ownBlock=some k→w1.heap.size≤k:=λk hk=>by
  rcases rA with _ | ad
  ·simp[Value.ownBlock] at hk
  ·have:=(hblk ad rfl).2.2.1
   simp[Value.ownBlock] at hk;omega
 obtain⟨q,hkt,hq,hq2,htgq⟩:∃(q:Sl×Itm) (hkt:p<ts.length),ts[p]'hkt=q∧q.2=x.itms[p]∧SlIn w G 1 q.1 q.2.tags.length (q.2.tags.map Value.string):=by
  obtain⟨hkt,h2⟩:=itms_at HS0.out hpl;exact⟨ts[p]'hkt,hkt,rfl,h2,HS0.out.itms.tags _ (List.getElem_mem hkt)⟩
 have htl:q.2.tags.length≤1000:=by rw[hq2];exact HSm.out.tags _ (List.getElem_mem hpl)
 have KT:Hid (∀W,Frm Nix w W→Calls Tryz.prog 35 #[.slice q.1.1 q.2.tags.length q.1.2,.string s,.bool (n==1)] W λe w'=>∃v':Sl,e=.returned (.slice v'.1 (tagsS q.2.tags s (decide (n=1))).length v'.2)∧SlIn w' (λk=>W.heap.size≤k) 1 v' (tagsS q.2.tags s (decide (n=1))).length ((tagsS q.2.tags s (decide (n=1))).map Value.string)∧Frm Nix W w'):=λW hW=>rtags_any q.2.tags (htgq.nix hW) htl s _
 have hx8:(ts.flatMap itmC)[p * 9+8]? =some (.slice q.1.1 q.2.tags.length q.1.2):=by
  rw[flat_at itmC_len ts p hkt 8 (by decide),hq];rfl
 have HQ:=h_ (And.intro hq (And.intro hq2 htgq));clear hq hq2 htgq htl;have HRw:Hid (RowK 82 9 w wd (.slice rA x.itms.length rc) x.itms.length (ts.flatMap itmC)):=(hrow.since (HF0.out.trans Z1.out)).far fd (λk hk=>by omega) (λk hk e=>by have:=hob k hk;omega);have HBd:Hid (Blk wd w.heap.size 36 #[.int .i64 x.clock,.slice fo.1 x.fols.length fo.2,.slice fe.1 x.fees.length fe.2,.slice rA x.itms.length rc,.slice se.1 x.seas.length se.2,.int .i64 x.tFol,.int .i64 x.tFee,.int .i64 x.tItm,.int .i64 x.tSea]):=by unfold Hid;rw[hwd];exact((hbs1.frm fa id).set_ 3 _)
 have HBv:Hid (Blk wd (w.heap.size+1) 42 #[.int .i64 10,.int .i64 a,.int .i64 b,.int .i64 n,.string s,.string t,.string u]):=(hbs2.frm fa id).frm fd (by simp);have HB4:Hid (Blk wd (w.heap.size+1+1) 36 #[.int .i64 0,.slice none 0 0,.slice none 0 0,.slice none 0 0,.slice none 0 0,.int .i64 0,.int .i64 0,.int .i64 0,.int .i64 0]):=(hbs3.frm fa id).frm fd (by simp)
 have HSd:Hid (StIn wd (λk=>G k∨w.heap.size≤k) fo fe (rA,rc) se ts x):=by
  have h0:=(HS0.out.nix HFd.out).mono (G':=λk=>G k∨w.heap.size≤k) λk hk=>.inl hk
  have h1:=hrow.sl.frm fd (λk hk e=>by omega);rw[←hlen] at h1;exact⟨h0.fols,h0.fees,⟨h1.mono λk hk=>.inr (by omega),h0.itms.tags⟩,h0.same,h0.seas⟩
 obtain⟨old,hx0⟩:∃old,(ts.flatMap itmC)[p * 9+8]? =some old:=⟨_,by rw[flat_at itmC_len ts p (by rw[hlen];exact hpl) 8 (by decide)];rfl⟩
 have KF:Hid (Calls Tryz.prog 34 #[.agg #[.int .i64 x.clock,.slice fo.1 x.fols.length fo.2,.slice fe.1 x.fees.length fe.2,.slice rA x.itms.length rc,.slice se.1 x.seas.length se.2,.int .i64 x.tFol,.int .i64 x.tFee,.int .i64 x.tItm,.int .i64 x.tSea],.int .i64 a] wd λe w'=>e=.returned (.int .i64 p)∧Frm Nix wd w'):=by
  have:=rItem_any HSd.out HSm.out a;rw[hp] at this;exact this
 obtain⟨z0,z1,z2,z3,z4,z5,z6,z7,z8⟩:=blk9 HBd.out;obtain⟨d0,d1,d2,d3,d4,d5,d6⟩:=blk7 HBv.out;have HWd:=h_ hwd;rw[hwd] at z0 z1 z2 z3 z4 z5 z6 z7 z8 d0 d1 d2 d3 d4 d5 d6;have HOb:=h_ hob;have HB3l:=h_ h4l;clear hs1 hrow hblk hbs1 hbs2 hbs3 h4l fa fd hob;simp only[peel,bodyOf,Tryz.f14]
 go_wp2_with (first
  | (at_builtin;refine wpList_append_run hrun0 rfl _ _ rfl rfl rfl ?_)
  | (go_at_call 34
     rw[←HWd.out];refine KF.out.mono ?_;rintro r w2 ⟨rfl,hf⟩;have Z2:=h_ hf;have HR2:Hid (RowK 82 9 w w2 (.slice rA x.itms.length rc) x.itms.length (ts.flatMap itmC)):=HRw.out.more hf;obtain⟨z0,z1,z2,z3,z4,z5,z6,z7,z8⟩:=blk9 (HBd.out.frm hf id);obtain⟨d0,d1,d2,d3,d4,d5,d6⟩:=blk7 (HBv.out.frm hf id);obtain⟨y0,y1,y2,y3,y4,y5,y6,y7,y8⟩:=blk9 (HB4.out.frm hf id);have g0:=(HB4.out.frm hf id).frozen 0;have g1:=(HB4.out.frm hf id).frozen 1;have g2:=(HB4.out.frm hf id).frozen 2;have g3:=(HB4.out.frm hf id).frozen 3;have g4:=(HB4.out.frm hf id).frozen 4;have g5:=(HB4.out.frm hf id).frozen 5;have g6:=(HB4.out.frm hf id).frozen 6;have g7:=(HB4.out.frm hf id).frozen 7;have g8:=(HB4.out.frm hf id).frozen 8;obtain⟨g,hgA,hgc,hgf,hset,hgl,hgl2⟩:=HR2.out.set_ (p * 9+8) (by omega) undef;have hgo:w.heap.size+1+1<g:=by have h1:=HOb.out g (by rw[hgA];rfl);have h2:=HB3l.out;omega
     have hg0:¬g=w.heap.size:=by omega
     have hg1:¬g=w.heap.size+1:=by omega
     have hg2:¬g=w.heap.size+1+1:=by omega
     have hg0':¬w.heap.size=g:=by omega
     have hg1':¬w.heap.size+1=g:=by omega
     have hg2':¬w.heap.size+1+1=g:=by omega
     rw[hx8] at hgc;have HC:Hid (∀W,Frm Nix w2 W→W.cell? ⟨w.heap.size,3,none⟩=some (.slice rA x.itms.length rc)∧W.cell? ⟨w.heap.size+1,3,none⟩=some (.int .i64 n)∧W.cell? ⟨w.heap.size+1,4,none⟩=some (.string s)):=λW hW=>⟨(hW.cell (p:=⟨w.heap.size,3,none⟩) ((HBd.out.frm hf id).lt) id).trans z3,(hW.cell (p:=⟨w.heap.size+1,3,none⟩) ((HBv.out.frm hf id).lt) id).trans d3,(hW.cell (p:=⟨w.heap.size+1,4,none⟩) ((HBv.out.frm hf id).lt) id).trans d4⟩
     subst hgA;clear hf hset))
 refine wp_region_held_drew (S:=λW=>W.cell? ⟨w.heap.size,3,none⟩=some (.slice (some ⟨g,0,none⟩) x.itms.length rc)∧W.cell? ⟨w.heap.size+1,3,none⟩=some (.int .i64 n)∧W.cell? ⟨w.heap.size+1,4,none⟩=some (.string s)) (by kernel_rfl) (HC.out _ (fR w2).drew) λhH=>?_
 refine tkq (i:=0) rfl (λ_ _ _ h=>h) hH ?_
 try simp only[lt,Act.put]
 refine tkq (i:=1) rfl (λ_ _ _ h=>h) hH ?_
 try simp only[lt,Act.put]
 refine tkq (i:=2) rfl (λ_ _ _ h=>h) hH ?_
 try simp only[lt,Act.put]
 refine tkq (i:=3) rfl (λ_ _ _ h=>h) hH ?_
 try simp only[lt,Act.put]
 refine tkq (i:=4) rfl (λ_ _ _ h=>h) hH ?_
 try simp only[lt,Act.put]
 refine tkq (i:=5) rfl (λ_ _ _ h=>h) hH ?_
 try simp only[lt,Act.put]
 refine tkq (i:=6) rfl (λ_ _ _ h=>h) hH ?_
 try simp only[lt,Act.put]
 refine tkq (i:=7) rfl (λ_ _ _ h=>h) hH ?_
 try simp only[lt,Act.put]
 refine tkq (i:=9) rfl (λ_ _ _ h=>h) hH ?_
 try simp only[lt,Act.put]
 refine tkq (i:=10) rfl (λ_ _ _ h=>h) hH ?_
 try simp only[lt,Act.put]
 refine tkq (i:=11) rfl (λ_ _ _ h=>h) hH ?_
 try simp only[lt,Act.put]
 refine tkq (i:=12) rfl (λ_ _ _ h=>h) hH ?_
 try simp only[lt,Act.put]
 refine tkq (i:=13) rfl (λ_ _ _ h=>h) hH ?_
 try simp only[lt,Act.put]
 refine rdy1 (i:=8) rfl (λK hK=>?_);go_simp;refine hK.out _ _ (HC.out _ (fR w2).drew) (λhH=>?_);clear hK K
 try simp only[lt,Act.put]
 refine rdy1 (i:=14) rfl (λK hK=>?_);go_simp;go_at_call 35;refine(KT.out _ ((HFd.out.trans Z2.out).drew)).mono ?_;rintro r w3 ⟨v',rfl,hv,hf⟩;have HV:=h_ hv;have Z3:Hid (Frm Nix w2 w3):=(fR w2).drew.trans hf;have hg3:=(HR2.out.more Z3.out).set_ (p * 9+8) (by omega) (.slice v'.1 (tagsS q.2.tags s (decide (n=1))).length v'.2);obtain⟨g',hgA,hgc3,hgf3,hset,-,-⟩:=hg3;injection hgA with hgA;injection hgA with hgA;subst hgA;rw[hx8] at hgc3;have HSet:=h_ hset;clear hf hv hset;dsimp only;refine hK.out _ _ (HC.out _ Z3.out) (λhH=>?_);clear hK K
 try simp only[lt,Act.put]
 refine tkq (i:=15) rfl (λ_ _ _ h=>h) hH ?_
 try simp only[lt,Act.put]
 refine tkq (i:=16) rfl (λ_ _ _ h=>h) hH ?_
 try simp only[lt,Act.put]
 refine rdy1 (i:=17) rfl (λK hK=>?_);go_simp;refine hK.out _ _ (by first | exact HC.out _ Z3.out | go_keep) (λhH=>?_);clear hK K
 try simp only[lt,Act.put]
 refine wpAnyH_done (by kernel_rfl) ?_ _;have hset:=HSet.out;obtain⟨wf,hwf⟩:∃wf,wf=w3.setCell ⟨g,p * 9+8,none⟩ (.slice v'.1 (tagsS q.2.tags s (decide (n=1))).length v'.2):=⟨_,rfl⟩;rw[←hwf] at hset ⊢;have ff:Frm (λk=>k=g) w3 wf:=by rw[hwf];exact(Frm.refl (λk=>k=g) w3).setCell (.inl rfl) _
 have hb4:Blk wf (w.heap.size+1+1) 36 #[.int .i64 0,.slice none 0 0,.slice none 0 0,.slice none 0 0,.slice none 0 0,.int .i64 0,.int .i64 0,.int .i64 0,.int .i64 0]:=(HB4.out.frm (Z2.out.trans Z3.out) id).frm ff (by simpa using hg2');have hbs:Blk wf w.heap.size 36 #[.int .i64 x.clock,.slice fo.1 x.fols.length fo.2,.slice fe.1 x.fees.length fe.2,.slice (some ⟨g,0,none⟩) x.itms.length rc,.slice se.1 x.seas.length se.2,.int .i64 x.tFol,.int .i64 x.tFee,.int .i64 x.tItm,.int .i64 x.tSea]:=(HBd.out.frm (Z2.out.trans Z3.out) id).frm ff (by simpa using hg0');clear hwf;clear z0 z1 z2 z3 z4 z5 z6 z7 z8 y0 y1 y2 y3 y4 y5 y6 y7 y8 g0 g1 g2 g3 g4 g5 g6 g7 g8 d0 d1 d2 d3 d4 d5 d6;obtain⟨z0,z1,z2,z3,z4,z5,z6,z7,z8⟩:=blk9 hbs;obtain⟨y0,y1,y2,y3,y4,y5,y6,y7,y8⟩:=blk9 hb4;have g0:=hb4.frozen 0;have g1:=hb4.frozen 1;have g2:=hb4.frozen 2;have g3:=hb4.frozen 3;have g4:=hb4.frozen 4;have g5:=hb4.frozen 5;have g6:=hb4.frozen 6;have g7:=hb4.frozen 7;have g8:=hb4.frozen 8;go_wp2;obtain⟨we,hwe⟩:∃we,we=wf.setCells (w.heap.size+1+1) 0 [.int .i64 x.clock,.slice fo.1 x.fols.length fo.2,.slice fe.1 x.fees.length fe.2,.slice (some ⟨g,0,none⟩) x.itms.length rc,.slice se.1 x.seas.length se.2,.int .i64 x.tFol,.int .i64 x.tFee,.int .i64 x.tItm,.int .i64 x.tSea]:=⟨_,rfl⟩
 have hbe:Blk we (w.heap.size+1+1) 36 #[.int .i64 x.clock,.slice fo.1 x.fols.length fo.2,.slice fe.1 x.fees.length fe.2,.slice (some ⟨g,0,none⟩) x.itms.length rc,.slice se.1 x.seas.length se.2,.int .i64 x.tFol,.int .i64 x.tFee,.int .i64 x.tItm,.int .i64 x.tSea]:=by
  have:=Blk.putL [.int .i64 x.clock,.slice fo.1 x.fols.length fo.2,.slice fe.1 x.fees.length fe.2,.slice (some ⟨g,0,none⟩) x.itms.length rc,.slice se.1 x.seas.length se.2,.int .i64 x.tFol,.int .i64 x.tFee,.int .i64 x.tItm,.int .i64 x.tSea] 0 hb4;rw[putL9] at this;rw[hwe];exact this
 have fe_:Frm (λk=>k=w.heap.size+1+1) wf we:=by rw[hwe];exact Frm.setCells _ 0 (Frm.refl _ _) (.inl rfl)
 have HFin:Hid (Frm Nix w we):=(((HFd.out.trans Z2.out).trans Z3.out).next ff (λk hk=>.inr (by omega))).next fe_ (λk hk=>.inr (by omega))
 have HBe:=h_ hbe
 have hrow:SlIn we (λk=>w.heap.size≤k) 9 (some ⟨g,0,none⟩,rc) x.itms.length ((ts.flatMap itmC).set (p * 9+8) (.slice v'.1 (tagsS q.2.tags s (decide (n=1))).length v'.2)):=by
  have hr3:=hset.far fe_ (λk hk=>by omega) (λk hk e=>by simp[Value.ownBlock] at hk;omega);exact hr3.sl
 have HL:Hid ((updI Itm.id a (λt=>{t with tags:=tagsS t.tags s (decide (n=1))}) x.itms)=x.itms.set p ((λt=>{t with tags:=tagsS t.tags s (decide (n=1))}) x.itms[p])):=by
  unfold Hid;have:=@updI_set _ Itm.id a (λt=>{t with tags:=tagsS t.tags s (decide (n=1))}) x.itms (by rw[hpi];exact hpl);simp only[hpi] at this;exact this
 obtain⟨hq,hq2,htgq⟩:=HQ.out;rw[flat_set1 itmC_len ts p hkt (v',((λt=>{t with tags:=tagsS t.tags s (decide (n=1))}) q.2)) 8 (by decide) _ (by rw[hq];rfl)] at hrow
 have hsame:(ts.set p (v',((λt=>{t with tags:=tagsS t.tags s (decide (n=1))}) q.2))).map (·.2)=(updI Itm.id a (λt=>{t with tags:=tagsS t.tags s (decide (n=1))}) x.itms):=by
  rw[List.map_set,HS0.out.same,HL.out,hq2]
 have hln:(updI Itm.id a (λt=>{t with tags:=tagsS t.tags s (decide (n=1))}) x.itms).length=x.itms.length:=by rw[HL.out,List.length_set]
 have hlt2:(ts.set p (v',((λt=>{t with tags:=tagsS t.tags s (decide (n=1))}) q.2))).length=x.itms.length:=by rw[List.length_set,hlen]
 rw[←hlt2] at hrow;have hw2:=HBd.out.lt;have hw2':=Z2.out.size
 have hV:SlIn we (λk=>G k∨w.heap.size≤k) 1 v' (tagsS q.2.tags s (decide (n=1))).length ((tagsS q.2.tags s (decide (n=1))).map Value.string):=by
  have h1:w2.heap.size≤w2.drew.heap.size:=(fR w2).drew.size;refine((HV.out.frm ff ?_).frm fe_ ?_).mono ?_
  ·exact λk hk e=>by subst e;first | omega | (simp at hk;omega)
  ·exact λk hk e=>by subst e;first | omega | (simp at hk;omega)
  ·exact λk hk=>.inr (by first | omega | (simp at hk;omega))
 have htg:∀q'∈ts.set p (v',((λt=>{t with tags:=tagsS t.tags s (decide (n=1))}) q.2)),SlIn we (λk=>G k∨w.heap.size≤k) 1 q'.1 q'.2.tags.length (q'.2.tags.map Value.string):=λq' hq'=>by
  rcases List.mem_or_eq_of_mem_set hq' with hq' | rfl
  ·exact((HS0.out.nix HFin.out).itms.tags q' hq').mono λk hk=>.inl hk
  ·exact hV
 simp only[World.setCells] at hwe;rw[←hwe];refine bodyPost_ret (rapply_ret HBe.out rfl rfl) rfl ?_;exact⟨fo,fe,(some ⟨g,0,none⟩,rc),se,_,by rw[←hln];rfl,⟨(HS0.out.nix HFin.out).fols.mono λk hk=>.inl hk,(HS0.out.nix HFin.out).fees.mono λk hk=>.inl hk,⟨hrow.mono λk hk=>.inr hk,htg⟩,hsame,(HS0.out.nix HFin.out).seas.mono λk hk=>.inl hk⟩,HFin.out⟩
theorem applyS_snd(x:St)(e:Ev):(applyS x e).2=fits x e:=by
 unfold applyS
 cases h:fits x e<;>simp[h]
theorem rApply_any{w:World}{fo fe it se:Sl}{ts:List (Sl×Itm)}{x:St}{G:Nat→Prop}(hS:StIn w G fo fe it se ts x)(hsm:StSmall x)(e:Ev):
  Calls Tryz.prog 14 #[stV fo fe it se x,evV e] w (ApOut w G (applyS x e).1 (applyS x e).2):=by
 obtain⟨k,a,b,n,s,t,u⟩:=e
 cases hf:fits x ⟨k,a,b,n,s,t,u⟩ with
 | false=>
   have h1:applyS x ⟨k,a,b,n,s,t,u⟩=(x,false):=by unfold applyS;rw[hf];rfl
   rw[h1]
   exact rapply_no hS hsm hf
 | true=>
   have h1:applyS x ⟨k,a,b,n,s,t,u⟩=(doS x ⟨k,a,b,n,s,t,u⟩,true):=by unfold applyS;rw[hf];rfl
   rw[h1];have:=evKind (fits_ev hf);simp only at this;rcases this with h | h | h | h | h | h | h | h | h | h | h | h | h
   ·exact rapply_made hS hsm (by omega) hf
   ·exact rapply_gone hS hsm (by omega) hf
   ·exact rapply_made hS hsm (by omega) hf
   ·exact rapply_gone hS hsm (by omega) hf
   ·subst h;exact rapply5 hS hsm hf
   ·subst h;exact rapply6 hS hsm hf
   ·exact rapply_made hS hsm (by omega) hf
   ·subst h;exact rapply8 hS hsm hf
   ·subst h;exact rapply9 hS hsm hf
   ·subst h;exact rapply10 hS hsm hf
   ·exact rapply_made hS hsm (by omega) hf
   ·exact rapply_gone hS hsm (by omega) hf
   ·subst h;exact rapply13 hS hsm hf
theorem rfold_ret{W:World}{g:Nat}{tmps:Array Value}{a0 a1 a2 a3 a4 a5 a6 a7 a8:Value}(hb:Blk W g 36 #[a0,a1,a2,a3,a4,a5,a6,a7,a8])(h2:tmps.getD 2 undef=.pointer (some ⟨g,0,none⟩)):
  (results Tryz.f15 tmps).run Tryz.prog W=.ok (.agg #[a0,a1,a2,a3,a4,a5,a6,a7,a8]) W:=by
 obtain⟨c0,c1,c2,c3,c4,c5,c6,c7,c8⟩:=blk9 hb;have h2':tmps[2]?.getD undef=.pointer (some ⟨g,0,none⟩):=by simpa using h2
 simp[results,Tryz.results15,h2',go_sem,c0,c1,c2,c3,c4,c5,c6,c7,c8]
theorem box_zz(w:World):∃w0,w0=(w.alloc (.cells #[.int .i64 0,.slice none 0 0,.slice none 0 0,.slice none 0 0,.slice none 0 0,.int .i64 0,.int .i64 0,.int .i64 0,.int .i64 0] 36)).alloc (.cells #[.int .i64 0,.slice none 0 0,.slice none 0 0,.slice none 0 0,.slice none 0 0,.int .i64 0,.int .i64 0,.int .i64 0,.int .i64 0] 36)∧Frm Nix w w0∧Blk w0 w.heap.size 36 #[.int .i64 0,.slice none 0 0,.slice none 0 0,.slice none 0 0,.slice none 0 0,.int .i64 0,.int .i64 0,.int .i64 0,.int .i64 0]∧Blk w0 (w.heap.size+1) 36 #[.int .i64 0,.slice none 0 0,.slice none 0 0,.slice none 0 0,.slice none 0 0,.int .i64 0,.int .i64 0,.int .i64 0,.int .i64 0]∧w0.heap.size=w.heap.size+2:=by
 refine⟨_,rfl,((fR w).alloc _).alloc _,(Blk.new w _ _).frm ((fR _).alloc _) id,?_,by simp⟩;have:=Blk.new (w.alloc (.cells #[.int .i64 0,.slice none 0 0,.slice none 0 0,.slice none 0 0,.slice none 0 0,.int .i64 0,.int .i64 0,.int .i64 0,.int .i64 0] 36)) 36 #[.int .i64 0,.slice none 0 0,.slice none 0 0,.slice none 0 0,.slice none 0 0,.int .i64 0,.int .i64 0,.int .i64 0,.int .i64 0]
 simpa using this
theorem rStFold_any{w:World}{v:Sl}{G:Nat→Prop}(l:List Ev)(hv:SlIn w G 7 v l.length (l.flatMap Ev.cells))(hn:l.length≤1000000):
  Calls Tryz.prog 15 #[.slice v.1 l.length v.2] w λr w'=>∃(fo fe it se:Sl) (ts:List (Sl×Itm)),r=.returned (stV fo fe it se (foldE st0 l))∧StIn w' (λk=>w.heap.size≤k) fo fe it se ts (foldE st0 l)∧Frm Nix w w':=by
 obtain⟨w0,hw0,hf0,hb1,hb2,hsz⟩:=box_zz w;obtain⟨A,c⟩:=v;have hv:=hv.old;have HVG:Hid (∀k,(G k∧k<w.heap.size)→k<w.heap.size):=λk h=>h.2
 have HV:=h_ hv;have HW:=h_ hw0;have HF0:=h_ hf0;have HB1:=h_ hb1;have HB2:=h_ hb2;have HZ:=h_ hsz;obtain⟨n,hln⟩:∃n,l.length=n:=⟨_,rfl⟩;have HL:=h_ hln;rw[hln] at hn;dsimp only;rw[hln];clear hv hw0 hf0 hb1 hb2 hsz hln;go_enter Tryz.func15,Tryz.ntmps15;show Code.wp Tryz.prog (peel 0 (bodyOf Tryz.f15)) _ _ _
 refine peelK (k':=1) λK hK=>?_
 conv in hdC _=>whnf
 go_wp2;refine peelK (k':=2) λK hK=>?_
 conv in hdC _=>whnf
 go_wp2;rw[←HW.out];refine peelK (k':=3) λK hK=>?_
 conv in hdC _=>whnf
 go_wp2
 go_loopw [4] (λkv wr=>∃(k:Nat) (fo fe it se:Sl) (ts:List (Sl×Itm)) (x:St),k≤n∧kv=.int .i64 k∧x=foldE st0 (l.take k)∧Blk wr (w.heap.size+1) 36 #[.int .i64 x.clock,.slice fo.1 x.fols.length fo.2,.slice fe.1 x.fees.length fe.2,.slice it.1 x.itms.length it.2,.slice se.1 x.seas.length se.2,.int .i64 x.tFol,.int .i64 x.tFee,.int .i64 x.tItm,.int .i64 x.tSea]∧StIn wr (λk=>w.heap.size+1<k) fo fe it se ts x∧Blk wr w.heap.size 36 #[.int .i64 0,.slice none 0 0,.slice none 0 0,.slice none 0 0,.slice none 0 0,.int .i64 0,.int .i64 0,.int .i64 0,.int .i64 0]∧Frm Nix w wr) (λkv _=>n - (intOf kv).toNat)
 case atStart=>exact⟨0,(none,0),(none,0),(none,0),(none,0),[],st0,by omega,rfl,rfl,HB2.out,StIn.zero _ _,HB1.out,HF0.out⟩
 case round=>
  obtain⟨k,fo,fe,it,se,ts,x,hk,rfl,hx,hb,hs,hz,hf⟩:=hrel;have HX:=h_ hx;have HB:=h_ hb;have HS:=h_ hs;have HZb:=h_ hz;have HF:=h_ hf;have HP:Hid (StP x):=by rw[hx];exact foldE_ok _ st0_ok
  clear hx hb hs hz hf
  by_cases hlt:k<n
  ·have hkl:k<l.length:=by rw[HL.out];exact hlt
   obtain⟨b,off,hA,hgb,hbl,hcell⟩:=evs_cells HV.out HF.out hkl;subst hA;have HFT:=h_ (foldE_take (x:=st0) hkl);obtain⟨ev,hev⟩:∃ev,l[k]=ev:=⟨_,rfl⟩;rw[hev] at hcell HFT;have KA:Hid (∀W,Frm Nix wr W→Calls Tryz.prog 14 #[stV fo fe it se x,.agg #[.int .i64 ev.kind,.int .i64 ev.a,.int .i64 ev.b,.int .i64 ev.n,.string ev.s,.string ev.t,.string ev.u]] W (ApOut W (λk=>w.heap.size+1<k) (applyS x ev).1 (applyS x ev).2)):=λW hW=>rApply_any (HS.out.nix hW) HP.out.small ev
   obtain⟨x0,x1,x2,x3,x4,x5,x6,x7,x8⟩:=blk9 HB.out;obtain⟨c0,c1,c2,c3,c4,c5,c6⟩:=hcell Nix wr id (Frm.refl _ _);have hbB:=HB.out.lt;have HC:Hid (∀W,Frm Nix wr W→(W.cell? ⟨w.heap.size+1,0,none⟩=some (.int .i64 x.clock)∧W.cell? ⟨w.heap.size+1,1,none⟩=some (.slice fo.1 x.fols.length fo.2)∧W.cell? ⟨w.heap.size+1,2,none⟩=some (.slice fe.1 x.fees.length fe.2)∧W.cell? ⟨w.heap.size+1,3,none⟩=some (.slice it.1 x.itms.length it.2)∧W.cell? ⟨w.heap.size+1,4,none⟩=some (.slice se.1 x.seas.length se.2)∧W.cell? ⟨w.heap.size+1,5,none⟩=some (.int .i64 x.tFol)∧W.cell? ⟨w.heap.size+1,6,none⟩=some (.int .i64 x.tFee)∧W.cell? ⟨w.heap.size+1,7,none⟩=some (.int .i64 x.tItm)∧W.cell? ⟨w.heap.size+1,8,none⟩=some (.int .i64 x.tSea))∧W.cell? ⟨b,off+k * 7,none⟩=some (.int .i64 ev.kind)∧W.cell? ⟨b,off+k * 7+1,none⟩=some (.int .i64 ev.a)∧W.cell? ⟨b,off+k * 7+2,none⟩=some (.int .i64 ev.b)∧W.cell? ⟨b,off+k * 7+3,none⟩=some (.int .i64 ev.n)∧W.cell? ⟨b,off+k * 7+4,none⟩=some (.string ev.s)∧W.cell? ⟨b,off+k * 7+5,none⟩=some (.string ev.t)∧W.cell? ⟨b,off+k * 7+6,none⟩=some (.string ev.u)):=λW hW=>⟨blk9 (HB.out.frm hW id),hcell Nix W id hW⟩
   clear hcell hev;obtain⟨y,hy⟩:∃y,(applyS x ev).1=y:=⟨_,rfl⟩;obtain⟨bb,hbb⟩:∃bb,(applyS x ev).2=bb:=⟨_,rfl⟩;rw[hy,hbb] at KA;have HY:Hid (y=foldE st0 (l.take (k+1))):=by unfold Hid;rw[HFT.out,←HX.out,hy]
   clear hy hbb;go_wp2;have hbne:¬w.heap.size+1=b:=by have:=HVG.out b hgb;omega
   have hbne':¬b=w.heap.size+1:=λe=>hbne e.symm
   refine wp_region_held_drew (S:=λW=>W.cell? ⟨b,off+k * 7,none⟩=some (.int .i64 ev.kind)∧W.cell? ⟨b,off+k * 7+1,none⟩=some (.int .i64 ev.a)∧W.cell? ⟨b,off+k * 7+2,none⟩=some (.int .i64 ev.b)∧W.cell? ⟨b,off+k * 7+3,none⟩=some (.int .i64 ev.n)∧W.cell? ⟨b,off+k * 7+4,none⟩=some (.string ev.s)∧W.cell? ⟨b,off+k * 7+5,none⟩=some (.string ev.t)∧W.cell? ⟨b,off+k * 7+6,none⟩=some (.string ev.u)) (by kernel_rfl) (HC.out _ (fR wr).drew).2 λhH=>?_
   refine tkq (i:=1) rfl (λ_ _ _ h=>h) hH ?_
   try simp only[lt,Act.put]
   refine tkq (i:=2) rfl (λ_ _ _ h=>h) hH ?_
   try simp only[lt,Act.put]
   refine tkq (i:=3) rfl (λ_ _ _ h=>h) hH ?_
   try simp only[lt,Act.put]
   refine tkq (i:=4) rfl (λ_ _ _ h=>h) hH ?_
   try simp only[lt,Act.put]
   refine rdy1 (i:=0) rfl (λK hK=>?_);go_simp;refine hK.out _ _ (HC.out _ (fR wr).drew).2 (λhH=>?_);clear hK K
   try simp only[lt,Act.put]
   refine rdy1 (i:=5) rfl (λK hK=>?_);go_simp;go_at_call 14;refine(KA.out _ (fR _).drew).mono ?_;rintro r w1 ⟨fo',fe',it',se',ts',rfl,hs,hf⟩;have HS1:=h_ hs;have Z1:Hid (Frm Nix wr w1):=(fR _).drew.trans hf;clear hs hf;have hb1:=HB.out.frm Z1.out id;obtain⟨y0,y1,y2,y3,y4,y5,y6,y7,y8⟩:=blk9 hb1;have g0:=hb1.frozen 0;have g1:=hb1.frozen 1;have g2:=hb1.frozen 2;have g3:=hb1.frozen 3;have g4:=hb1.frozen 4;have g5:=hb1.frozen 5;have g6:=hb1.frozen 6;have g7:=hb1.frozen 7;have g8:=hb1.frozen 8;unfold stV;dsimp only;refine hK.out _ _ (HC.out _ Z1.out).2 (λhH=>?_);clear hK K
   try simp only[lt,Act.put]
   refine tkq (i:=6) rfl (λ_ _ _ h=>h) hH ?_
   try simp only[lt,Act.put]
   refine tkq (i:=7) rfl (λ_ _ _ h=>h) hH ?_
   try simp only[lt,Act.put]
   refine tkq (i:=8) rfl (λ_ _ _ h=>h) hH ?_
   try simp only[lt,Act.put]
   refine rdy1 (i:=9) rfl (λK hK=>?_);go_simp;refine hK.out _ _ (by obtain⟨c0,c1,c2,c3,c4,c5,c6⟩:=HC.out _ Z1.out |>.2;simp[*,World.cell?_setCell_far]) (λhH=>?_);clear hK K
   try simp only[lt,Act.put]
   refine wpAnyH_done (by kernel_rfl) ?_ _
   all_goals
    obtain⟨we,hwe⟩:∃we,we=w1.setCells (w.heap.size+1) 0 [.int .i64 y.clock,.slice fo'.1 y.fols.length fo'.2,.slice fe'.1 y.fees.length fe'.2,.slice it'.1 y.itms.length it'.2,.slice se'.1 y.seas.length se'.2,.int .i64 y.tFol,.int .i64 y.tFee,.int .i64 y.tItm,.int .i64 y.tSea]:=⟨_,rfl⟩
    have hbe:Blk we (w.heap.size+1) 36 #[.int .i64 y.clock,.slice fo'.1 y.fols.length fo'.2,.slice fe'.1 y.fees.length fe'.2,.slice it'.1 y.itms.length it'.2,.slice se'.1 y.seas.length se'.2,.int .i64 y.tFol,.int .i64 y.tFee,.int .i64 y.tItm,.int .i64 y.tSea]:=by
     have:=Blk.putL [.int .i64 y.clock,.slice fo'.1 y.fols.length fo'.2,.slice fe'.1 y.fees.length fe'.2,.slice it'.1 y.itms.length it'.2,.slice se'.1 y.seas.length se'.2,.int .i64 y.tFol,.int .i64 y.tFee,.int .i64 y.tItm,.int .i64 y.tSea] 0 hb1;rw[putL9] at this;rw[hwe];exact this
    have fe_:Frm (λk=>k=w.heap.size+1) w1 we:=by rw[hwe];exact Frm.setCells _ 0 (Frm.refl _ _) (.inl rfl)
    simp only[World.setCells] at hwe;rw[←hwe];have hFe:Frm Nix w we:=(HF.out.trans Z1.out).next fe_ (λk hk=>.inr (by omega))
    have hSe:StIn we (λk=>w.heap.size+1<k) fo' fe' it' se' ts' y:=(HS1.out.mono (G':=λk=>w.heap.size+1<k) λk hk=>by rcases hk with hk | hk;exact hk;have h1:=hbB;have h2:wr.heap.size≤wr.drew.heap.size:=(fR wr).drew.size;first | omega | (simp at hk;omega)).frm fe_ λk hk e=>by omega
    have hze:Blk we w.heap.size 36 #[.int .i64 0,.slice none 0 0,.slice none 0 0,.slice none 0 0,.slice none 0 0,.int .i64 0,.int .i64 0,.int .i64 0,.int .i64 0]:=(HZb.out.frm Z1.out id).frm fe_ (by simp);have H9:=h_ (And.intro hbe (And.intro hSe (And.intro hze hFe)));clear hwe hbe fe_ hFe hSe hze hb1;go_wp2;go_roundw
    case rel=>exact⟨k+1,fo',fe',it',se',ts',y,by omega,by go_num,HY.out,H9.out⟩
    case measure=>simp[intOf];omega
  ·obtain rfl:k=n:=by omega
   have HTk:Hid (x=foldE st0 l):=by unfold Hid;rw[HX.out,List.take_of_length_le (by rw[HL.out];exact Nat.le_refl _)]
   obtain⟨x0,x1,x2,x3,x4,x5,x6,x7,x8⟩:=blk9 HB.out;obtain⟨y0,y1,y2,y3,y4,y5,y6,y7,y8⟩:=blk9 HZb.out;have g0:=HZb.out.frozen 0;have g1:=HZb.out.frozen 1;have g2:=HZb.out.frozen 2;have g3:=HZb.out.frozen 3;have g4:=HZb.out.frozen 4;have g5:=HZb.out.frozen 5;have g6:=HZb.out.frozen 6;have g7:=HZb.out.frozen 7;have g8:=HZb.out.frozen 8;go_wp2;simp only[peel,bodyOf,Tryz.f15];go_wp2;obtain⟨we,hwe⟩:∃we,we=wr.setCells w.heap.size 0 [.int .i64 x.clock,.slice fo.1 x.fols.length fo.2,.slice fe.1 x.fees.length fe.2,.slice it.1 x.itms.length it.2,.slice se.1 x.seas.length se.2,.int .i64 x.tFol,.int .i64 x.tFee,.int .i64 x.tItm,.int .i64 x.tSea]:=⟨_,rfl⟩
   have hbe:Blk we w.heap.size 36 #[.int .i64 x.clock,.slice fo.1 x.fols.length fo.2,.slice fe.1 x.fees.length fe.2,.slice it.1 x.itms.length it.2,.slice se.1 x.seas.length se.2,.int .i64 x.tFol,.int .i64 x.tFee,.int .i64 x.tItm,.int .i64 x.tSea]:=by
    have:=Blk.putL [.int .i64 x.clock,.slice fo.1 x.fols.length fo.2,.slice fe.1 x.fees.length fe.2,.slice it.1 x.itms.length it.2,.slice se.1 x.seas.length se.2,.int .i64 x.tFol,.int .i64 x.tFee,.int .i64 x.tItm,.int .i64 x.tSea] 0 HZb.out;rw[putL9] at this;rw[hwe];exact this
   have fe_:Frm (λk=>k=w.heap.size) wr we:=by rw[hwe];exact Frm.setCells _ 0 (Frm.refl _ _) (.inl rfl)
   have HFe:Hid (Frm Nix w we):=HF.out.next fe_ (λk hk=>.inr (by omega))
   have HBe:=h_ hbe;have HSe:Hid (StIn we (λk=>w.heap.size≤k) fo fe it se ts x):=(HS.out.frm fe_ λk hk e=>by omega).mono λk hk=>by omega
   simp only[World.setCells] at hwe;rw[←hwe];refine bodyPost_ret (rfold_ret HBe.out rfl) rfl ?_;rw[←HTk.out];exact⟨fo,fe,it,se,ts,rfl,HSe.out,HFe.out⟩
end Go.Proofs.YtaecjmiobllhmaaGreat
