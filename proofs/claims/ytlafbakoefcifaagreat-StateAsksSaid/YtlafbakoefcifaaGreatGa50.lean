/-
  Words for the document's Apply: copies of rows, one cell of a row turned; plain. No condition.
-/
import Derived.Test.YtlafbakoefcifaaGreatGa46
import Derived.Test.YtlafbakoefcifaaGreatGa16
import Derived.Test.YtlafbakoefcifaaGreatGa49
import Derived.Test.YtlafbakoefcifaaGreatGa48
import Derived.Test.YtlafbakoefcifaaGreatGa45
set_option linter.unusedVariables false
set_option linter.unusedSimpArgs false
set_option maxRecDepth 100000
set_option maxHeartbeats 16000000
namespace Go.Proofs.YtlafbakoefcifaaGreat
open Go.RowKit Go.Lib
section
section
variable {α:Type} {g:α→Int} {id:Int}
theorem updI_set(f:α→α):∀ (l:List α) (h:posI g id l<l.length),updI g id f l=l.set (posI g id l) (f l[posI g id l])
 | [],h=>by simp at h
 | a::l,h=>by
   by_cases ha:g a=id
   ·have e:posI g id (a::l)=0:=by simp[posI,List.findIdx_cons,ha]
    simp only[e,updI,if_pos ha];rfl
   ·have e:posI g id (a::l)=posI g id l+1:=by simp[posI,List.findIdx_cons,ha]
    have h':posI g id l<l.length:=by
     rw[e] at h
     simpa using h
    simp only[e,updI,if_neg ha];rw[List.set_cons_succ,updI_set f l h'];rfl
theorem flat_set1{f:α→List Value}{s:Nat}(hs:∀ a,(f a).length=s)(l:List α)(i:Nat)(hi:i<l.length)(y:α)(j:Nat)(hj:j<s)(u:Value)(hy:f y=(f l[i]).set j u):(l.flatMap f).set (i * s+j) u=(l.set i y).flatMap f:=by
 refine List.ext_getElem? fun m=>?_
 have hlen:=flat_len hs l
 have his:i * s+s≤l.length * s:=by
  have h1:(i+1) * s≤l.length * s:=Nat.mul_le_mul_right _ hi
  rwa [Nat.succ_mul] at h1
 rw[flat_set hs y l i hi m,List.getElem?_set]
 by_cases hm:i * s+j=m
 ·subst hm
  rw[if_pos rfl,if_pos (by omega),if_pos (by omega),hy,show i * s+j - i * s=j by omega,List.getElem?_set,if_pos rfl,if_pos (by rw[hs];exact hj)]
 ·rw[if_neg hm]
  by_cases hc:i * s≤m∧m<i * s+s
  ·rw[if_pos hc,hy,List.getElem?_set,if_neg (by omega)]
   have:=flat_at hs l i hi (m - i * s) (by omega);rw[show i * s+(m - i * s)=m by omega] at this;exact this
  ·rw[if_neg hc]
end
theorem copy_run{P:Program}{t e:TypeId}{s bytes:Nat}(E:ElemK P t e s bytes){w1:World}{G:Nat→Prop}{A:Option Addr}{c n:Nat}{xs:List Value}
  (hr:Rd w1 G s A n xs) (h1:∀ u ∈ xs,u.oneCell'=true) (hn:n≤100000) (hby:bytes≤1000):
  ∃ rA rc wa,(∀ ty,(Builtin.append_ #[t,t] ty #[.slice (some ⟨w1.heap.size,0,none⟩) 0 0,.slice A n c]).run P (w1.alloc (.cells #[] e))=.ok (.slice rA n rc) wa)∧RowK e s w1 wa (.slice rA n rc) n xs:=by
 have hb1:(0+n) * bytes≤140737488355328:=by
  have:=Nat.mul_le_mul (show 0+n≤100000 by omega) hby;omega
 have r0:=RowK.empty (w0:=w1) e s (fR w1);obtain⟨v1,wa,q1,r1,-,-⟩:=r0.app E c (hr.frm r0.frm fun _ _=>id) h1 (by unfold maxLen;omega) hb1;rw[Nat.zero_add,List.nil_append] at r1;obtain⟨rA,rc,rfl,-⟩:=r1.shape;exact⟨rA,rc,wa,q1,r1⟩
section
variable {w:World} {G:Nat→Prop} {v fo fe it se:Sl} {ts:List (Sl×Itm)} {x:St} {s n:Nat} {xs:List Value}
theorem Rd.old{A:Option Addr}(h:Rd w G s A n xs):Rd w (fun k=>G k∧k<w.heap.size) s A n xs:=
 ⟨h.1,fun hn=>by
  obtain⟨a,e,h1,h2,h3⟩:=h.2 hn;exact⟨a,e,⟨h1,h2⟩,h2,h3⟩⟩
theorem SlIn.old(h:SlIn w G s v n xs):SlIn w (fun k=>G k∧k<w.heap.size) s v n xs:=⟨h.rd.old,h.nil,h.cap,h.max⟩
theorem StIn.old(h:StIn w G fo fe it se ts x):StIn w (fun k=>G k∧k<w.heap.size) fo fe it se ts x:=⟨h.fols.old,h.fees.old,⟨h.itms.row.old,fun p hp=>(h.itms.tags p hp).old⟩,h.same,h.seas.old⟩
end
end
def ApOut(w:World)(G:Nat→Prop)(y:St)(b:Bool)(r:Ending)(w':World):Prop:=∃ (fo fe it se:Sl) (ts:List (Sl×Itm)),r=.returned (.tuple #[stV fo fe it se y,.bool b])∧StIn w' (fun k=>G k∨w.heap.size≤k) fo fe it se ts y∧Frm Nix w w'
def DoOut(w:World)(G:Nat→Prop)(y:St)(r:Ending)(w':World):Prop:=∃ (fo fe it se:Sl) (ts:List (Sl×Itm)),r=.returned (stV fo fe it se y)∧StIn w' (fun k=>G k∨w.heap.size≤k) fo fe it se ts y∧Frm Nix w w'
theorem rmade_any{w:World}{fo fe it se:Sl}{ts:List (Sl×Itm)}{x:St}{G:Nat→Prop}(hS:StIn w G fo fe it se ts x)(hsm:StSmall x)(k a b n:Int)(s t u:ByteArray)(hk:k=1∨k=3∨k=7∨k=11):
  Calls Tryz.prog 49 #[stV fo fe it se x,evV ⟨k,a,b,n,s,t,u⟩] w (DoOut w G (doS x ⟨k,a,b,n,s,t,u⟩)):=by
 rcases hk with rfl | rfl | rfl | rfl
 ·rw[do1 rfl]
  exact(rmade1_any hS hsm).mono fun r w' ⟨v,h⟩=>⟨v,_,_,_,_,h⟩
 ·rw[do3 rfl]
  exact(rmade3_any hS hsm).mono fun r w' ⟨v,h⟩=>⟨_,v,_,_,_,h⟩
 ·rw[do7 rfl]
  exact(rmade7_any hS hsm).mono fun r w' ⟨v,ts',h⟩=>⟨_,_,v,_,ts',h⟩
 ·rw[do11 rfl]
  exact(rmade11_any hS hsm).mono fun r w' ⟨v,h⟩=>⟨_,_,_,v,_,h⟩
theorem rgone_any{w:World}{fo fe it se:Sl}{ts:List (Sl×Itm)}{x:St}{G:Nat→Prop}(hS:StIn w G fo fe it se ts x)(hsm:StSmall x)(k a b n:Int)(s t u:ByteArray)(hk:k=2∨k=4∨k=12)(hf:fits x ⟨k,a,b,n,s,t,u⟩=true):
  Calls Tryz.prog 50 #[stV fo fe it se x,evV ⟨k,a,b,n,s,t,u⟩] w (DoOut w G (doS x ⟨k,a,b,n,s,t,u⟩)):=by
 rcases hk with rfl | rfl | rfl
 ·rw[do2 rfl]
  exact(rgone2_any hS hsm (by unfold fits at hf;simp at hf;exact hf.2.1)).mono fun r w' ⟨v,h⟩=>⟨v,_,_,_,_,h⟩
 ·rw[do4 rfl]
  exact(rgone4_any hS hsm (by unfold fits at hf;simp at hf;exact hf.2)).mono fun r w' ⟨v,v',ts',h⟩=>⟨_,v,v',_,ts',h⟩
 ·rw[do12 rfl]
  exact(rgone12_any hS hsm (by unfold fits at hf;simp at hf;exact hf.2)).mono fun r w' ⟨v,h⟩=>⟨_,_,_,v,_,h⟩
theorem rapply_ret{W:World}{g:Nat}{tmps:Array Value}{a0 a1 a2 a3 a4 a5 a6 a7 a8 b:Value}(hb:Blk W g 30 #[a0,a1,a2,a3,a4,a5,a6,a7,a8])(h2:tmps.getD 4 undef=.pointer (some ⟨g,0,none⟩))(h3:tmps.getD 5 undef=b):
  (results Tryz.f12 tmps).run Tryz.prog W=.ok (.tuple #[.agg #[a0,a1,a2,a3,a4,a5,a6,a7,a8],b]) W:=by
 obtain⟨c0,c1,c2,c3,c4,c5,c6,c7,c8⟩:=blk9 hb;have h2':tmps[4]?.getD undef=.pointer (some ⟨g,0,none⟩):=by simpa using h2
 have h3':tmps[5]?.getD undef=b:=by simpa using h3
 simp[results,Tryz.results12,h2',h3',go_sem,c0,c1,c2,c3,c4,c5,c6,c7,c8]
theorem rapply_no{w:World}{fo fe it se:Sl}{ts:List (Sl×Itm)}{x:St}{G:Nat→Prop}(hS:StIn w G fo fe it se ts x)(hsm:StSmall x){k a b n:Int}{s t u:ByteArray}(hfit:fits x ⟨k,a,b,n,s,t,u⟩=false):
  Calls Tryz.prog 12 #[stV fo fe it se x,evV ⟨k,a,b,n,s,t,u⟩] w (ApOut w G x false):=by
 obtain⟨w0,hw0,hf0,hb1,hb2,hb3⟩:=box_ser w fo fe it se x k a b n s t u;have HS0:=h_ hS;have HS:=h_ (hS.nix hf0);have HSm:=h_ hsm;have HB1:=h_ hb1;have HB2:=h_ hb2;have HB3:=h_ hb3;have HF0:=h_ hf0;have HW:=h_ hw0;have HFt:=h_ hfit
 have KFi:Hid (Calls Tryz.prog 48 #[stV fo fe it se x,.agg #[.int .i64 k,.int .i64 a,.int .i64 b,.int .i64 n,.string s,.string t,.string u]] w0 fun e w'=>e=.returned (.bool false)∧Frm Nix w0 w'):=by
  have:=rFits_any (hS.nix hf0) hsm ⟨k,a,b,n,s,t,u⟩;rw[hfit] at this;exact this
 clear hS hsm hf0 hb1 hb2 hb3 hw0 hfit;unfold stV evV;dsimp only;go_enter Tryz.func12,Tryz.ntmps12;show Code.wp Tryz.prog (peel 0 (bodyOf Tryz.f12)) _ _ _
 refine peelK (k':=1) fun K hK=>?_
 conv in hdC _=>whnf
 go_wp2;rw[← HW.out];obtain⟨e0,e1,e2,e3,e4,e5,e6⟩:=blk7 HB2.out;obtain⟨x0,x1,x2,x3,x4,x5,x6,x7,x8⟩:=blk9 HB1.out;simp only[peel,bodyOf,Tryz.f12];go_wp2_with (go_at_call 48;refine KFi.out.mono ?_;rintro e w1 ⟨rfl,hf⟩;have Z1:=h_ hf;clear hf;clear x0 x1 x2 x3 x4 x5 x6 x7 x8;obtain⟨x0,x1,x2,x3,x4,x5,x6,x7,x8⟩:=blk9 (HB1.out.frm Z1.out id);have hb4:Blk w1 (w.heap.size+1+1) 30 #[.int .i64 0,.slice none 0 0,.slice none 0 0,.slice none 0 0,.slice none 0 0,.int .i64 0,.int .i64 0,.int .i64 0,.int .i64 0]:=HB3.out.frm Z1.out id;obtain⟨y0,y1,y2,y3,y4,y5,y6,y7,y8⟩:=blk9 hb4;have g0:=hb4.frozen 0;have g1:=hb4.frozen 1;have g2:=hb4.frozen 2;have g3:=hb4.frozen 3;have g4:=hb4.frozen 4;have g5:=hb4.frozen 5;have g6:=hb4.frozen 6;have g7:=hb4.frozen 7;have g8:=hb4.frozen 8);have hb4:Blk w1 (w.heap.size+1+1) 30 #[.int .i64 0,.slice none 0 0,.slice none 0 0,.slice none 0 0,.slice none 0 0,.int .i64 0,.int .i64 0,.int .i64 0,.int .i64 0]:=HB3.out.frm Z1.out id;obtain⟨we,hwe⟩:∃ we,we=w1.setCells (w.heap.size+1+1) 0 [.int .i64 x.clock,.slice fo.1 x.fols.length fo.2,.slice fe.1 x.fees.length fe.2,.slice it.1 x.itms.length it.2,.slice se.1 x.seas.length se.2,.int .i64 x.tFol,.int .i64 x.tFee,.int .i64 x.tItm,.int .i64 x.tSea]:=⟨_,rfl⟩
 have hbe:Blk we (w.heap.size+1+1) 30 #[.int .i64 x.clock,.slice fo.1 x.fols.length fo.2,.slice fe.1 x.fees.length fe.2,.slice it.1 x.itms.length it.2,.slice se.1 x.seas.length se.2,.int .i64 x.tFol,.int .i64 x.tFee,.int .i64 x.tItm,.int .i64 x.tSea]:=by
  have:=Blk.putL [.int .i64 x.clock,.slice fo.1 x.fols.length fo.2,.slice fe.1 x.fees.length fe.2,.slice it.1 x.itms.length it.2,.slice se.1 x.seas.length se.2,.int .i64 x.tFol,.int .i64 x.tFee,.int .i64 x.tItm,.int .i64 x.tSea] 0 hb4;rw[putL9] at this;rw[hwe];exact this
 have fe_:Frm (fun k=>k=w.heap.size+1+1) w1 we:=by rw[hwe];exact Frm.setCells _ 0 (Frm.refl _ _) (.inl rfl)
 have HFin:Hid (Frm Nix w we):=(HF0.out.trans Z1.out).next fe_ (fun k hk=>.inr (by omega))
 have HBe:=h_ hbe;simp only[World.setCells] at hwe;rw[← hwe];refine bodyPost_ret (rapply_ret HBe.out rfl rfl) rfl ?_;exact⟨_,_,_,_,_,rfl,(HS0.out.nix HFin.out).mono fun k hk=>.inl hk,HFin.out⟩
theorem rapply_made{w:World}{fo fe it se:Sl}{ts:List (Sl×Itm)}{x:St}{G:Nat→Prop}(hS:StIn w G fo fe it se ts x)(hsm:StSmall x){k a b n:Int}{s t u:ByteArray}(hk:k=1∨k=3∨k=7∨k=11)(hfit:fits x ⟨k,a,b,n,s,t,u⟩=true):
  Calls Tryz.prog 12 #[stV fo fe it se x,evV ⟨k,a,b,n,s,t,u⟩] w (ApOut w G (doS x ⟨k,a,b,n,s,t,u⟩) true):=by
 obtain⟨w0,hw0,hf0,hb1,hb2,hb3⟩:=box_ser w fo fe it se x k a b n s t u;have KM:Hid (∀ W,Frm Nix w0 W→Calls Tryz.prog 49 #[stV fo fe it se x,.agg #[.int .i64 k,.int .i64 a,.int .i64 b,.int .i64 n,.string s,.string t,.string u]] W (DoOut W (fun k=>G k∧k<w.heap.size) (doS x ⟨k,a,b,n,s,t,u⟩))):=fun W hW=>rmade_any (hS.old.nix (hf0.trans hW)) hsm k a b n s t u hk
 have HS0:=h_ hS;have HS:=h_ (hS.nix hf0);have HSm:=h_ hsm;have HB1:=h_ hb1;have HB2:=h_ hb2;have HB3:=h_ hb3;have HF0:=h_ hf0;have HW:=h_ hw0;have HFt:=h_ hfit
 have KFi:Hid (Calls Tryz.prog 48 #[stV fo fe it se x,.agg #[.int .i64 k,.int .i64 a,.int .i64 b,.int .i64 n,.string s,.string t,.string u]] w0 fun e w'=>e=.returned (.bool true)∧Frm Nix w0 w'):=by
  have:=rFits_any (hS.nix hf0) hsm ⟨k,a,b,n,s,t,u⟩;rw[hfit] at this;exact this
 clear hS hsm hf0 hb1 hb2 hb3 hw0 hfit;unfold stV evV;dsimp only;obtain⟨y,hy⟩:∃ y,doS x ⟨k,a,b,n,s,t,u⟩=y:=⟨_,rfl⟩;rw[hy] at KM ⊢;clear hy;go_enter Tryz.func12,Tryz.ntmps12;show Code.wp Tryz.prog (peel 0 (bodyOf Tryz.f12)) _ _ _
 refine peelK (k':=1) fun K hK=>?_
 conv in hdC _=>whnf
 go_wp2;rw[← HW.out];obtain⟨e0,e1,e2,e3,e4,e5,e6⟩:=blk7 HB2.out;obtain⟨x0,x1,x2,x3,x4,x5,x6,x7,x8⟩:=blk9 HB1.out;refine peelK (k':=2) fun K hK=>?_
 conv in hdC _=>whnf
 go_wp2_with (go_at_call 48;refine KFi.out.mono ?_;rintro e w1 ⟨rfl,hf⟩;have Z1:=h_ hf;clear hf);clear x0 x1 x2 x3 x4 x5 x6 x7 x8 e0 e1 e2 e3 e4 e5 e6;obtain⟨e0,e1,e2,e3,e4,e5,e6⟩:=blk7 (HB2.out.frm Z1.out id);obtain⟨x0,x1,x2,x3,x4,x5,x6,x7,x8⟩:=blk9 (HB1.out.frm Z1.out id);simp only[peel,bodyOf,Tryz.f12];rcases hk with rfl | rfl | rfl | rfl
 all_goals
  go_wp2_with (go_at_call 49;refine(KM.out _ Z1.out).mono ?_;rintro r w2 ⟨fo',fe',it',se',ts',rfl,hs,hf⟩;have HY:=h_ hs;have Z2:=h_ hf;clear hs hf;have hb4:Blk w2 (w.heap.size+1+1) 30 #[.int .i64 0,.slice none 0 0,.slice none 0 0,.slice none 0 0,.slice none 0 0,.int .i64 0,.int .i64 0,.int .i64 0,.int .i64 0]:=HB3.out.frm (Z1.out.trans Z2.out) id;obtain⟨y0,y1,y2,y3,y4,y5,y6,y7,y8⟩:=blk9 hb4;have g0:=hb4.frozen 0;have g1:=hb4.frozen 1;have g2:=hb4.frozen 2;have g3:=hb4.frozen 3;have g4:=hb4.frozen 4;have g5:=hb4.frozen 5;have g6:=hb4.frozen 6;have g7:=hb4.frozen 7;have g8:=hb4.frozen 8;unfold stV);have hb4:Blk w2 (w.heap.size+1+1) 30 #[.int .i64 0,.slice none 0 0,.slice none 0 0,.slice none 0 0,.slice none 0 0,.int .i64 0,.int .i64 0,.int .i64 0,.int .i64 0]:=HB3.out.frm (Z1.out.trans Z2.out) id;obtain⟨we,hwe⟩:∃ we,we=w2.setCells (w.heap.size+1+1) 0 [.int .i64 y.clock,.slice fo'.1 y.fols.length fo'.2,.slice fe'.1 y.fees.length fe'.2,.slice it'.1 y.itms.length it'.2,.slice se'.1 y.seas.length se'.2,.int .i64 y.tFol,.int .i64 y.tFee,.int .i64 y.tItm,.int .i64 y.tSea]:=⟨_,rfl⟩
  have hbe:Blk we (w.heap.size+1+1) 30 #[.int .i64 y.clock,.slice fo'.1 y.fols.length fo'.2,.slice fe'.1 y.fees.length fe'.2,.slice it'.1 y.itms.length it'.2,.slice se'.1 y.seas.length se'.2,.int .i64 y.tFol,.int .i64 y.tFee,.int .i64 y.tItm,.int .i64 y.tSea]:=by
   have:=Blk.putL [.int .i64 y.clock,.slice fo'.1 y.fols.length fo'.2,.slice fe'.1 y.fees.length fe'.2,.slice it'.1 y.itms.length it'.2,.slice se'.1 y.seas.length se'.2,.int .i64 y.tFol,.int .i64 y.tFee,.int .i64 y.tItm,.int .i64 y.tSea] 0 hb4;rw[putL9] at this;rw[hwe];exact this
  have fe_:Frm (fun k=>k=w.heap.size+1+1) w2 we:=by rw[hwe];exact Frm.setCells _ 0 (Frm.refl _ _) (.inl rfl)
  have HFin:Hid (Frm Nix w we):=((HF0.out.trans Z1.out).trans Z2.out).next fe_ (fun k hk=>.inr (by omega))
  have HBe:=h_ hbe
  have HYe:Hid (StIn we (fun k=>G k∨w.heap.size≤k) fo' fe' it' se' ts' y):=by
   have h1:=(HF0.out.trans Z1.out).size;have h2:=HB3.out.frm Z1.out id |>.lt
   refine(HY.out.frm fe_ ?_).mono ?_
   ·exact fun k hk e=>by rcases hk with ⟨-,hk⟩ | hk<;>omega
   ·exact fun k hk=>hk.elim (fun h=>.inl h.1) fun h=>.inr (by omega)
  simp only[World.setCells] at hwe;rw[← hwe];refine bodyPost_ret (rapply_ret HBe.out rfl rfl) rfl ?_;exact⟨_,_,_,_,_,rfl,HYe.out,HFin.out⟩
theorem rapply_gone{w:World}{fo fe it se:Sl}{ts:List (Sl×Itm)}{x:St}{G:Nat→Prop}(hS:StIn w G fo fe it se ts x)(hsm:StSmall x){k a b n:Int}{s t u:ByteArray}(hk:k=2∨k=4∨k=12)(hfit:fits x ⟨k,a,b,n,s,t,u⟩=true):
  Calls Tryz.prog 12 #[stV fo fe it se x,evV ⟨k,a,b,n,s,t,u⟩] w (ApOut w G (doS x ⟨k,a,b,n,s,t,u⟩) true):=by
 obtain⟨w0,hw0,hf0,hb1,hb2,hb3⟩:=box_ser w fo fe it se x k a b n s t u;have KM:Hid (∀ W,Frm Nix w0 W→Calls Tryz.prog 50 #[stV fo fe it se x,.agg #[.int .i64 k,.int .i64 a,.int .i64 b,.int .i64 n,.string s,.string t,.string u]] W (DoOut W (fun k=>G k∧k<w.heap.size) (doS x ⟨k,a,b,n,s,t,u⟩))):=fun W hW=>rgone_any (hS.old.nix (hf0.trans hW)) hsm k a b n s t u hk hfit
 have HS0:=h_ hS;have HS:=h_ (hS.nix hf0);have HSm:=h_ hsm;have HB1:=h_ hb1;have HB2:=h_ hb2;have HB3:=h_ hb3;have HF0:=h_ hf0;have HW:=h_ hw0;have HFt:=h_ hfit
 have KFi:Hid (Calls Tryz.prog 48 #[stV fo fe it se x,.agg #[.int .i64 k,.int .i64 a,.int .i64 b,.int .i64 n,.string s,.string t,.string u]] w0 fun e w'=>e=.returned (.bool true)∧Frm Nix w0 w'):=by
  have:=rFits_any (hS.nix hf0) hsm ⟨k,a,b,n,s,t,u⟩;rw[hfit] at this;exact this
 clear hS hsm hf0 hb1 hb2 hb3 hw0 hfit;unfold stV evV;dsimp only;obtain⟨y,hy⟩:∃ y,doS x ⟨k,a,b,n,s,t,u⟩=y:=⟨_,rfl⟩;rw[hy] at KM ⊢;clear hy;go_enter Tryz.func12,Tryz.ntmps12;show Code.wp Tryz.prog (peel 0 (bodyOf Tryz.f12)) _ _ _
 refine peelK (k':=1) fun K hK=>?_
 conv in hdC _=>whnf
 go_wp2;rw[← HW.out];obtain⟨e0,e1,e2,e3,e4,e5,e6⟩:=blk7 HB2.out;obtain⟨x0,x1,x2,x3,x4,x5,x6,x7,x8⟩:=blk9 HB1.out;refine peelK (k':=2) fun K hK=>?_
 conv in hdC _=>whnf
 go_wp2_with (go_at_call 48;refine KFi.out.mono ?_;rintro e w1 ⟨rfl,hf⟩;have Z1:=h_ hf;clear hf);clear x0 x1 x2 x3 x4 x5 x6 x7 x8 e0 e1 e2 e3 e4 e5 e6;obtain⟨e0,e1,e2,e3,e4,e5,e6⟩:=blk7 (HB2.out.frm Z1.out id);obtain⟨x0,x1,x2,x3,x4,x5,x6,x7,x8⟩:=blk9 (HB1.out.frm Z1.out id);simp only[peel,bodyOf,Tryz.f12];rcases hk with rfl | rfl | rfl
 all_goals
  go_wp2_with (go_at_call 50;refine(KM.out _ Z1.out).mono ?_;rintro r w2 ⟨fo',fe',it',se',ts',rfl,hs,hf⟩;have HY:=h_ hs;have Z2:=h_ hf;clear hs hf;have hb4:Blk w2 (w.heap.size+1+1) 30 #[.int .i64 0,.slice none 0 0,.slice none 0 0,.slice none 0 0,.slice none 0 0,.int .i64 0,.int .i64 0,.int .i64 0,.int .i64 0]:=HB3.out.frm (Z1.out.trans Z2.out) id;obtain⟨y0,y1,y2,y3,y4,y5,y6,y7,y8⟩:=blk9 hb4;have g0:=hb4.frozen 0;have g1:=hb4.frozen 1;have g2:=hb4.frozen 2;have g3:=hb4.frozen 3;have g4:=hb4.frozen 4;have g5:=hb4.frozen 5;have g6:=hb4.frozen 6;have g7:=hb4.frozen 7;have g8:=hb4.frozen 8;unfold stV);have hb4:Blk w2 (w.heap.size+1+1) 30 #[.int .i64 0,.slice none 0 0,.slice none 0 0,.slice none 0 0,.slice none 0 0,.int .i64 0,.int .i64 0,.int .i64 0,.int .i64 0]:=HB3.out.frm (Z1.out.trans Z2.out) id;obtain⟨we,hwe⟩:∃ we,we=w2.setCells (w.heap.size+1+1) 0 [.int .i64 y.clock,.slice fo'.1 y.fols.length fo'.2,.slice fe'.1 y.fees.length fe'.2,.slice it'.1 y.itms.length it'.2,.slice se'.1 y.seas.length se'.2,.int .i64 y.tFol,.int .i64 y.tFee,.int .i64 y.tItm,.int .i64 y.tSea]:=⟨_,rfl⟩
  have hbe:Blk we (w.heap.size+1+1) 30 #[.int .i64 y.clock,.slice fo'.1 y.fols.length fo'.2,.slice fe'.1 y.fees.length fe'.2,.slice it'.1 y.itms.length it'.2,.slice se'.1 y.seas.length se'.2,.int .i64 y.tFol,.int .i64 y.tFee,.int .i64 y.tItm,.int .i64 y.tSea]:=by
   have:=Blk.putL [.int .i64 y.clock,.slice fo'.1 y.fols.length fo'.2,.slice fe'.1 y.fees.length fe'.2,.slice it'.1 y.itms.length it'.2,.slice se'.1 y.seas.length se'.2,.int .i64 y.tFol,.int .i64 y.tFee,.int .i64 y.tItm,.int .i64 y.tSea] 0 hb4;rw[putL9] at this;rw[hwe];exact this
  have fe_:Frm (fun k=>k=w.heap.size+1+1) w2 we:=by rw[hwe];exact Frm.setCells _ 0 (Frm.refl _ _) (.inl rfl)
  have HFin:Hid (Frm Nix w we):=((HF0.out.trans Z1.out).trans Z2.out).next fe_ (fun k hk=>.inr (by omega))
  have HBe:=h_ hbe
  have HYe:Hid (StIn we (fun k=>G k∨w.heap.size≤k) fo' fe' it' se' ts' y):=by
   have h1:=(HF0.out.trans Z1.out).size;have h2:=HB3.out.frm Z1.out id |>.lt
   refine(HY.out.frm fe_ ?_).mono ?_
   ·exact fun k hk e=>by rcases hk with ⟨-,hk⟩ | hk<;>omega
   ·exact fun k hk=>hk.elim (fun h=>.inl h.1) fun h=>.inr (by omega)
  simp only[World.setCells] at hwe;rw[← hwe];refine bodyPost_ret (rapply_ret HBe.out rfl rfl) rfl ?_;exact⟨_,_,_,_,_,rfl,HYe.out,HFin.out⟩
theorem rapply13{w:World}{fo fe it se:Sl}{ts:List (Sl×Itm)}{x:St}{G:Nat→Prop}(hS:StIn w G fo fe it se ts x)(hsm:StSmall x){a b n:Int}{s t u:ByteArray}(hfit:fits x ⟨13,a,b,n,s,t,u⟩=true):
  Calls Tryz.prog 12 #[stV fo fe it se x,evV ⟨13,a,b,n,s,t,u⟩] w (ApOut w G (doS x ⟨13,a,b,n,s,t,u⟩) true):=by
 obtain⟨w0,hw0,hf0,hb1,hb2,hb3⟩:=box_ser w fo fe it se x 13 a b n s t u;have HS0:=h_ hS;have HS:=h_ (hS.nix hf0);have HSm:=h_ hsm;have HB1:=h_ hb1;have HB2:=h_ hb2;have HB3:=h_ hb3;have HF0:=h_ hf0;have HW:=h_ hw0;have HFt:=h_ hfit
 have KFi:Hid (Calls Tryz.prog 48 #[stV fo fe it se x,.agg #[.int .i64 13,.int .i64 a,.int .i64 b,.int .i64 n,.string s,.string t,.string u]] w0 fun e w'=>e=.returned (.bool true)∧Frm Nix w0 w'):=by
  have:=rFits_any (hS.nix hf0) hsm ⟨13,a,b,n,s,t,u⟩;rw[hfit] at this;exact this
 clear hS hsm hf0 hb1 hb2 hb3 hw0 hfit;unfold stV evV;dsimp only;go_enter Tryz.func12,Tryz.ntmps12;show Code.wp Tryz.prog (peel 0 (bodyOf Tryz.f12)) _ _ _
 refine peelK (k':=1) fun K hK=>?_
 conv in hdC _=>whnf
 go_wp2;rw[← HW.out];obtain⟨e0,e1,e2,e3,e4,e5,e6⟩:=blk7 HB2.out;obtain⟨x0,x1,x2,x3,x4,x5,x6,x7,x8⟩:=blk9 HB1.out;refine peelK (k':=2) fun K hK=>?_
 conv in hdC _=>whnf
 go_wp2_with (go_at_call 48;refine KFi.out.mono ?_;rintro e w1 ⟨rfl,hf⟩;have Z1:=h_ hf;clear hf);clear x0 x1 x2 x3 x4 x5 x6 x7 x8 e0 e1 e2 e3 e4 e5 e6;obtain⟨e0,e1,e2,e3,e4,e5,e6⟩:=blk7 (HB2.out.frm Z1.out id);obtain⟨x0,x1,x2,x3,x4,x5,x6,x7,x8⟩:=blk9 (HB1.out.frm Z1.out id);simp only[peel,bodyOf,Tryz.f12];have gz:=(HB1.out.frm Z1.out id).frozen 0;obtain⟨wd,hwd⟩:∃ wd,wd=w1.setCell ⟨w.heap.size,0,none⟩ (.int .i64 n):=⟨_,rfl⟩;have hbd:Blk wd w.heap.size 30 #[.int .i64 n,.slice fo.1 x.fols.length fo.2,.slice fe.1 x.fees.length fe.2,.slice it.1 x.itms.length it.2,.slice se.1 x.seas.length se.2,.int .i64 x.tFol,.int .i64 x.tFee,.int .i64 x.tItm,.int .i64 x.tSea]:=by rw[hwd];exact((HB1.out.frm Z1.out id).set_ 0 _)
 have fd:Frm (fun k=>k=w.heap.size) w1 wd:=by rw[hwd];exact(Frm.refl (fun k=>k=w.heap.size) w1).setCell (.inl rfl) _
 obtain⟨z0,z1,z2,z3,z4,z5,z6,z7,z8⟩:=blk9 hbd;have hb4:Blk wd (w.heap.size+1+1) 30 #[.int .i64 0,.slice none 0 0,.slice none 0 0,.slice none 0 0,.slice none 0 0,.int .i64 0,.int .i64 0,.int .i64 0,.int .i64 0]:=(HB3.out.frm Z1.out id).frm fd (by simp);obtain⟨y0,y1,y2,y3,y4,y5,y6,y7,y8⟩:=blk9 hb4;have g0:=hb4.frozen 0;have g1:=hb4.frozen 1;have g2:=hb4.frozen 2;have g3:=hb4.frozen 3;have g4:=hb4.frozen 4;have g5:=hb4.frozen 5;have g6:=hb4.frozen 6;have g7:=hb4.frozen 7;have g8:=hb4.frozen 8;rw[hwd] at z0 z1 z2 z3 z4 z5 z6 z7 z8 y0 y1 y2 y3 y4 y5 y6 y7 y8 g0 g1 g2 g3 g4 g5 g6 g7 g8;go_wp2;rw[← hwd];obtain⟨we,hwe⟩:∃ we,we=wd.setCells (w.heap.size+1+1) 0 [.int .i64 n,.slice fo.1 x.fols.length fo.2,.slice fe.1 x.fees.length fe.2,.slice it.1 x.itms.length it.2,.slice se.1 x.seas.length se.2,.int .i64 x.tFol,.int .i64 x.tFee,.int .i64 x.tItm,.int .i64 x.tSea]:=⟨_,rfl⟩
 have hbe:Blk we (w.heap.size+1+1) 30 #[.int .i64 n,.slice fo.1 x.fols.length fo.2,.slice fe.1 x.fees.length fe.2,.slice it.1 x.itms.length it.2,.slice se.1 x.seas.length se.2,.int .i64 x.tFol,.int .i64 x.tFee,.int .i64 x.tItm,.int .i64 x.tSea]:=by
  have:=Blk.putL [.int .i64 n,.slice fo.1 x.fols.length fo.2,.slice fe.1 x.fees.length fe.2,.slice it.1 x.itms.length it.2,.slice se.1 x.seas.length se.2,.int .i64 x.tFol,.int .i64 x.tFee,.int .i64 x.tItm,.int .i64 x.tSea] 0 hb4;rw[putL9] at this;rw[hwe];exact this
 have fe_:Frm (fun k=>k=w.heap.size+1+1) wd we:=by rw[hwe];exact Frm.setCells _ 0 (Frm.refl _ _) (.inl rfl)
 have HFin:Hid (Frm Nix w we):=((HF0.out.trans Z1.out).next fd (fun k hk=>.inr (by omega))).next fe_ (fun k hk=>.inr (by omega))
 have HBe:=h_ hbe;simp only[World.setCells] at hwe;rw[← hwe];refine bodyPost_ret (rapply_ret HBe.out rfl rfl) rfl ?_;exact⟨_,_,_,_,_,rfl,⟨(HS0.out.nix HFin.out).fols.mono fun k hk=>.inl hk,(HS0.out.nix HFin.out).fees.mono fun k hk=>.inl hk,(HS0.out.nix HFin.out).itms.mono fun k hk=>.inl hk,HS0.out.same,(HS0.out.nix HFin.out).seas.mono fun k hk=>.inl hk⟩,HFin.out⟩
theorem rapply5{w:World}{fo fe it se:Sl}{ts:List (Sl×Itm)}{x:St}{G:Nat→Prop}(hS:StIn w G fo fe it se ts x)(hsm:StSmall x){a b n:Int}{s t u:ByteArray}(hfit:fits x ⟨5,a,b,n,s,t,u⟩=true):
  Calls Tryz.prog 12 #[stV fo fe it se x,evV ⟨5,a,b,n,s,t,u⟩] w (ApOut w G (doS x ⟨5,a,b,n,s,t,u⟩) true):=by
 obtain⟨w0,hw0,hf0,hb1,hb2,hb3⟩:=box_ser w fo fe it se x 5 a b n s t u;have hcap:=hsm.fees
 have hi:isI Fee.id a x.fees=true:=by
  unfold fits at hfit;simp at hfit;exact hfit.2
 obtain⟨p,hpl,hp,-,-,hpi⟩:=posR_at hi;have HS0:=h_ hS;have HS:=h_ (hS.nix hf0);have HSm:=h_ hsm;have HB1:=h_ hb1;have HB2:=h_ hb2;have HB3:=h_ hb3;have HF0:=h_ hf0;have HW:=h_ hw0;have HFt:=h_ hfit
 have KFi:Hid (Calls Tryz.prog 48 #[stV fo fe it se x,.agg #[.int .i64 5,.int .i64 a,.int .i64 b,.int .i64 n,.string s,.string t,.string u]] w0 fun e w'=>e=.returned (.bool true)∧Frm Nix w0 w'):=by
  have:=rFits_any (hS.nix hf0) hsm ⟨5,a,b,n,s,t,u⟩;rw[hfit] at this;exact this
 clear hS hsm hf0 hb1 hb2 hb3 hw0 hfit;unfold stV evV;dsimp only;rw[do5 rfl];dsimp only;obtain⟨A,c⟩:=fe;dsimp only at HS HS0 HB1 HW KFi ⊢;go_enter Tryz.func12,Tryz.ntmps12;show Code.wp Tryz.prog (peel 0 (bodyOf Tryz.f12)) _ _ _
 refine peelK (k':=1) fun K hK=>?_
 conv in hdC _=>whnf
 go_wp2;rw[← HW.out];obtain⟨e0,e1,e2,e3,e4,e5,e6⟩:=blk7 HB2.out;obtain⟨x0,x1,x2,x3,x4,x5,x6,x7,x8⟩:=blk9 HB1.out;refine peelK (k':=2) fun K hK=>?_
 conv in hdC _=>whnf
 go_wp2_with (go_at_call 48;refine KFi.out.mono ?_;rintro e w1 ⟨rfl,hf⟩;have Z1:=h_ hf;clear hf);clear x0 x1 x2 x3 x4 x5 x6 x7 x8 e0 e1 e2 e3 e4 e5 e6;obtain⟨e0,e1,e2,e3,e4,e5,e6⟩:=blk7 (HB2.out.frm Z1.out id);obtain⟨x0,x1,x2,x3,x4,x5,x6,x7,x8⟩:=blk9 (HB1.out.frm Z1.out id);have hs1:=(HS.out.nix Z1.out).fees;obtain⟨rA,rc,wa,hrun0,hrow⟩:=copy_run elemFee (c:=c) hs1.rd (fee_one x.fees) (by exact hcap) (by omega);obtain⟨A2,c2,hsh,-,-,-,hblk⟩:=hrow.shape;injection hsh with hsA hsn hsc;subst hsA hsc;have hbs1:=HB1.out.frm Z1.out id;have hbs2:=HB2.out.frm Z1.out id;have hbs3:=HB3.out.frm Z1.out id;have h4l:=hbs3.lt;have fa:=hrow.frm;have hca:wa.cell? ⟨w.heap.size,2,none⟩=_:=((hbs1.frm fa id).cell 2).trans rfl;have hcf:=(hbs1.frm fa id).frozen 2;have hma:(w1.alloc (.cells #[] 51)).cell? ⟨w.heap.size,2,none⟩=some (.slice A x.fees.length c):=((hbs1.frm ((fR w1).alloc _) id).cell 2).trans rfl;have hnw:=World.new_ne w1 ⟨w.heap.size,2,none⟩ x2;skip;obtain⟨wd,hwd⟩:∃ wd,wd=wa.setCell ⟨w.heap.size,2,none⟩ (.slice rA x.fees.length rc):=⟨_,rfl⟩;have fd:Frm (fun k=>k=w.heap.size) wa wd:=by rw[hwd];exact(Frm.refl (fun k=>k=w.heap.size) wa).setCell (.inl rfl) _
 have HFd:Hid (Frm Nix w wd):=((HF0.out.trans Z1.out).trans fa).next fd (fun k hk=>.inr (by omega))
 have hob:∀ k,(Value.slice rA x.fees.length rc).ownBlock=some k→w1.heap.size≤k:=fun k hk=>by
  rcases rA with _ | ad
  ·simp[Value.ownBlock] at hk
  ·have:=(hblk ad rfl).2.2.1
   simp[Value.ownBlock] at hk;omega
 have HRw:Hid (RowK 51 4 w wd (.slice rA x.fees.length rc) x.fees.length (x.fees.flatMap Fee.cells)):=(hrow.since (HF0.out.trans Z1.out)).far fd (fun k hk=>by omega) (fun k hk e=>by have:=hob k hk;omega);have HBd:Hid (Blk wd w.heap.size 30 #[.int .i64 x.clock,.slice fo.1 x.fols.length fo.2,.slice rA x.fees.length rc,.slice it.1 x.itms.length it.2,.slice se.1 x.seas.length se.2,.int .i64 x.tFol,.int .i64 x.tFee,.int .i64 x.tItm,.int .i64 x.tSea]):=by unfold Hid;rw[hwd];exact((hbs1.frm fa id).set_ 2 _)
 have HBv:Hid (Blk wd (w.heap.size+1) 38 #[.int .i64 5,.int .i64 a,.int .i64 b,.int .i64 n,.string s,.string t,.string u]):=(hbs2.frm fa id).frm fd (by simp);have HB4:Hid (Blk wd (w.heap.size+1+1) 30 #[.int .i64 0,.slice none 0 0,.slice none 0 0,.slice none 0 0,.slice none 0 0,.int .i64 0,.int .i64 0,.int .i64 0,.int .i64 0]):=(hbs3.frm fa id).frm fd (by simp)
 have HSd:Hid (StIn wd (fun k=>G k∨w.heap.size≤k) fo (rA,rc) it se ts x):=by
  have h0:=(HS0.out.nix HFd.out).mono (G':=fun k=>G k∨w.heap.size≤k) fun k hk=>.inl hk
  have h1:=hrow.sl.frm fd (fun k hk e=>by omega);exact⟨h0.fols,h1.mono fun k hk=>.inr (by omega),h0.itms,h0.same,h0.seas⟩
 obtain⟨old,hx0⟩:∃ old,(x.fees.flatMap Fee.cells)[p * 4+3]? =some old:=⟨_,by rw[flat_at Fee.clen x.fees p hpl 3 (by decide)];rfl⟩
 have KF:Hid (Calls Tryz.prog 27 #[.agg #[.int .i64 x.clock,.slice fo.1 x.fols.length fo.2,.slice rA x.fees.length rc,.slice it.1 x.itms.length it.2,.slice se.1 x.seas.length se.2,.int .i64 x.tFol,.int .i64 x.tFee,.int .i64 x.tItm,.int .i64 x.tSea],.int .i64 a] wd fun e w'=>e=.returned (.int .i64 p)∧Frm Nix wd w'):=by
  have:=rFeed_any HSd.out HSm.out a;rw[hp] at this;exact this
 obtain⟨z0,z1,z2,z3,z4,z5,z6,z7,z8⟩:=blk9 HBd.out;obtain⟨d0,d1,d2,d3,d4,d5,d6⟩:=blk7 HBv.out;have HWd:=h_ hwd;rw[hwd] at z0 z1 z2 z3 z4 z5 z6 z7 z8 d0 d1 d2 d3 d4 d5 d6;have HOb:=h_ hob;have HB3l:=h_ h4l;clear hs1 hrow hblk hbs1 hbs2 hbs3 h4l fa fd hob;simp only[peel,bodyOf,Tryz.f12]
 go_wp2_with (first
  | (at_builtin;refine wpList_append_run hrun0 rfl _ _ rfl rfl rfl ?_)
  | (go_at_call 27
     rw[← HWd.out];refine KF.out.mono ?_;rintro r w2 ⟨rfl,hf⟩;have Z2:=h_ hf;have HR2:Hid (RowK 51 4 w w2 (.slice rA x.fees.length rc) x.fees.length (x.fees.flatMap Fee.cells)):=HRw.out.more hf;obtain⟨z0,z1,z2,z3,z4,z5,z6,z7,z8⟩:=blk9 (HBd.out.frm hf id);obtain⟨d0,d1,d2,d3,d4,d5,d6⟩:=blk7 (HBv.out.frm hf id);obtain⟨y0,y1,y2,y3,y4,y5,y6,y7,y8⟩:=blk9 (HB4.out.frm hf id);have g0:=(HB4.out.frm hf id).frozen 0;have g1:=(HB4.out.frm hf id).frozen 1;have g2:=(HB4.out.frm hf id).frozen 2;have g3:=(HB4.out.frm hf id).frozen 3;have g4:=(HB4.out.frm hf id).frozen 4;have g5:=(HB4.out.frm hf id).frozen 5;have g6:=(HB4.out.frm hf id).frozen 6;have g7:=(HB4.out.frm hf id).frozen 7;have g8:=(HB4.out.frm hf id).frozen 8;obtain⟨g,hgA,hgc,hgf,hset,hgl,hgl2⟩:=HR2.out.set_ (p * 4+3) (by omega) (.string t);rw[hx0] at hgc;have hgo:w.heap.size+1+1<g:=by have h1:=HOb.out g (by rw[hgA];rfl);have h2:=HB3l.out;omega
     have hg0:¬g=w.heap.size:=by omega
     have hg1:¬g=w.heap.size+1:=by omega
     have hg2:¬g=w.heap.size+1+1:=by omega
     have hg0':¬w.heap.size=g:=by omega
     have hg1':¬w.heap.size+1=g:=by omega
     have hg2':¬w.heap.size+1+1=g:=by omega
     have HSet:=h_ hset;obtain⟨s0,s1,s2,s3,s4,s5,s6,s7,s8⟩:=blk9 ((HBd.out.frm hf id).far (p:=⟨g,p * 4+3,none⟩) hg0' (.string t));have hb4f:=(HB4.out.frm hf id).far (p:=⟨g,p * 4+3,none⟩) hg2' (.string t);obtain⟨t0,t1,t2,t3,t4,t5,t6,t7,t8⟩:=blk9 hb4f;have q0:=hb4f.frozen 0;have q1:=hb4f.frozen 1;have q2:=hb4f.frozen 2;have q3:=hb4f.frozen 3;have q4:=hb4f.frozen 4;have q5:=hb4f.frozen 5;have q6:=hb4f.frozen 6;have q7:=hb4f.frozen 7;have q8:=hb4f.frozen 8;clear hb4f;subst hgA;clear hf hset))
 obtain⟨wf,hwf⟩:∃ wf,wf=w2.setCell ⟨g,p * 4+3,none⟩ (.string t):=⟨_,rfl⟩;have ff:Frm (fun k=>k=g) w2 wf:=by rw[hwf];exact(Frm.refl (fun k=>k=g) w2).setCell (.inl rfl) _
 have hb4:Blk wf (w.heap.size+1+1) 30 #[.int .i64 0,.slice none 0 0,.slice none 0 0,.slice none 0 0,.slice none 0 0,.int .i64 0,.int .i64 0,.int .i64 0,.int .i64 0]:=(HB4.out.frm Z2.out id).frm ff (by simpa using hg2');rw[← hwf] at HSet;obtain⟨we,hwe⟩:∃ we,we=wf.setCells (w.heap.size+1+1) 0 [.int .i64 x.clock,.slice fo.1 x.fols.length fo.2,.slice (some ⟨g,0,none⟩) x.fees.length rc,.slice it.1 x.itms.length it.2,.slice se.1 x.seas.length se.2,.int .i64 x.tFol,.int .i64 x.tFee,.int .i64 x.tItm,.int .i64 x.tSea]:=⟨_,rfl⟩
 have hbe:Blk we (w.heap.size+1+1) 30 #[.int .i64 x.clock,.slice fo.1 x.fols.length fo.2,.slice (some ⟨g,0,none⟩) x.fees.length rc,.slice it.1 x.itms.length it.2,.slice se.1 x.seas.length se.2,.int .i64 x.tFol,.int .i64 x.tFee,.int .i64 x.tItm,.int .i64 x.tSea]:=by
  have:=Blk.putL [.int .i64 x.clock,.slice fo.1 x.fols.length fo.2,.slice (some ⟨g,0,none⟩) x.fees.length rc,.slice it.1 x.itms.length it.2,.slice se.1 x.seas.length se.2,.int .i64 x.tFol,.int .i64 x.tFee,.int .i64 x.tItm,.int .i64 x.tSea] 0 hb4;rw[putL9] at this;rw[hwe];exact this
 have fe_:Frm (fun k=>k=w.heap.size+1+1) wf we:=by rw[hwe];exact Frm.setCells _ 0 (Frm.refl _ _) (.inl rfl)
 have HFin:Hid (Frm Nix w we):=((HFd.out.trans Z2.out).next ff (fun k hk=>.inr (by omega))).next fe_ (fun k hk=>.inr (by omega))
 have HBe:=h_ hbe
 have hrow:SlIn we (fun k=>w.heap.size≤k) 4 (some ⟨g,0,none⟩,rc) x.fees.length ((x.fees.flatMap Fee.cells).set (p * 4+3) (.string t)):=by
  have hr3:=HSet.out.far fe_ (fun k hk=>by omega) (fun k hk e=>by simp[Value.ownBlock] at hk;omega);exact hr3.sl
 have HL:Hid ((updI Fee.id a (fun f=>{f with title:=t}) x.fees)=x.fees.set p ((fun f=>{f with title:=t}) x.fees[p])):=by
  unfold Hid;have:=@updI_set _ Fee.id a (fun f=>{f with title:=t}) x.fees (by rw[hpi];exact hpl);simp only[hpi] at this;exact this
 rw[flat_set1 Fee.clen x.fees p hpl ((fun f=>{f with title:=t}) x.fees[p]) 3 (by decide) _ rfl,← HL.out] at hrow;have hln:(updI Fee.id a (fun f=>{f with title:=t}) x.fees).length=x.fees.length:=by rw[HL.out,List.length_set]
 rw[← hln] at hrow;simp only[World.setCells] at hwe;rw[hwf] at hwe;rw[← hwe];refine bodyPost_ret (rapply_ret HBe.out rfl rfl) rfl ?_;exact⟨fo,(some ⟨g,0,none⟩,rc),it,se,ts,by rw[← hln];rfl,⟨(HS0.out.nix HFin.out).fols.mono fun k hk=>.inl hk,hrow.mono fun k hk=>.inr hk,(HS0.out.nix HFin.out).itms.mono fun k hk=>.inl hk,HS0.out.same,(HS0.out.nix HFin.out).seas.mono fun k hk=>.inl hk⟩,HFin.out⟩
theorem rapply6{w:World}{fo fe it se:Sl}{ts:List (Sl×Itm)}{x:St}{G:Nat→Prop}(hS:StIn w G fo fe it se ts x)(hsm:StSmall x){a b n:Int}{s t u:ByteArray}(hfit:fits x ⟨6,a,b,n,s,t,u⟩=true):
  Calls Tryz.prog 12 #[stV fo fe it se x,evV ⟨6,a,b,n,s,t,u⟩] w (ApOut w G (doS x ⟨6,a,b,n,s,t,u⟩) true):=by
 obtain⟨w0,hw0,hf0,hb1,hb2,hb3⟩:=box_ser w fo fe it se x 6 a b n s t u;have hcap:=hsm.fees
 have hi:isI Fee.id a x.fees=true:=by
  unfold fits at hfit;simp at hfit;exact hfit.2.1
 obtain⟨p,hpl,hp,-,-,hpi⟩:=posR_at hi;have HS0:=h_ hS;have HS:=h_ (hS.nix hf0);have HSm:=h_ hsm;have HB1:=h_ hb1;have HB2:=h_ hb2;have HB3:=h_ hb3;have HF0:=h_ hf0;have HW:=h_ hw0;have HFt:=h_ hfit
 have KFi:Hid (Calls Tryz.prog 48 #[stV fo fe it se x,.agg #[.int .i64 6,.int .i64 a,.int .i64 b,.int .i64 n,.string s,.string t,.string u]] w0 fun e w'=>e=.returned (.bool true)∧Frm Nix w0 w'):=by
  have:=rFits_any (hS.nix hf0) hsm ⟨6,a,b,n,s,t,u⟩;rw[hfit] at this;exact this
 clear hS hsm hf0 hb1 hb2 hb3 hw0 hfit;unfold stV evV;dsimp only;rw[do6 rfl];dsimp only;obtain⟨A,c⟩:=fe;dsimp only at HS HS0 HB1 HW KFi ⊢;go_enter Tryz.func12,Tryz.ntmps12;show Code.wp Tryz.prog (peel 0 (bodyOf Tryz.f12)) _ _ _
 refine peelK (k':=1) fun K hK=>?_
 conv in hdC _=>whnf
 go_wp2;rw[← HW.out];obtain⟨e0,e1,e2,e3,e4,e5,e6⟩:=blk7 HB2.out;obtain⟨x0,x1,x2,x3,x4,x5,x6,x7,x8⟩:=blk9 HB1.out;refine peelK (k':=2) fun K hK=>?_
 conv in hdC _=>whnf
 go_wp2_with (go_at_call 48;refine KFi.out.mono ?_;rintro e w1 ⟨rfl,hf⟩;have Z1:=h_ hf;clear hf);clear x0 x1 x2 x3 x4 x5 x6 x7 x8 e0 e1 e2 e3 e4 e5 e6;obtain⟨e0,e1,e2,e3,e4,e5,e6⟩:=blk7 (HB2.out.frm Z1.out id);obtain⟨x0,x1,x2,x3,x4,x5,x6,x7,x8⟩:=blk9 (HB1.out.frm Z1.out id);have hs1:=(HS.out.nix Z1.out).fees;obtain⟨rA,rc,wa,hrun0,hrow⟩:=copy_run elemFee (c:=c) hs1.rd (fee_one x.fees) (by exact hcap) (by omega);obtain⟨A2,c2,hsh,-,-,-,hblk⟩:=hrow.shape;injection hsh with hsA hsn hsc;subst hsA hsc;have hbs1:=HB1.out.frm Z1.out id;have hbs2:=HB2.out.frm Z1.out id;have hbs3:=HB3.out.frm Z1.out id;have h4l:=hbs3.lt;have fa:=hrow.frm;have hca:wa.cell? ⟨w.heap.size,2,none⟩=_:=((hbs1.frm fa id).cell 2).trans rfl;have hcf:=(hbs1.frm fa id).frozen 2;have hma:(w1.alloc (.cells #[] 51)).cell? ⟨w.heap.size,2,none⟩=some (.slice A x.fees.length c):=((hbs1.frm ((fR w1).alloc _) id).cell 2).trans rfl;have hnw:=World.new_ne w1 ⟨w.heap.size,2,none⟩ x2;skip;obtain⟨wd,hwd⟩:∃ wd,wd=wa.setCell ⟨w.heap.size,2,none⟩ (.slice rA x.fees.length rc):=⟨_,rfl⟩;have fd:Frm (fun k=>k=w.heap.size) wa wd:=by rw[hwd];exact(Frm.refl (fun k=>k=w.heap.size) wa).setCell (.inl rfl) _
 have HFd:Hid (Frm Nix w wd):=((HF0.out.trans Z1.out).trans fa).next fd (fun k hk=>.inr (by omega))
 have hob:∀ k,(Value.slice rA x.fees.length rc).ownBlock=some k→w1.heap.size≤k:=fun k hk=>by
  rcases rA with _ | ad
  ·simp[Value.ownBlock] at hk
  ·have:=(hblk ad rfl).2.2.1
   simp[Value.ownBlock] at hk;omega
 have HRw:Hid (RowK 51 4 w wd (.slice rA x.fees.length rc) x.fees.length (x.fees.flatMap Fee.cells)):=(hrow.since (HF0.out.trans Z1.out)).far fd (fun k hk=>by omega) (fun k hk e=>by have:=hob k hk;omega);have HBd:Hid (Blk wd w.heap.size 30 #[.int .i64 x.clock,.slice fo.1 x.fols.length fo.2,.slice rA x.fees.length rc,.slice it.1 x.itms.length it.2,.slice se.1 x.seas.length se.2,.int .i64 x.tFol,.int .i64 x.tFee,.int .i64 x.tItm,.int .i64 x.tSea]):=by unfold Hid;rw[hwd];exact((hbs1.frm fa id).set_ 2 _)
 have HBv:Hid (Blk wd (w.heap.size+1) 38 #[.int .i64 6,.int .i64 a,.int .i64 b,.int .i64 n,.string s,.string t,.string u]):=(hbs2.frm fa id).frm fd (by simp);have HB4:Hid (Blk wd (w.heap.size+1+1) 30 #[.int .i64 0,.slice none 0 0,.slice none 0 0,.slice none 0 0,.slice none 0 0,.int .i64 0,.int .i64 0,.int .i64 0,.int .i64 0]):=(hbs3.frm fa id).frm fd (by simp)
 have HSd:Hid (StIn wd (fun k=>G k∨w.heap.size≤k) fo (rA,rc) it se ts x):=by
  have h0:=(HS0.out.nix HFd.out).mono (G':=fun k=>G k∨w.heap.size≤k) fun k hk=>.inl hk
  have h1:=hrow.sl.frm fd (fun k hk e=>by omega);exact⟨h0.fols,h1.mono fun k hk=>.inr (by omega),h0.itms,h0.same,h0.seas⟩
 obtain⟨old,hx0⟩:∃ old,(x.fees.flatMap Fee.cells)[p * 4+1]? =some old:=⟨_,by rw[flat_at Fee.clen x.fees p hpl 1 (by decide)];rfl⟩
 have KF:Hid (Calls Tryz.prog 27 #[.agg #[.int .i64 x.clock,.slice fo.1 x.fols.length fo.2,.slice rA x.fees.length rc,.slice it.1 x.itms.length it.2,.slice se.1 x.seas.length se.2,.int .i64 x.tFol,.int .i64 x.tFee,.int .i64 x.tItm,.int .i64 x.tSea],.int .i64 a] wd fun e w'=>e=.returned (.int .i64 p)∧Frm Nix wd w'):=by
  have:=rFeed_any HSd.out HSm.out a;rw[hp] at this;exact this
 obtain⟨z0,z1,z2,z3,z4,z5,z6,z7,z8⟩:=blk9 HBd.out;obtain⟨d0,d1,d2,d3,d4,d5,d6⟩:=blk7 HBv.out;have HWd:=h_ hwd;rw[hwd] at z0 z1 z2 z3 z4 z5 z6 z7 z8 d0 d1 d2 d3 d4 d5 d6;have HOb:=h_ hob;have HB3l:=h_ h4l;clear hs1 hrow hblk hbs1 hbs2 hbs3 h4l fa fd hob;simp only[peel,bodyOf,Tryz.f12]
 go_wp2_with (first
  | (at_builtin;refine wpList_append_run hrun0 rfl _ _ rfl rfl rfl ?_)
  | (go_at_call 27
     rw[← HWd.out];refine KF.out.mono ?_;rintro r w2 ⟨rfl,hf⟩;have Z2:=h_ hf;have HR2:Hid (RowK 51 4 w w2 (.slice rA x.fees.length rc) x.fees.length (x.fees.flatMap Fee.cells)):=HRw.out.more hf;obtain⟨z0,z1,z2,z3,z4,z5,z6,z7,z8⟩:=blk9 (HBd.out.frm hf id);obtain⟨d0,d1,d2,d3,d4,d5,d6⟩:=blk7 (HBv.out.frm hf id);obtain⟨y0,y1,y2,y3,y4,y5,y6,y7,y8⟩:=blk9 (HB4.out.frm hf id);have g0:=(HB4.out.frm hf id).frozen 0;have g1:=(HB4.out.frm hf id).frozen 1;have g2:=(HB4.out.frm hf id).frozen 2;have g3:=(HB4.out.frm hf id).frozen 3;have g4:=(HB4.out.frm hf id).frozen 4;have g5:=(HB4.out.frm hf id).frozen 5;have g6:=(HB4.out.frm hf id).frozen 6;have g7:=(HB4.out.frm hf id).frozen 7;have g8:=(HB4.out.frm hf id).frozen 8;obtain⟨g,hgA,hgc,hgf,hset,hgl,hgl2⟩:=HR2.out.set_ (p * 4+1) (by omega) (.int .i64 b);rw[hx0] at hgc;have hgo:w.heap.size+1+1<g:=by have h1:=HOb.out g (by rw[hgA];rfl);have h2:=HB3l.out;omega
     have hg0:¬g=w.heap.size:=by omega
     have hg1:¬g=w.heap.size+1:=by omega
     have hg2:¬g=w.heap.size+1+1:=by omega
     have hg0':¬w.heap.size=g:=by omega
     have hg1':¬w.heap.size+1=g:=by omega
     have hg2':¬w.heap.size+1+1=g:=by omega
     have HSet:=h_ hset;obtain⟨s0,s1,s2,s3,s4,s5,s6,s7,s8⟩:=blk9 ((HBd.out.frm hf id).far (p:=⟨g,p * 4+1,none⟩) hg0' (.int .i64 b));have hb4f:=(HB4.out.frm hf id).far (p:=⟨g,p * 4+1,none⟩) hg2' (.int .i64 b);obtain⟨t0,t1,t2,t3,t4,t5,t6,t7,t8⟩:=blk9 hb4f;have q0:=hb4f.frozen 0;have q1:=hb4f.frozen 1;have q2:=hb4f.frozen 2;have q3:=hb4f.frozen 3;have q4:=hb4f.frozen 4;have q5:=hb4f.frozen 5;have q6:=hb4f.frozen 6;have q7:=hb4f.frozen 7;have q8:=hb4f.frozen 8;clear hb4f;subst hgA;clear hf hset))
 obtain⟨wf,hwf⟩:∃ wf,wf=w2.setCell ⟨g,p * 4+1,none⟩ (.int .i64 b):=⟨_,rfl⟩;have ff:Frm (fun k=>k=g) w2 wf:=by rw[hwf];exact(Frm.refl (fun k=>k=g) w2).setCell (.inl rfl) _
 have hb4:Blk wf (w.heap.size+1+1) 30 #[.int .i64 0,.slice none 0 0,.slice none 0 0,.slice none 0 0,.slice none 0 0,.int .i64 0,.int .i64 0,.int .i64 0,.int .i64 0]:=(HB4.out.frm Z2.out id).frm ff (by simpa using hg2');rw[← hwf] at HSet;obtain⟨we,hwe⟩:∃ we,we=wf.setCells (w.heap.size+1+1) 0 [.int .i64 x.clock,.slice fo.1 x.fols.length fo.2,.slice (some ⟨g,0,none⟩) x.fees.length rc,.slice it.1 x.itms.length it.2,.slice se.1 x.seas.length se.2,.int .i64 x.tFol,.int .i64 x.tFee,.int .i64 x.tItm,.int .i64 x.tSea]:=⟨_,rfl⟩
 have hbe:Blk we (w.heap.size+1+1) 30 #[.int .i64 x.clock,.slice fo.1 x.fols.length fo.2,.slice (some ⟨g,0,none⟩) x.fees.length rc,.slice it.1 x.itms.length it.2,.slice se.1 x.seas.length se.2,.int .i64 x.tFol,.int .i64 x.tFee,.int .i64 x.tItm,.int .i64 x.tSea]:=by
  have:=Blk.putL [.int .i64 x.clock,.slice fo.1 x.fols.length fo.2,.slice (some ⟨g,0,none⟩) x.fees.length rc,.slice it.1 x.itms.length it.2,.slice se.1 x.seas.length se.2,.int .i64 x.tFol,.int .i64 x.tFee,.int .i64 x.tItm,.int .i64 x.tSea] 0 hb4;rw[putL9] at this;rw[hwe];exact this
 have fe_:Frm (fun k=>k=w.heap.size+1+1) wf we:=by rw[hwe];exact Frm.setCells _ 0 (Frm.refl _ _) (.inl rfl)
 have HFin:Hid (Frm Nix w we):=((HFd.out.trans Z2.out).next ff (fun k hk=>.inr (by omega))).next fe_ (fun k hk=>.inr (by omega))
 have HBe:=h_ hbe
 have hrow:SlIn we (fun k=>w.heap.size≤k) 4 (some ⟨g,0,none⟩,rc) x.fees.length ((x.fees.flatMap Fee.cells).set (p * 4+1) (.int .i64 b)):=by
  have hr3:=HSet.out.far fe_ (fun k hk=>by omega) (fun k hk e=>by simp[Value.ownBlock] at hk;omega);exact hr3.sl
 have HL:Hid ((updI Fee.id a (fun f=>{f with inn:=b}) x.fees)=x.fees.set p ((fun f=>{f with inn:=b}) x.fees[p])):=by
  unfold Hid;have:=@updI_set _ Fee.id a (fun f=>{f with inn:=b}) x.fees (by rw[hpi];exact hpl);simp only[hpi] at this;exact this
 rw[flat_set1 Fee.clen x.fees p hpl ((fun f=>{f with inn:=b}) x.fees[p]) 1 (by decide) _ rfl,← HL.out] at hrow;have hln:(updI Fee.id a (fun f=>{f with inn:=b}) x.fees).length=x.fees.length:=by rw[HL.out,List.length_set]
 rw[← hln] at hrow;simp only[World.setCells] at hwe;rw[hwf] at hwe;rw[← hwe];refine bodyPost_ret (rapply_ret HBe.out rfl rfl) rfl ?_;exact⟨fo,(some ⟨g,0,none⟩,rc),it,se,ts,by rw[← hln];rfl,⟨(HS0.out.nix HFin.out).fols.mono fun k hk=>.inl hk,hrow.mono fun k hk=>.inr hk,(HS0.out.nix HFin.out).itms.mono fun k hk=>.inl hk,HS0.out.same,(HS0.out.nix HFin.out).seas.mono fun k hk=>.inl hk⟩,HFin.out⟩
end Go.Proofs.YtlafbakoefcifaaGreat
