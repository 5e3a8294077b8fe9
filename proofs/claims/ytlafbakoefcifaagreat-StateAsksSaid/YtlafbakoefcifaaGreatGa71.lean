/-
  The walk of StateAsks.
-/
import Derived.Test.YtlafbakoefcifaaGreatGa70
import Derived.Test.YtlafbakoefcifaaGreatGa39
import Derived.Test.YtlafbakoefcifaaGreatGa25
import Derived.Test.YtlafbakoefcifaaGreatGa13
set_option linter.unusedVariables false
set_option linter.unusedSimpArgs false
set_option maxRecDepth 100000
set_option maxHeartbeats 16000000
namespace Go.Proofs.YtlafbakoefcifaaGreat
open Go.RowKit Go.Lib
theorem posR_nn{α:Type}{g:α→Int}{i:Int}{l:List α}:decide (0≤posR g i l)=isI g i l:=by
 unfold posR
 cases isI g i l<;>simp
theorem place_pos{x:St}(h:StP x)(s:ByteArray):(!(placeS x s==0))=decide (0<placeS x s):=by
 have:0≤placeS x s:=by
  unfold placeS;split
  ·have:=h.eId (List.mem_of_find?_eq_some (by assumption));omega
  ·exact Int.le_refl _
 rcases Int.lt_or_eq_of_le this with h | h
 ·have:¬placeS x s=0:=by omega
  simp[h,this]
 ·simp[← h]
theorem guid_pos{x:St}(h:StP x)(b:Int)(s:ByteArray):(!(guidS x b s==0))=decide (0<guidS x b s):=by
 have:0≤guidS x b s:=by
  unfold guidS;split
  ·have:=(h.iId (List.mem_of_find?_eq_some (by assumption))).1;omega
  ·exact Int.le_refl _
 rcases Int.lt_or_eq_of_le this with h | h
 ·have:¬guidS x b s=0:=by omega
  simp[h,this]
 ·simp[← h]
theorem asks_l1{w:World}{G:Nat→Prop}{v:Sl}{l:List Ev}(hl:EvsIn w G v l)(ii:Int)(hid:I64 ii)(url guid:ByteArray)(hu:url.size≤maxLen)(hg:guid.size≤maxLen)(hlg:largeEvs l=true):Calls Tryz.prog 6 #[.slice v.1 l.length v.2,.int .i64 ii,.string url,.string guid] w fun e w'=>e=.returned (.bool true)∧Frm Nix w w':=by
 have HL:=h_ hl;have HU:=h_ hu;have HGu:=h_ hg;clear hl hu hg;obtain⟨Av,cv⟩:=v;have KL:Hid (∀ W,Frm Nix w W→Calls Tryz.prog 11 #[.slice Av l.length cv] W fun e w'=>e=.returned (.bool (largeEvs l))∧Frm Nix W w'):=fun W hW=>(HL.out.nix hW).large
 dsimp only;obtain⟨n,hn⟩:∃ n,l.length=n:=⟨_,rfl⟩;rw[hlg,hn] at KL;rw[hn];clear hn hlg;go_enter Tryz.func6,Tryz.ntmps6
 go_wp2_with (first
  | (go_at_call 8;have _q:=Z1;refine(lives_any _).mono ?_;rintro e w2 ⟨rfl,hf⟩;have Z2:Hid (Frm Nix w w2):=Z1.out.trans hf;clear hf)
  | (go_at_call 11;refine(KL.out _ (fR w)).mono ?_;rintro e w1 ⟨rfl,hf⟩;have Z1:=h_ hf;clear hf))
 go_ret;exact⟨rfl,Z2.out⟩
theorem asks_l2{w:World}{G:Nat→Prop}{v:Sl}{l:List Ev}(hl:EvsIn w G v l)(ii:Int)(hid:I64 ii)(url guid:ByteArray)(hu:url.size≤maxLen)(hg:guid.size≤maxLen)(hlg:largeEvs l=false∧1000<url.size):Calls Tryz.prog 6 #[.slice v.1 l.length v.2,.int .i64 ii,.string url,.string guid] w fun e w'=>e=.returned (.bool true)∧Frm Nix w w':=by
 have HL:=h_ hl;have HU:=h_ hu;have HGu:=h_ hg;clear hl hu hg;obtain⟨Av,cv⟩:=v;have KL:Hid (∀ W,Frm Nix w W→Calls Tryz.prog 11 #[.slice Av l.length cv] W fun e w'=>e=.returned (.bool (largeEvs l))∧Frm Nix W w'):=fun W hW=>(HL.out.nix hW).large
 dsimp only;obtain⟨n,hn⟩:∃ n,l.length=n:=⟨_,rfl⟩;rw[hlg.1,hn] at KL;have hi1:(1000:Int)<(url.size:Int):=by have:=hlg.2;omega
 rw[hn];clear hn hlg;go_enter Tryz.func6,Tryz.ntmps6
 go_wp2_with (first
  | (go_at_call 8;have _q:=Z1;refine(lives_any _).mono ?_;rintro e w2 ⟨rfl,hf⟩;have Z2:Hid (Frm Nix w w2):=Z1.out.trans hf;clear hf)
  | (go_at_call 11;refine(KL.out _ (fR w)).mono ?_;rintro e w1 ⟨rfl,hf⟩;have Z1:=h_ hf;clear hf))
 go_ret;exact⟨rfl,Z2.out⟩
theorem asks_l3{w:World}{G:Nat→Prop}{v:Sl}{l:List Ev}(hl:EvsIn w G v l)(ii:Int)(hid:I64 ii)(url guid:ByteArray)(hu:url.size≤maxLen)(hg:guid.size≤maxLen)(hlg:largeEvs l=false∧¬1000<url.size∧1000<guid.size):Calls Tryz.prog 6 #[.slice v.1 l.length v.2,.int .i64 ii,.string url,.string guid] w fun e w'=>e=.returned (.bool true)∧Frm Nix w w':=by
 have HL:=h_ hl;have HU:=h_ hu;have HGu:=h_ hg;clear hl hu hg;obtain⟨Av,cv⟩:=v;have KL:Hid (∀ W,Frm Nix w W→Calls Tryz.prog 11 #[.slice Av l.length cv] W fun e w'=>e=.returned (.bool (largeEvs l))∧Frm Nix W w'):=fun W hW=>(HL.out.nix hW).large
 dsimp only;obtain⟨n,hn⟩:∃ n,l.length=n:=⟨_,rfl⟩;rw[hlg.1,hn] at KL;have hi1:¬(1000:Int)<(url.size:Int):=by have:=hlg.2;omega
 have hi2:(1000:Int)<(guid.size:Int):=by have:=hlg.2;omega
 rw[hn];clear hn hlg;go_enter Tryz.func6,Tryz.ntmps6
 go_wp2_with (first
  | (go_at_call 8;have _q:=Z1;refine(lives_any _).mono ?_;rintro e w2 ⟨rfl,hf⟩;have Z2:Hid (Frm Nix w w2):=Z1.out.trans hf;clear hf)
  | (go_at_call 11;refine(KL.out _ (fR w)).mono ?_;rintro e w1 ⟨rfl,hf⟩;have Z1:=h_ hf;clear hf))
 go_ret;exact⟨rfl,Z2.out⟩
theorem asks_walk0{w:World}{G:Nat→Prop}{v:Sl}{l:List Ev}(hl:EvsIn w G v l)(ii:Int)(hid:I64 ii)(url guid:ByteArray)(hu:url.size≤maxLen)(hg:guid.size≤maxLen)(hlg:largeEvs l=false∧¬1000<url.size∧¬1000<guid.size):Calls Tryz.prog 6 #[.slice v.1 l.length v.2,.int .i64 ii,.string url,.string guid] w fun e w'=>e=.returned (.bool true)∧Frm Nix w w':=by
 have HL:=h_ hl;have HU:=h_ hu;have HGu:=h_ hg;clear hl hu hg;obtain⟨Av,cv⟩:=v;have KL:Hid (∀ W,Frm Nix w W→Calls Tryz.prog 11 #[.slice Av l.length cv] W fun e w'=>e=.returned (.bool (largeEvs l))∧Frm Nix W w'):=fun W hW=>(HL.out.nix hW).large
 dsimp only;have HLG:=h_ hlg.1;have KF:Hid (∀ W,Frm Nix w W→Calls Tryz.prog 15 #[.slice Av l.length cv] W fun e w'=>∃ g M,e=.returned (.pointer (some ⟨g,0,none⟩))∧StAt w' g M (foldE st0 l)∧Frm Nix W w'∧∀ k,SF g M k→W.heap.size≤k):=fun W hW=>(HL.out.nix hW).fold HLG.out
 have KR:Hid (∀ W,Frm Nix w W→Calls Tryz.prog 20 #[.slice Av l.length cv] W fun r w'=>∃ (fo fe it se:Sl) (ts:List (Sl×Itm)),r=.returned (stV fo fe it se (foldE st0 l))∧StIn w' (fun k=>W.heap.size≤k) fo fe it se ts (foldE st0 l)∧Frm Nix W w'):=fun W hW=>by
  have h1:=HL.out.sl.nix hW;have h2:l.length≤1000000:=by have:=largeEvs_len HLG.out;omega
  exact rStFold_any (v:=(Av,cv)) l h1 h2
 have hi1:¬(1000:Int)<(url.size:Int):=by have:=hlg.2;omega
 have hi2:¬(1000:Int)<(guid.size:Int):=by have:=hlg.2;omega
 have HI:=h_ hid;obtain⟨x,hx⟩:∃ x,foldE st0 l=x:=⟨_,rfl⟩;have HP:Hid (StP x):=by rw[← hx];exact foldE_ok l st0_ok
 obtain⟨n,hn⟩:∃ n,l.length=n:=⟨_,rfl⟩;rw[hlg.1,hn] at KL;rw[hn,hx] at KF KR;rw[hn];clear hn hlg hx hid;go_enter Tryz.func6,Tryz.ntmps6;show Code.wp Tryz.prog (peel 0 (bodyOf Tryz.f6)) _ _ _
 refine peelK (k':=1) fun K hK=>?_
 conv in hdC _=>whnf
 go_wp2;refine peelK (k':=2) fun K hK=>?_
 conv in hdC _=>whnf
 go_wp2_with (go_at_call 11;refine(KL.out _ (fR w)).mono ?_;rintro e w1 ⟨rfl,hf⟩;have Z1:=h_ hf;clear hf);refine peelK (k':=3) fun K hK=>?_
 conv in hdC _=>whnf
 go_wp2_with (go_at_call 15;refine(KF.out _ Z1.out).mono ?_;rintro e w2 ⟨g,M,rfl,hs,hf,-⟩;have H2:=h_ hs;have Z2:Hid (Frm Nix w w2):=Z1.out.trans hf;clear hs hf);refine peelK (k':=4) fun K hK=>?_
 conv in hdC _=>whnf
 go_wp2_with (go_at_call 20;refine(KR.out _ Z2.out).mono ?_;rintro e w3 ⟨fo,fe,it,se,ts,rfl,hd,hf⟩;have D3:=h_ hd.old;have H3:=h_ (H2.out.nix hf);have Z3:Hid (Frm Nix w w3):=Z2.out.trans hf;clear hd hf;unfold stV);obtain⟨gx,hgx⟩:∃ gx,w3.heap.size=gx:=⟨_,rfl⟩;obtain⟨w4,hw4⟩:∃ w4,w4=w3.alloc (.cells #[.int .i64 x.clock,.slice fo.1 x.fols.length fo.2,.slice fe.1 x.fees.length fe.2,.slice it.1 x.itms.length it.2,.slice se.1 x.seas.length se.2,.int .i64 x.tFol,.int .i64 x.tFee,.int .i64 x.tItm,.int .i64 x.tSea] 30):=⟨_,rfl⟩;rw[← hw4];have B4:Hid (Blk w4 gx 30 #[.int .i64 x.clock,.slice fo.1 x.fols.length fo.2,.slice fe.1 x.fees.length fe.2,.slice it.1 x.itms.length it.2,.slice se.1 x.seas.length se.2,.int .i64 x.tFol,.int .i64 x.tFee,.int .i64 x.tItm,.int .i64 x.tSea]):=by unfold Hid;rw[hw4,← hgx];exact Blk.new w3 _ _
 have hf4:Frm Nix w3 w4:=by rw[hw4];exact(fR w3).alloc _
 rw[hgx] at D3 ⊢;have D4:=h_ (D3.out.nix hf4);have H4:=h_ (H3.out.nix hf4);have Z4:Hid (Frm Nix w w4):=Z3.out.trans hf4;have HLt:Hid (gx<w4.heap.size):=B4.out.lt;clear hw4 hf4 hgx;have HC:Hid (∀ W,Frm Nix w4 W→(W.cell? ⟨gx,0,none⟩=some (.int .i64 x.clock)∧W.cell? ⟨gx,1,none⟩=some (.slice fo.1 x.fols.length fo.2)∧W.cell? ⟨gx,2,none⟩=some (.slice fe.1 x.fees.length fe.2)∧W.cell? ⟨gx,3,none⟩=some (.slice it.1 x.itms.length it.2)∧W.cell? ⟨gx,4,none⟩=some (.slice se.1 x.seas.length se.2)∧W.cell? ⟨gx,5,none⟩=some (.int .i64 x.tFol)∧W.cell? ⟨gx,6,none⟩=some (.int .i64 x.tFee)∧W.cell? ⟨gx,7,none⟩=some (.int .i64 x.tItm)∧W.cell? ⟨gx,8,none⟩=some (.int .i64 x.tSea))):=fun W hW=>blk9 (B4.out.frm hW id)
 obtain⟨dp,hdp⟩:∃ dp,deepS x ii=dp:=⟨_,rfl⟩;obtain⟨tp,htp⟩:∃ tp,topS x ii=tp:=⟨_,rfl⟩;have KCl:Hid (∀ W,Frm Nix w4 W→Calls Tryz.prog 21 #[.pointer (some ⟨g,0,none⟩)] W fun e w'=>e=.returned (.int .i64 x.clock)∧W=w'):=fun W hW=>Clock_any (H4.out.nix hW)
 have KDe:Hid (∀ W,Frm Nix w4 W→Calls Tryz.prog 22 #[.pointer (some ⟨g,0,none⟩),.int .i64 ii] W fun e w'=>e=.returned (.int .i64 dp)∧Frm Nix W w'):=fun W hW=>by rw[← hdp];exact Deep_any (H4.out.nix hW) HI.out
 have KTo:Hid (∀ W,Frm Nix w4 W→Calls Tryz.prog 24 #[.pointer (some ⟨g,0,none⟩),.int .i64 ii] W fun e w'=>e=.returned (.int .i64 tp)∧W=w'):=fun W hW=>by rw[← htp];exact Top_any (H4.out.nix hW) ii
 have KrD:Hid (∀ W,Frm Nix w4 W→Calls Tryz.prog 23 #[stV fo fe it se x,.int .i64 ii] W fun e w'=>e=.returned (.int .i64 dp)∧Frm Nix W w'):=fun W hW=>by rw[← hdp];exact rDeep_any (D4.out.nix hW) HP.out.small ii
 have KrT:Hid (∀ W,Frm Nix w4 W→Calls Tryz.prog 25 #[stV fo fe it se x,.int .i64 ii] W fun e w'=>e=.returned (.int .i64 tp)∧Frm Nix W w'):=fun W hW=>by rw[← htp];exact rTop_any W fo fe it se x ii
 clear hdp htp;refine peelK (k':=5) fun K hK=>?_
 conv in hdC _=>whnf
 obtain⟨x0,x1,x2,x3,x4,x5,x6,x7,x8⟩:=HC.out w4 (Frm.refl _ _);go_wp2
 go_region_held3 (fun W=>(W.cell? ⟨gx,0,none⟩=some (.int .i64 x.clock)∧W.cell? ⟨gx,1,none⟩=some (.slice fo.1 x.fols.length fo.2)∧W.cell? ⟨gx,2,none⟩=some (.slice fe.1 x.fees.length fe.2)∧W.cell? ⟨gx,3,none⟩=some (.slice it.1 x.itms.length it.2)∧W.cell? ⟨gx,4,none⟩=some (.slice se.1 x.seas.length se.2)∧W.cell? ⟨gx,5,none⟩=some (.int .i64 x.tFol)∧W.cell? ⟨gx,6,none⟩=some (.int .i64 x.tFee)∧W.cell? ⟨gx,7,none⟩=some (.int .i64 x.tItm)∧W.cell? ⟨gx,8,none⟩=some (.int .i64 x.tSea))) (first | go_keep | exact HC.out _ (fR _).drew | exact HC.out _ Y1.out | exact HC.out _ Y3.out | exact HC.out _ Y4.out | exact HC.out _ Y6.out)
  (first
   | (go_at_call 25;have _q:=Y4;refine(KrT.out _ Y4.out).mono ?_;rintro e u6 ⟨rfl,hf⟩;have Y6:Hid (Frm Nix w4 u6):=Y4.out.trans hf;clear hf)
   | (go_at_call 24;have _q:=Y4;refine(KTo.out _ Y4.out).mono ?_;rintro e u5 ⟨rfl,rfl⟩)
   | (go_at_call 23;have _q:=Y3;refine(KrD.out _ Y3.out).mono ?_;rintro e u4 ⟨rfl,hf⟩;have Y4:Hid (Frm Nix w4 u4):=Y3.out.trans hf;clear hf)
   | (go_at_call 22;have _q:=Y1;refine(KDe.out _ Y1.out).mono ?_;rintro e u3 ⟨rfl,hf⟩;have Y3:Hid (Frm Nix w4 u3):=Y1.out.trans hf;clear hf)
   | (go_at_call 21;have _q:=Y1;refine(KCl.out _ Y1.out).mono ?_;rintro e u2 ⟨rfl,rfl⟩)
   | (go_at_call 8;refine(lives_any _).mono ?_;rintro e u1 ⟨rfl,hf⟩;have Y1:Hid (Frm Nix w4 u1):=(fR w4).drew.trans hf;clear hf))
 go_wp2;have B5:=h_ (B4.out.frm Y6.out id);have D5:=h_ (D4.out.nix Y6.out);have H5:=h_ (H4.out.nix Y6.out);have Z5:Hid (Frm Nix w u6):=Z4.out.trans Y6.out;have HLt5:Hid (gx<u6.heap.size):=B5.out.lt;clear x0 x1 x2 x3 x4 x5 x6 x7 x8 KCl KDe KTo KrD KrT HC;refine peelK (k':=6) fun K hK=>?_
 conv in hdC _=>whnf
 go_wp2;obtain⟨gs,hgs⟩:∃ gs,u6.heap.size=gs:=⟨_,rfl⟩;obtain⟨w7,hw7⟩:∃ w7,w7=((((u6.alloc (.cells #[.int .i64 0,.int .i64 0,.string ⟨#[]⟩] 49)).alloc (.cells #[.int .i64 0,.int .i64 0,.string ⟨#[]⟩,.string ⟨#[]⟩] 51)).alloc (.cells #[.int .i64 0,.int .i64 0,.int .i64 0,.string ⟨#[]⟩,.string ⟨#[]⟩,.string ⟨#[]⟩,.bool false,.bool false,.slice none 0 0] 54)).alloc (.cells #[.int .i64 0,.string ⟨#[]⟩,.string ⟨#[]⟩] 56)):=⟨_,rfl⟩;rw[← hw7];have hf7:Frm Nix u6 w7:=by rw[hw7];exact((((fR u6).alloc _).alloc _).alloc _).alloc _
 have A7:Hid (Blk w7 gs 49 #[.int .i64 0,.int .i64 0,.string ⟨#[]⟩]∧Blk w7 (gs+1) 51 #[.int .i64 0,.int .i64 0,.string ⟨#[]⟩,.string ⟨#[]⟩]∧Blk w7 (gs+1+1) 54 #[.int .i64 0,.int .i64 0,.int .i64 0,.string ⟨#[]⟩,.string ⟨#[]⟩,.string ⟨#[]⟩,.bool false,.bool false,.slice none 0 0]∧Blk w7 (gs+1+1+1) 56 #[.int .i64 0,.string ⟨#[]⟩,.string ⟨#[]⟩]):=by
  unfold Hid;rw[hw7,← hgs];refine⟨(Blk.new u6 _ _).frm ((((fR _).alloc _).alloc _).alloc _) id,?_,?_,?_⟩
  ·have:=(Blk.new (u6.alloc (.cells #[.int .i64 0,.int .i64 0,.string ⟨#[]⟩] 49)) 51 #[.int .i64 0,.int .i64 0,.string ⟨#[]⟩,.string ⟨#[]⟩]).frm (((fR _).alloc (.cells #[.int .i64 0,.int .i64 0,.int .i64 0,.string ⟨#[]⟩,.string ⟨#[]⟩,.string ⟨#[]⟩,.bool false,.bool false,.slice none 0 0] 54)).alloc (.cells #[.int .i64 0,.string ⟨#[]⟩,.string ⟨#[]⟩] 56)) id
   simpa using this
  ·have:=(Blk.new ((u6.alloc (.cells #[.int .i64 0,.int .i64 0,.string ⟨#[]⟩] 49)).alloc (.cells #[.int .i64 0,.int .i64 0,.string ⟨#[]⟩,.string ⟨#[]⟩] 51)) 54 #[.int .i64 0,.int .i64 0,.int .i64 0,.string ⟨#[]⟩,.string ⟨#[]⟩,.string ⟨#[]⟩,.bool false,.bool false,.slice none 0 0]).frm ((fR _).alloc (.cells #[.int .i64 0,.string ⟨#[]⟩,.string ⟨#[]⟩] 56)) id
   simpa using this
  ·have:=Blk.new (((u6.alloc (.cells #[.int .i64 0,.int .i64 0,.string ⟨#[]⟩] 49)).alloc (.cells #[.int .i64 0,.int .i64 0,.string ⟨#[]⟩,.string ⟨#[]⟩] 51)).alloc (.cells #[.int .i64 0,.int .i64 0,.int .i64 0,.string ⟨#[]⟩,.string ⟨#[]⟩,.string ⟨#[]⟩,.bool false,.bool false,.slice none 0 0] 54)) 56 #[.int .i64 0,.string ⟨#[]⟩,.string ⟨#[]⟩]
   simpa using this
 (try simp only[hgs])
 have B7:=h_ (B5.out.frm hf7 id);have D7:=h_ (D5.out.nix hf7);have H7:=h_ (H5.out.nix hf7);have Z7:Hid (Frm Nix w w7):=Z5.out.trans hf7;have HGS:Hid (gx<gs):=by rw[← hgs];exact HLt5.out
 have HGz:Hid (u6.heap.size=gs):=hgs;clear hw7 hf7 hgs;have q:=fun z:FW (Frm Nix w7)=>blk9 (B7.out.frm z.h id)
 have q0:=fun z=>(q z).1
 have q1:=fun z=>(q z).2.1
 have q2:=fun z=>(q z).2.2.1
 have q3:=fun z=>(q z).2.2.2.1
 have q4:=fun z=>(q z).2.2.2.2.1
 have q5:=fun z=>(q z).2.2.2.2.2.1
 have q6:=fun z=>(q z).2.2.2.2.2.2.1
 have q7:=fun z=>(q z).2.2.2.2.2.2.2.1
 have q8:=fun z=>(q z).2.2.2.2.2.2.2.2
 clear q;obtain⟨p7,hp7⟩:∃ p,p=posR Fol.id ii x.fols:=⟨_,rfl⟩;have HPo7:=h_ hp7;have KP7:=fun z:FW (Frm Nix w7)=>(show Calls Tryz.prog 26 #[stV fo fe it se x,.int .i64 ii] z.w fun e w'=>e=.returned (.int .i64 p7)∧Frm Nix z.w w' from by rw[hp7];exact rFolder_any (D7.out.nix z.h) HP.out.small ii)
 obtain⟨p8,hp8⟩:∃ p,p=posR Fee.id ii x.fees:=⟨_,rfl⟩;have HPo8:=h_ hp8;have KP8:=fun z:FW (Frm Nix w7)=>(show Calls Tryz.prog 27 #[stV fo fe it se x,.int .i64 ii] z.w fun e w'=>e=.returned (.int .i64 p8)∧Frm Nix z.w w' from by rw[hp8];exact rFeed_any (D7.out.nix z.h) HP.out.small ii)
 obtain⟨p9,hp9⟩:∃ p,p=posR Itm.id ii x.itms:=⟨_,rfl⟩;have HPo9:=h_ hp9;have KP9:=fun z:FW (Frm Nix w7)=>(show Calls Tryz.prog 28 #[stV fo fe it se x,.int .i64 ii] z.w fun e w'=>e=.returned (.int .i64 p9)∧Frm Nix z.w w' from by rw[hp9];exact rItem_any (D7.out.nix z.h) HP.out.small ii)
 obtain⟨p10,hp10⟩:∃ p,p=posR Sea.id ii x.seas:=⟨_,rfl⟩;have HPo10:=h_ hp10;have KP10:=fun z:FW (Frm Nix w7)=>(show Calls Tryz.prog 29 #[stV fo fe it se x,.int .i64 ii] z.w fun e w'=>e=.returned (.int .i64 p10)∧Frm Nix z.w w' from by rw[hp10];exact rSearch_any (D7.out.nix z.h) HP.out.small ii)
 clear hp7 hp8 hp9 hp10;refine peelK (k':=7) fun K hK=>?_
 conv in hdC _=>whnf
 go_wp2_with fail;refine wp_region_class (Frm Nix w7) ((fR w7).drew) (by kernel_rfl) (by kernel_rfl) ?_
 repeat (go_big_quiet_step (first
  | (rename_i z;go_at_call 26;refine z.call (KP7 z) ?_;exact fun w' hf=>z.h.trans hf)
  | (rename_i z;go_at_call 27;refine z.call (KP8 z) ?_;exact fun w' hf=>z.h.trans hf)
  | (rename_i z;go_at_call 28;refine z.call (KP9 z) ?_;exact fun w' hf=>z.h.trans hf)
  | (rename_i z;go_at_call 29;refine z.call (KP10 z) ?_;exact fun w' hf=>z.h.trans hf)
  | fail))
 refine wpQuiet_nil ?_;rintro w8 ⟨⟨_,hf8⟩,rfl⟩;have A8:Hid (_∧_∧_∧_):=⟨A7.out.1.frm hf8 id,A7.out.2.1.frm hf8 id,A7.out.2.2.1.frm hf8 id,A7.out.2.2.2.frm hf8 id⟩;have B8:=h_ (B7.out.frm hf8 id);have D8:=h_ (D7.out.nix hf8);have H8:=h_ (H7.out.nix hf8);have Z8:Hid (Frm Nix w w8):=Z7.out.trans hf8;have HSz:Hid (gs+1+1+1<w8.heap.size):=A8.out.2.2.2.lt;clear hf8 KP7 KP8 KP9 KP10 q0 q1 q2 q3 q4 q5 q6 q7 q8;go_wp2;have J7:Hid (Frm (fun k=>gs≤k∧k≤gs+1+1+1) w8 w8):=Frm.refl _ _;have HGd:Hid (∀ k,gx<k→¬(w2.heap.size≤k∧k<gx)):=fun k h1 h2=>by omega
 refine peelK (k':=8) fun K hK=>?_
 refine asksJ7 HPo7.out (gx:=gx) (ga:=gs) (B8.out.frm J7.out (by have:=HGS.out;omega)) (D8.out.frm J7.out fun k h1 h2=>by have:=HGS.out;omega) (by have:=HP.out.small.fols;omega) (A8.out.1) ?_;intro v7 z95 z96 z97 z98 z99 z100 z101 hb hf;have F7:=h_ hf;have E7:=h_ hb;skip;have J8:Hid (Frm (fun k=>gs≤k∧k≤gs+1+1+1) w8 v7):=J7.out.trans (hf.mono fun k hk=>by subst hk;omega);clear hb hf;refine hK _ _ ?_;clear hK K;refine peelK (k':=9) fun K hK=>?_
 refine asksJ8 HPo8.out (gx:=gx) (ga:=(gs+1)) (B8.out.frm J8.out (by have:=HGS.out;omega)) (D8.out.frm J8.out fun k h1 h2=>by have:=HGS.out;omega) (by have:=HP.out.small.fees;omega) ((A8.out.2.1.frm F7.out (by omega))) ?_;intro v8 z102 z103 z104 z105 z106 z107 z108 hb hf;have F8:=h_ hf;have E8:=h_ hb;skip;have J9:Hid (Frm (fun k=>gs≤k∧k≤gs+1+1+1) w8 v8):=J8.out.trans (hf.mono fun k hk=>by subst hk;omega);clear hb hf;refine hK _ _ ?_;clear hK K;refine peelK (k':=10) fun K hK=>?_
 refine asksJ9 HPo9.out (gx:=gx) (ga:=(gs+1+1)) (B8.out.frm J9.out (by have:=HGS.out;omega)) (D8.out.frm J9.out fun k h1 h2=>by have:=HGS.out;omega) (by have:=HP.out.small.itms;omega) (((A8.out.2.2.1.frm F7.out (by omega)).frm F8.out (by omega))) (by have:=HGS.out;omega) ?_;intro v9 tv z109 z110 z111 z112 z113 z114 z115 hb ht hf;have F9:=h_ hf;have E9:=h_ hb;have HTv:=h_ ht;have J10:Hid (Frm (fun k=>gs≤k∧k≤gs+1+1+1) w8 v9):=J9.out.trans (hf.mono fun k hk=>by subst hk;omega);clear hb hf ht;refine hK _ _ ?_;clear hK K;refine peelK (k':=11) fun K hK=>?_
 refine asksJ10 HPo10.out (gx:=gx) (ga:=(gs+1+1+1)) (B8.out.frm J10.out (by have:=HGS.out;omega)) (D8.out.frm J10.out fun k h1 h2=>by have:=HGS.out;omega) (by have:=HP.out.small.seas;omega) ((((A8.out.2.2.2.frm F7.out (by omega)).frm F8.out (by omega)).frm F9.out (by omega))) ?_;intro v10 z116 z117 z118 z119 z120 z121 z122 hb hf;have F10:=h_ hf;have E10:=h_ hb;skip;have J11:Hid (Frm (fun k=>gs≤k∧k≤gs+1+1+1) w8 v10):=J10.out.trans (hf.mono fun k hk=>by subst hk;omega);clear hb hf;refine hK _ _ ?_;clear hK K;have HSF:Hid (∀ k,SF g M k→k<gs):=fun k hk=>by have:=H5.out.lt k hk;rw[HGz.out] at this;exact this
 have Z9:Hid (Frm Nix w v10):=Z8.out.next J11.out fun k hk=>.inr (by have:=Z5.out.size;rw[HGz.out] at this;omega)
 have H9:Hid (StAt v10 g M x):=H8.out.frm J11.out (fun k hk h=>by have:=HSF.out k hk;omega) fun k hk h=>by
  have h1:=A8.out.1.ne_str (by decide) hk;have h2:=A8.out.2.1.ne_str (by decide) hk;have h3:=A8.out.2.2.1.ne_str (by decide) hk;have h4:=A8.out.2.2.2.ne_str (by decide) hk;omega
 have B9:=h_ (B8.out.frm J11.out (by have:=HGS.out;omega));have D9:=h_ (D8.out.frm J11.out fun k h1 h2=>by have:=HGS.out;omega);have E7a:=h_ (((E7.out.frm F8.out (by omega)).frm F9.out (by omega)).frm F10.out (by omega));have E8a:=h_ ((E8.out.frm F9.out (by omega)).frm F10.out (by omega));have E9a:=h_ (E9.out.frm F10.out (by omega));have HTa:=h_ (HTv.out.frm F10.out fun k h1 h2=>by have:=HGS.out;omega);clear E7 E8 E9 HTv F7 F8 F9 F10 J7 J8 J9 J10 J11 A7 A8 B8 D8 H8 B7 D7 H7 B5 D5 H5
 have KQ7:Hid (∀ W,Frm Nix v10 W→Calls Tryz.prog 30 #[.pointer (some ⟨g,0,none⟩),.int .i64 ii] W fun e w'=>e=.returned (.tuple #[.agg #[.int .i64 (folAt x ii).id,.int .i64 (folAt x ii).inn,.string (folAt x ii).name],.bool (decide (0≤p7))])∧Frm Nix W w'):=fun W hW=>by
  rw[HPo7.out,posR_nn];exact FolderS_any (H9.out.nix hW) HI.out
 have KQ8:Hid (∀ W,Frm Nix v10 W→Calls Tryz.prog 31 #[.pointer (some ⟨g,0,none⟩),.int .i64 ii] W fun e w'=>e=.returned (.tuple #[.agg #[.int .i64 (feeAt x ii).id,.int .i64 (feeAt x ii).inn,.string (feeAt x ii).url,.string (feeAt x ii).title],.bool (decide (0≤p8))])∧Frm Nix W w'):=fun W hW=>by
  rw[HPo8.out,posR_nn];exact FeedS_any (H9.out.nix hW) HI.out
 have KQ9:Hid (∀ W,Frm Nix v10 W→Calls Tryz.prog 32 #[.pointer (some ⟨g,0,none⟩),.int .i64 ii] W fun e w'=>∃ v':Sl,e=.returned (.tuple #[.agg #[.int .i64 (itmAt x ii).id,.int .i64 (itmAt x ii).feed,.int .i64 (itmAt x ii).date,.string (itmAt x ii).guid,.string (itmAt x ii).title,.string (itmAt x ii).link,.bool (itmAt x ii).read,.bool (itmAt x ii).star,.slice v'.1 (itmAt x ii).tags.length v'.2],.bool (decide (0≤p9))])∧SlIn w' (fun k=>W.heap.size≤k) 1 v' (itmAt x ii).tags.length ((itmAt x ii).tags.map Value.string)∧Frm Nix W w'):=fun W hW=>by
  rw[HPo9.out,posR_nn];exact Item_any (H9.out.nix hW) HI.out
 have KQ10:Hid (∀ W,Frm Nix v10 W→Calls Tryz.prog 33 #[.pointer (some ⟨g,0,none⟩),.int .i64 ii] W fun e w'=>e=.returned (.tuple #[.agg #[.int .i64 (seaAt x ii).id,.string (seaAt x ii).name,.string (seaAt x ii).query],.bool (decide (0≤p10))])∧Frm Nix W w'):=fun W hW=>by
  rw[HPo10.out,posR_nn];exact SearchS_any (H9.out.nix hW) HI.out
 refine peelK (k':=12) fun K hK=>?_
 conv in hdC _=>whnf
 go_wp2_with (go_at_call 30;refine(KQ7.out _ (fR v10)).mono ?_;rintro e a7 ⟨rfl,hf⟩;have X7:Hid (Frm Nix v10 a7):=(fR v10).trans hf;have U7:=h_ hf;clear hf);obtain⟨h7,hh7⟩:∃ h7,a7.heap.size=h7:=⟨_,rfl⟩;obtain⟨b7,hb7⟩:∃ b7,b7=a7.alloc (.cells #[.int .i64 (folAt x ii).id,.int .i64 (folAt x ii).inn,.string (folAt x ii).name] 49):=⟨_,rfl⟩;rw[← hb7];have N7:Hid (Blk b7 h7 49 #[.int .i64 (folAt x ii).id,.int .i64 (folAt x ii).inn,.string (folAt x ii).name]):=by unfold Hid;rw[hb7,← hh7];exact Blk.new a7 _ _
 have hf:Frm Nix a7 b7:=by rw[hb7];exact(fR a7).alloc _
 rw[hh7];have Y7:Hid (Frm Nix v10 b7):=X7.out.trans hf;skip;have V7:=h_ (U7.out.trans hf);clear hb7 hf hh7;refine peelK (k':=13) fun K hK=>?_
 conv in hdC _=>whnf
 go_wp2_with (go_at_call 31;refine(KQ8.out _ Y7.out).mono ?_;rintro e a8 ⟨rfl,hf⟩;have X8:Hid (Frm Nix v10 a8):=Y7.out.trans hf;have U8:=h_ hf;clear hf);obtain⟨h8,hh8⟩:∃ h8,a8.heap.size=h8:=⟨_,rfl⟩;obtain⟨b8,hb8⟩:∃ b8,b8=a8.alloc (.cells #[.int .i64 (feeAt x ii).id,.int .i64 (feeAt x ii).inn,.string (feeAt x ii).url,.string (feeAt x ii).title] 51):=⟨_,rfl⟩;rw[← hb8];have N8:Hid (Blk b8 h8 51 #[.int .i64 (feeAt x ii).id,.int .i64 (feeAt x ii).inn,.string (feeAt x ii).url,.string (feeAt x ii).title]):=by unfold Hid;rw[hb8,← hh8];exact Blk.new a8 _ _
 have hf:Frm Nix a8 b8:=by rw[hb8];exact(fR a8).alloc _
 rw[hh8];have Y8:Hid (Frm Nix v10 b8):=X8.out.trans hf;skip;have V8:=h_ (U8.out.trans hf);clear hb8 hf hh8;refine peelK (k':=14) fun K hK=>?_
 conv in hdC _=>whnf
 go_wp2_with (go_at_call 32;refine(KQ9.out _ Y8.out).mono ?_;rintro e a9 ⟨ti,rfl,ht,hf⟩;have HTi0:=h_ ht;have X9:Hid (Frm Nix v10 a9):=Y8.out.trans hf;have U9:=h_ hf;clear hf ht);obtain⟨h9,hh9⟩:∃ h9,a9.heap.size=h9:=⟨_,rfl⟩;obtain⟨b9,hb9⟩:∃ b9,b9=a9.alloc (.cells #[.int .i64 (itmAt x ii).id,.int .i64 (itmAt x ii).feed,.int .i64 (itmAt x ii).date,.string (itmAt x ii).guid,.string (itmAt x ii).title,.string (itmAt x ii).link,.bool (itmAt x ii).read,.bool (itmAt x ii).star,.slice ti.1 (itmAt x ii).tags.length ti.2] 54):=⟨_,rfl⟩;rw[← hb9];have N9:Hid (Blk b9 h9 54 #[.int .i64 (itmAt x ii).id,.int .i64 (itmAt x ii).feed,.int .i64 (itmAt x ii).date,.string (itmAt x ii).guid,.string (itmAt x ii).title,.string (itmAt x ii).link,.bool (itmAt x ii).read,.bool (itmAt x ii).star,.slice ti.1 (itmAt x ii).tags.length ti.2]):=by unfold Hid;rw[hb9,← hh9];exact Blk.new a9 _ _
 have hf:Frm Nix a9 b9:=by rw[hb9];exact(fR a9).alloc _
 rw[hh9];have Y9:Hid (Frm Nix v10 b9):=X9.out.trans hf;have HTi1:=h_ (HTi0.out.nix hf);have V9:=h_ (U9.out.trans hf);clear hb9 hf hh9;refine peelK (k':=15) fun K hK=>?_
 conv in hdC _=>whnf
 go_wp2_with (go_at_call 33;refine(KQ10.out _ Y9.out).mono ?_;rintro e a10 ⟨rfl,hf⟩;have X10:Hid (Frm Nix v10 a10):=Y9.out.trans hf;have U10:=h_ hf;clear hf);obtain⟨h10,hh10⟩:∃ h10,a10.heap.size=h10:=⟨_,rfl⟩;obtain⟨b10,hb10⟩:∃ b10,b10=a10.alloc (.cells #[.int .i64 (seaAt x ii).id,.string (seaAt x ii).name,.string (seaAt x ii).query] 56):=⟨_,rfl⟩;rw[← hb10];have N10:Hid (Blk b10 h10 56 #[.int .i64 (seaAt x ii).id,.string (seaAt x ii).name,.string (seaAt x ii).query]):=by unfold Hid;rw[hb10,← hh10];exact Blk.new a10 _ _
 have hf:Frm Nix a10 b10:=by rw[hb10];exact(fR a10).alloc _
 rw[hh10];have Y10:Hid (Frm Nix v10 b10):=X10.out.trans hf;skip;have V10:=h_ (U10.out.trans hf);clear hb10 hf hh10;have G7:=h_ ((((N7.out.frm V8.out id).frm V9.out id).frm V10.out id));have G8:=h_ (((N8.out.frm V9.out id).frm V10.out id));have G9:=h_ ((N9.out.frm V10.out id));have G10:=h_ (N10.out);have HTi:=h_ (HTi1.out.nix V10.out);have e70:=((E7a.out.frm Y10.out id).cell 0).trans rfl;have e71:=((E7a.out.frm Y10.out id).cell 1).trans rfl;have e72:=((E7a.out.frm Y10.out id).cell 2).trans rfl;have f70:=((G7.out).cell 0).trans rfl;have f71:=((G7.out).cell 1).trans rfl;have f72:=((G7.out).cell 2).trans rfl;have e80:=((E8a.out.frm Y10.out id).cell 0).trans rfl;have e81:=((E8a.out.frm Y10.out id).cell 1).trans rfl;have e82:=((E8a.out.frm Y10.out id).cell 2).trans rfl;have e83:=((E8a.out.frm Y10.out id).cell 3).trans rfl;have f80:=((G8.out).cell 0).trans rfl;have f81:=((G8.out).cell 1).trans rfl;have f82:=((G8.out).cell 2).trans rfl;have f83:=((G8.out).cell 3).trans rfl;have e90:=((E9a.out.frm Y10.out id).cell 0).trans rfl;have e91:=((E9a.out.frm Y10.out id).cell 1).trans rfl;have e92:=((E9a.out.frm Y10.out id).cell 2).trans rfl;have e93:=((E9a.out.frm Y10.out id).cell 3).trans rfl;have e94:=((E9a.out.frm Y10.out id).cell 4).trans rfl;have e95:=((E9a.out.frm Y10.out id).cell 5).trans rfl;have e96:=((E9a.out.frm Y10.out id).cell 6).trans rfl;have e97:=((E9a.out.frm Y10.out id).cell 7).trans rfl;have e98:=((E9a.out.frm Y10.out id).cell 8).trans rfl;have f90:=((G9.out).cell 0).trans rfl;have f91:=((G9.out).cell 1).trans rfl;have f92:=((G9.out).cell 2).trans rfl;have f93:=((G9.out).cell 3).trans rfl;have f94:=((G9.out).cell 4).trans rfl;have f95:=((G9.out).cell 5).trans rfl;have f96:=((G9.out).cell 6).trans rfl;have f97:=((G9.out).cell 7).trans rfl;have f98:=((G9.out).cell 8).trans rfl;have e100:=((E10.out.frm Y10.out id).cell 0).trans rfl;have e101:=((E10.out.frm Y10.out id).cell 1).trans rfl;have e102:=((E10.out.frm Y10.out id).cell 2).trans rfl;have f100:=((G10.out).cell 0).trans rfl;have f101:=((G10.out).cell 1).trans rfl;have f102:=((G10.out).cell 2).trans rfl
 have HSm9:Hid ((itmAt x ii).tags.length≤1000000):=by
  unfold Hid itmAt
  cases h1:atI Itm.id ii x.itms with
  | none=>exact Nat.zero_le _
  | some t=>have:=HP.out.small.tags t (atI_mem h1).1;simp only[Option.elim,id];omega
 have KSI:Hid (∀ W,Frm Nix b10 W→Calls Tryz.prog 34 #[.agg #[.int .i64 (itmAt x ii).id,.int .i64 (itmAt x ii).feed,.int .i64 (itmAt x ii).date,.string (itmAt x ii).guid,.string (itmAt x ii).title,.string (itmAt x ii).link,.bool (itmAt x ii).read,.bool (itmAt x ii).star,.slice ti.1 (itmAt x ii).tags.length ti.2],.agg #[.int .i64 (itmAt x ii).id,.int .i64 (itmAt x ii).feed,.int .i64 (itmAt x ii).date,.string (itmAt x ii).guid,.string (itmAt x ii).title,.string (itmAt x ii).link,.bool (itmAt x ii).read,.bool (itmAt x ii).star,.slice tv.1 (itmAt x ii).tags.length tv.2]] W fun e w'=>e=.returned (.bool true)∧Frm Nix W w'):=fun W hW=>by
  have:=rSameItem_any (itmAt x ii) (itmAt x ii) (HTi.out.nix hW) ((HTa.out.nix Y10.out).nix hW) HSm9.out HSm9.out;rw[decide_eq_true rfl] at this;exact this
 refine peelK (k':=16) fun K hK=>?_
 conv in hdC _=>whnf
 go_wp2_with (go_at_call 34;refine(KSI.out _ (fR b10)).mono ?_;rintro e c1 ⟨rfl,hf⟩;have XS:=h_ hf;clear hf;have e100:=((E10.out.frm (Y10.out.trans XS.out) id).cell 0).trans rfl;have f100:=((G10.out.frm XS.out id).cell 0).trans rfl;have e101:=((E10.out.frm (Y10.out.trans XS.out) id).cell 1).trans rfl;have f101:=((G10.out.frm XS.out id).cell 1).trans rfl;have e102:=((E10.out.frm (Y10.out.trans XS.out) id).cell 2).trans rfl;have f102:=((G10.out.frm XS.out id).cell 2).trans rfl;skip);have H11:=h_ ((H9.out.nix Y10.out).nix XS.out);have B11:=h_ ((B9.out.frm Y10.out id).frm XS.out id);have D11:=h_ ((D9.out.nix Y10.out).nix XS.out);have Z11:Hid (Frm Nix w c1):=(Z9.out.trans Y10.out).trans XS.out;clear e70 f70 e71 f71 e72 f72 e80 f80 e81 f81 e82 f82 e83 f83 e90 f90 e91 f91 e92 f92 e93 f93 e94 f94 e95 f95 e96 f96 e97 f97 e98 f98 e100 f100 e101 f101 e102 f102;obtain⟨pl,hpl⟩:∃ pl,placeS x url=pl:=⟨_,rfl⟩;obtain⟨gd,hgd⟩:∃ gd,guidS x ii guid=gd:=⟨_,rfl⟩
 have KPl:Hid (Calls Tryz.prog 35 #[.pointer (some ⟨g,0,none⟩),.string url] c1 fun e w'=>e=.returned (.tuple #[.int .i64 pl,.bool (decide (0<pl))])∧c1=w'):=by
  have:=Place_any H11.out url HU.out;rw[place_pos HP.out,hpl] at this;exact this
 have KGd:Hid (Calls Tryz.prog 36 #[.pointer (some ⟨g,0,none⟩),.int .i64 ii,.string guid] c1 fun e w'=>e=.returned (.tuple #[.int .i64 gd,.bool (decide (0<gd))])∧c1=w'):=by
  have:=Guid_any H11.out HI.out guid HGu.out;rw[guid_pos HP.out,hgd] at this;exact this
 have KrP:Hid (∀ W,Frm Nix c1 W→Calls Tryz.prog 37 #[stV fo fe it se x,.string url] W fun e w'=>e=.returned (.int .i64 pl)∧Frm Nix W w'):=fun W hW=>by rw[← hpl];exact rPlace_any (D11.out.nix hW) HP.out.small url
 have KrG:Hid (∀ W,Frm Nix c1 W→Calls Tryz.prog 38 #[stV fo fe it se x,.int .i64 ii,.string guid] W fun e w'=>e=.returned (.int .i64 gd)∧Frm Nix W w'):=fun W hW=>by rw[← hgd];exact rGuid_any (D11.out.nix hW) HP.out.small ii guid
 clear hpl hgd;refine peelK (k':=17) fun K hK=>?_
 conv in hdC _=>whnf
 go_wp2_with (go_at_call 35;refine KPl.out.mono ?_;rintro e w' ⟨rfl,rfl⟩);refine peelK (k':=18) fun K hK=>?_
 conv in hdC _=>whnf
 go_wp2_with (go_at_call 36;refine KGd.out.mono ?_;rintro e w' ⟨rfl,rfl⟩);obtain⟨x0,x1,x2,x3,x4,x5,x6,x7,x8⟩:=blk9 B11.out;simp only[peel,bodyOf,Tryz.f6]
 go_wp2_with (first
  | (go_at_call 38;have _q:=Q1;refine(KrG.out _ Q1.out).mono ?_;rintro e c3 ⟨rfl,hf⟩;have Q2:Hid (Frm Nix c1 c3):=Q1.out.trans hf;clear hf)
  | (go_at_call 37;refine(KrP.out _ (fR c1)).mono ?_;rintro e c2 ⟨rfl,hf⟩;have Q1:=h_ hf;clear hf x0 x1 x2 x3 x4 x5 x6 x7 x8;obtain⟨x0,x1,x2,x3,x4,x5,x6,x7,x8⟩:=blk9 (B11.out.frm Q1.out id)))
 go_ret;exact⟨rfl,Z11.out.trans Q2.out⟩
theorem asks_walk{w:World}{G:Nat→Prop}{v:Sl}{l:List Ev}(hl:EvsIn w G v l)(ii:Int)(hid:I64 ii)(url guid:ByteArray)(hu:url.size≤maxLen)(hg:guid.size≤maxLen):Calls Tryz.prog 6 #[.slice v.1 l.length v.2,.int .i64 ii,.string url,.string guid] w fun e w'=>e=.returned (.bool true)∧Frm Nix w w':=by
 cases h1:largeEvs l with
 | true=>exact asks_l1 hl ii hid url guid hu hg h1
 | false=>
   by_cases h2:1000<url.size
   ·exact asks_l2 hl ii hid url guid hu hg ⟨h1,h2⟩
   ·by_cases h3:1000<guid.size
    ·exact asks_l3 hl ii hid url guid hu hg ⟨h1,h2,h3⟩
    ·exact asks_walk0 hl ii hid url guid hu hg ⟨h1,h2,h3⟩
end Go.Proofs.YtlafbakoefcifaaGreat
