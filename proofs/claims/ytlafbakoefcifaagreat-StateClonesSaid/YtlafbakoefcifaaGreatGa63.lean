/-
  The walk of StateClones.
-/
import Derived.Test.YtlafbakoefcifaaGreatGa51
import Derived.Test.YtlafbakoefcifaaGreatGa39
import Derived.Test.YtlafbakoefcifaaGreatGa26
import Derived.Test.YtlafbakoefcifaaGreatGa27
set_option linter.unusedVariables false
set_option linter.unusedSimpArgs false
set_option maxRecDepth 100000
set_option maxHeartbeats 16000000
namespace Go.Proofs.YtlafbakoefcifaaGreat
open Go.RowKit Go.Lib
theorem evs_app2 {w:World} {G G':Nat→Prop} {A B:Option Addr} {c d:Nat} {l m:List Ev} {n1 n2 N:Nat} (hl:SlIn w G 7 (A,c) l.length (l.flatMap Ev.cells)) (hm:SlIn w G' 7 (B,d) m.length (m.flatMap Ev.cells)) (h1:l.length=n1) (h2:m.length=n2) (hN:(l++m).length=N) (hb:N≤100000):
  ∃ v1 w1 C e w2,(∀ ty,(Builtin.append_ #[22,22] ty #[.slice (some ⟨w.heap.size,0,none⟩) 0 0,.slice A n1 c]).run Tryz.prog (w.alloc (.cells #[] 38))=.ok v1 w1)∧(∀ ty,(Builtin.append_ #[22,22] ty #[v1,.slice B n2 d]).run Tryz.prog w1=.ok (.slice C N e) w2)∧SlIn w2 (fun k=>w.heap.size≤k) 7 (C,e) (l++m).length ((l++m).flatMap Ev.cells)∧Frm Nix w w2:=by
 have hs:l.length+m.length=N:=by rw[← hN,List.length_append]
 subst h1 h2
 have f0:Frm Nix w (w.alloc (.cells #[] 38)):=(Frm.refl Nix w).alloc _
 have hM:=maxL
 obtain⟨v1,w1,r1,q1,-⟩:=(RowK.empty 38 7 (Frm.refl Nix w)).app elemEv c (hl.nix f0).rd (ev_one l) (by omega) (by omega)
 obtain⟨v2,w2,r2,q2,-⟩:=q1.app elemEv d (hm.nix q1.frm).rd (ev_one m) (by omega) (by omega)
 obtain⟨C,e,rfl,-⟩:=q2.shape
 have hn:0+l.length+m.length=N:=by omega
 rw[hn] at r2 q2
 have q3:=q2.sl
 rw[List.nil_append,← List.flatMap_append] at q3
 exact⟨v1,w1,C,e,w2,r1,r2,by rw[hN];exact q3,q2.frm⟩
theorem wpList_append_run_g {P:Program} {w w':World} {v u v':Value} {t:TypeId} (hrun:∀ ty,(Builtin.append_ #[t,t] ty #[v,u]).run P w=.ok v' w')
  {ops:Array Oper} {rest:List Oper} {o:Oper} {a:Act} {Q:Exit→Act→World→Prop} (hw:Region.wanted o (yielded ops a.tmps)=true) (s x:Operand)
  (ho:o.op=.call {callee:=.builtin .append,args:=#[s,x],argTypes:=#[t,t]}) (hs:a.eval s=v) (hx:a.eval x=u)
  (h:wpList P ops Q rest (a.put o.dst v') w'):wpList P ops Q (o::rest) a w:=
 wpList_step fun K hK=>by
  rw[if_pos hw]
  unfold Oper.wp execOp
  simp only[ho,resolve,invoke,builtin,Sem.run_bind,Sem.run_pure,Result.andThen_ok,List.map_toArray,List.map_cons,List.map_nil,hs,hx,hrun]
  exact hK _ _ h
theorem clones_large1 {w:World} {G1 G2 G3:Nat→Prop} {v1 v2 v3:Sl} {l a b:List Ev} (hl:EvsIn w G1 v1 l) (ha:EvsIn w G2 v2 a) (hb:EvsIn w G3 v3 b) (hlg:largeEvs l=true):Calls Tryz.prog 5 #[.slice v1.1 l.length v1.2,.slice v2.1 a.length v2.2,.slice v3.1 b.length v3.2] w fun e w'=>e=.returned (.bool true)∧Frm Nix w w':=by
 have HL:=Lib.hid hl
 have HA:=Lib.hid ha
 have HB:=Lib.hid hb
 have HLG:=Lib.hid hlg
 clear hl ha hb hlg
 obtain⟨Al,cl⟩:=v1
 obtain⟨Aa,ca⟩:=v2
 obtain⟨Ab,cb⟩:=v3
 have Kl:Hid (∀ W,Frm Nix w W→Calls Tryz.prog 11 #[.slice Al l.length cl] W fun e w'=>e=.returned (.bool (largeEvs l))∧Frm Nix W w'):=fun W hW=>(HL.out.nix hW).large
 have Ka:Hid (∀ W,Frm Nix w W→Calls Tryz.prog 11 #[.slice Aa a.length ca] W fun e w'=>e=.returned (.bool (largeEvs a))∧Frm Nix W w'):=fun W hW=>(HA.out.nix hW).large
 have Kb:Hid (∀ W,Frm Nix w W→Calls Tryz.prog 11 #[.slice Ab b.length cb] W fun e w'=>e=.returned (.bool (largeEvs b))∧Frm Nix W w'):=fun W hW=>(HB.out.nix hW).large
 have KF:Hid (∀ W,Frm Nix w W→largeEvs l=false→Calls Tryz.prog 15 #[.slice Al l.length cl] W fun e w'=>∃ g M,e=.returned (.pointer (some ⟨g,0,none⟩))∧StAt w' g M (foldE st0 l)∧Frm Nix W w'∧∀ k,SF g M k→W.heap.size≤k):=fun W hW=>(HL.out.nix hW).fold
 dsimp only
 obtain⟨nl,hnl⟩:∃ nl,l.length=nl:=⟨_,rfl⟩
 obtain⟨na,hna⟩:∃ na,a.length=na:=⟨_,rfl⟩
 obtain⟨nb,hnb⟩:∃ nb,b.length=nb:=⟨_,rfl⟩
 rw[HLG.out,hnl] at Kl
 rw[hnl,hna,hnb]
 clear hnl hna hnb
 go_enter Tryz.func5,Tryz.ntmps5
 go_wp2_with (first
  | (go_at_call 8;have _q:=Z1;refine(lives_any _).mono ?_;rintro e w2 ⟨rfl,hf⟩;have Z2:Hid (Frm Nix w w2):=Z1.out.trans hf;clear hf)
  | (go_at_call 11;refine(Kl.out _ (Frm.refl Nix w)).mono ?_;rintro e w1 ⟨rfl,hf⟩;have Z1:=Lib.hid hf;clear hf))
 go_ret
 exact⟨rfl,Z2.out⟩
theorem clones_large2 {w:World} {G1 G2 G3:Nat→Prop} {v1 v2 v3:Sl} {l a b:List Ev} (hl:EvsIn w G1 v1 l) (ha:EvsIn w G2 v2 a) (hb:EvsIn w G3 v3 b) (hlg:largeEvs l=false∧largeEvs a=true):Calls Tryz.prog 5 #[.slice v1.1 l.length v1.2,.slice v2.1 a.length v2.2,.slice v3.1 b.length v3.2] w fun e w'=>e=.returned (.bool true)∧Frm Nix w w':=by
 have HL:=Lib.hid hl
 have HA:=Lib.hid ha
 have HB:=Lib.hid hb
 have HLG:=Lib.hid hlg
 clear hl ha hb hlg
 obtain⟨Al,cl⟩:=v1
 obtain⟨Aa,ca⟩:=v2
 obtain⟨Ab,cb⟩:=v3
 have Kl:Hid (∀ W,Frm Nix w W→Calls Tryz.prog 11 #[.slice Al l.length cl] W fun e w'=>e=.returned (.bool (largeEvs l))∧Frm Nix W w'):=fun W hW=>(HL.out.nix hW).large
 have Ka:Hid (∀ W,Frm Nix w W→Calls Tryz.prog 11 #[.slice Aa a.length ca] W fun e w'=>e=.returned (.bool (largeEvs a))∧Frm Nix W w'):=fun W hW=>(HA.out.nix hW).large
 have Kb:Hid (∀ W,Frm Nix w W→Calls Tryz.prog 11 #[.slice Ab b.length cb] W fun e w'=>e=.returned (.bool (largeEvs b))∧Frm Nix W w'):=fun W hW=>(HB.out.nix hW).large
 have KF:Hid (∀ W,Frm Nix w W→largeEvs l=false→Calls Tryz.prog 15 #[.slice Al l.length cl] W fun e w'=>∃ g M,e=.returned (.pointer (some ⟨g,0,none⟩))∧StAt w' g M (foldE st0 l)∧Frm Nix W w'∧∀ k,SF g M k→W.heap.size≤k):=fun W hW=>(HL.out.nix hW).fold
 dsimp only
 obtain⟨nl,hnl⟩:∃ nl,l.length=nl:=⟨_,rfl⟩
 obtain⟨na,hna⟩:∃ na,a.length=na:=⟨_,rfl⟩
 obtain⟨nb,hnb⟩:∃ nb,b.length=nb:=⟨_,rfl⟩
 rw[HLG.out.1,hnl] at Kl
 rw[HLG.out.2,hna] at Ka
 rw[hnl,hna,hnb]
 clear hnl hna hnb
 go_enter Tryz.func5,Tryz.ntmps5
 go_wp2_with (first
  | (go_at_call 8;have _q:=Z2;refine(lives_any _).mono ?_;rintro e w3 ⟨rfl,hf⟩;have Z3:Hid (Frm Nix w w3):=Z2.out.trans hf;clear hf)
  | (go_at_call 11;have _q:=Z1;refine(Ka.out _ Z1.out).mono ?_;rintro e w2 ⟨rfl,hf⟩;have Z2:Hid (Frm Nix w w2):=Z1.out.trans hf;clear hf)
  | (go_at_call 11;refine(Kl.out _ (Frm.refl Nix w)).mono ?_;rintro e w1 ⟨rfl,hf⟩;have Z1:=Lib.hid hf;clear hf))
 go_ret
 exact⟨rfl,Z3.out⟩
theorem clones_large3 {w:World} {G1 G2 G3:Nat→Prop} {v1 v2 v3:Sl} {l a b:List Ev} (hl:EvsIn w G1 v1 l) (ha:EvsIn w G2 v2 a) (hb:EvsIn w G3 v3 b) (hlg:largeEvs l=false∧largeEvs a=false∧largeEvs b=true):Calls Tryz.prog 5 #[.slice v1.1 l.length v1.2,.slice v2.1 a.length v2.2,.slice v3.1 b.length v3.2] w fun e w'=>e=.returned (.bool true)∧Frm Nix w w':=by
 have HL:=Lib.hid hl
 have HA:=Lib.hid ha
 have HB:=Lib.hid hb
 have HLG:=Lib.hid hlg
 clear hl ha hb hlg
 obtain⟨Al,cl⟩:=v1
 obtain⟨Aa,ca⟩:=v2
 obtain⟨Ab,cb⟩:=v3
 have Kl:Hid (∀ W,Frm Nix w W→Calls Tryz.prog 11 #[.slice Al l.length cl] W fun e w'=>e=.returned (.bool (largeEvs l))∧Frm Nix W w'):=fun W hW=>(HL.out.nix hW).large
 have Ka:Hid (∀ W,Frm Nix w W→Calls Tryz.prog 11 #[.slice Aa a.length ca] W fun e w'=>e=.returned (.bool (largeEvs a))∧Frm Nix W w'):=fun W hW=>(HA.out.nix hW).large
 have Kb:Hid (∀ W,Frm Nix w W→Calls Tryz.prog 11 #[.slice Ab b.length cb] W fun e w'=>e=.returned (.bool (largeEvs b))∧Frm Nix W w'):=fun W hW=>(HB.out.nix hW).large
 have KF:Hid (∀ W,Frm Nix w W→largeEvs l=false→Calls Tryz.prog 15 #[.slice Al l.length cl] W fun e w'=>∃ g M,e=.returned (.pointer (some ⟨g,0,none⟩))∧StAt w' g M (foldE st0 l)∧Frm Nix W w'∧∀ k,SF g M k→W.heap.size≤k):=fun W hW=>(HL.out.nix hW).fold
 dsimp only
 obtain⟨nl,hnl⟩:∃ nl,l.length=nl:=⟨_,rfl⟩
 obtain⟨na,hna⟩:∃ na,a.length=na:=⟨_,rfl⟩
 obtain⟨nb,hnb⟩:∃ nb,b.length=nb:=⟨_,rfl⟩
 rw[HLG.out.1,hnl] at Kl
 rw[HLG.out.2.1,hna] at Ka
 rw[HLG.out.2.2,hnb] at Kb
 rw[hnl,hna,hnb]
 clear hnl hna hnb
 go_enter Tryz.func5,Tryz.ntmps5
 go_wp2_with (first
  | (go_at_call 8;have _q:=Z3;refine(lives_any _).mono ?_;rintro e w4 ⟨rfl,hf⟩;have Z4:Hid (Frm Nix w w4):=Z3.out.trans hf;clear hf)
  | (go_at_call 11;have _q:=Z2;refine(Kb.out _ Z2.out).mono ?_;rintro e w3 ⟨rfl,hf⟩;have Z3:Hid (Frm Nix w w3):=Z2.out.trans hf;clear hf)
  | (go_at_call 11;have _q:=Z1;refine(Ka.out _ Z1.out).mono ?_;rintro e w2 ⟨rfl,hf⟩;have Z2:Hid (Frm Nix w w2):=Z1.out.trans hf;clear hf)
  | (go_at_call 11;refine(Kl.out _ (Frm.refl Nix w)).mono ?_;rintro e w1 ⟨rfl,hf⟩;have Z1:=Lib.hid hf;clear hf))
 go_ret
 exact⟨rfl,Z4.out⟩
theorem clones_walk0 {w:World} {G1 G2 G3:Nat→Prop} {v1 v2 v3:Sl} {l a b:List Ev} (hl:EvsIn w G1 v1 l) (ha:EvsIn w G2 v2 a) (hb:EvsIn w G3 v3 b) (hG2:∀ k,G2 k→k<w.heap.size) (hG3:∀ k,G3 k→k<w.heap.size) (hlg:largeEvs l=false∧largeEvs a=false∧largeEvs b=false):Calls Tryz.prog 5 #[.slice v1.1 l.length v1.2,.slice v2.1 a.length v2.2,.slice v3.1 b.length v3.2] w fun e w'=>e=.returned (.bool true)∧Frm Nix w w':=by
 have HL:=Lib.hid hl
 have HA:=Lib.hid ha
 have HB:=Lib.hid hb
 have HLG:=Lib.hid hlg
 clear hl ha hb hlg
 obtain⟨Al,cl⟩:=v1
 obtain⟨Aa,ca⟩:=v2
 obtain⟨Ab,cb⟩:=v3
 have Kl:Hid (∀ W,Frm Nix w W→Calls Tryz.prog 11 #[.slice Al l.length cl] W fun e w'=>e=.returned (.bool (largeEvs l))∧Frm Nix W w'):=fun W hW=>(HL.out.nix hW).large
 have Ka:Hid (∀ W,Frm Nix w W→Calls Tryz.prog 11 #[.slice Aa a.length ca] W fun e w'=>e=.returned (.bool (largeEvs a))∧Frm Nix W w'):=fun W hW=>(HA.out.nix hW).large
 have Kb:Hid (∀ W,Frm Nix w W→Calls Tryz.prog 11 #[.slice Ab b.length cb] W fun e w'=>e=.returned (.bool (largeEvs b))∧Frm Nix W w'):=fun W hW=>(HB.out.nix hW).large
 have KF:Hid (∀ W,Frm Nix w W→largeEvs l=false→Calls Tryz.prog 15 #[.slice Al l.length cl] W fun e w'=>∃ g M,e=.returned (.pointer (some ⟨g,0,none⟩))∧StAt w' g M (foldE st0 l)∧Frm Nix W w'∧∀ k,SF g M k→W.heap.size≤k):=fun W hW=>(HL.out.nix hW).fold
 dsimp only
 obtain⟨nl,hnl⟩:∃ nl,l.length=nl:=⟨_,rfl⟩
 obtain⟨na,hna⟩:∃ na,a.length=na:=⟨_,rfl⟩
 obtain⟨nb,hnb⟩:∃ nb,b.length=nb:=⟨_,rfl⟩
 obtain⟨x,hx⟩:∃ x,foldE st0 l=x:=⟨_,rfl⟩
 have HP:Hid (StP x):=by rw[← hx];exact foldE_ok l st0_ok
 have HX:=Lib.hid hx
 have HN:=Lib.hid (And.intro hnl (And.intro hna hnb))
 have hl150:=largeEvs_len HLG.out.1
 have ha150:=largeEvs_len HLG.out.2.1
 have hb150:=largeEvs_len HLG.out.2.2
 rw[hnl] at hl150
 rw[hna] at ha150
 rw[hnb] at hb150
 rw[HLG.out.1,hnl] at Kl
 rw[HLG.out.2.1,hna] at Ka
 rw[HLG.out.2.2,hnb] at Kb
 have KF2:=Lib.hid (fun W hW=>KF.out W hW HLG.out.1)
 rw[hnl,hx] at KF2
 rw[hnl,hna,hnb]
 clear hnl hna hnb hx KF
 go_enter Tryz.func5,Tryz.ntmps5
 show Code.wp Tryz.prog (peel 0 (bodyOf Tryz.f5)) _ _ _
 have e1:peel 0 (bodyOf Tryz.f5)=.seq (hdC (peel 0 (bodyOf Tryz.f5))) (peel 1 (bodyOf Tryz.f5)):=by kernel_rfl
 rw[e1]
 clear e1
 refine wp_seq_k fun K hK=>?_
 conv in hdC _=>whnf
 go_wp2
 have e1:peel 1 (bodyOf Tryz.f5)=.seq (hdC (peel 1 (bodyOf Tryz.f5))) (peel 2 (bodyOf Tryz.f5)):=by kernel_rfl
 rw[e1]
 clear e1
 refine wp_seq_k fun K hK=>?_
 conv in hdC _=>whnf
 go_wp2_with (first
  | (go_at_call 11;have _q:=Z2;refine(Kb.out _ Z2.out).mono ?_;rintro e w3 ⟨rfl,hf⟩;have Z3:Hid (Frm Nix w w3):=Z2.out.trans hf;clear hf)
  | (go_at_call 11;have _q:=Z1;refine(Ka.out _ Z1.out).mono ?_;rintro e w2 ⟨rfl,hf⟩;have Z2:Hid (Frm Nix w w2):=Z1.out.trans hf;clear hf)
  | (go_at_call 11;refine(Kl.out _ (Frm.refl Nix w)).mono ?_;rintro e w1 ⟨rfl,hf⟩;have Z1:=Lib.hid hf;clear hf))
 have e1:peel 2 (bodyOf Tryz.f5)=.seq (hdC (peel 2 (bodyOf Tryz.f5))) (peel 3 (bodyOf Tryz.f5)):=by kernel_rfl
 rw[e1]
 clear e1
 refine wp_seq_k fun K hK=>?_
 conv in hdC _=>whnf
 go_wp2_with (go_at_call 15;refine(KF2.out _ Z3.out).mono ?_;rintro e w4 ⟨g,M,rfl,hs,hf,hg⟩;have HG:Hid (∀ k,SF g M k→w.heap.size≤k):=(fun k hk=>Nat.le_trans Z3.out.size (hg k hk));have H4:=Lib.hid hs;have Z4:Hid (Frm Nix w w4):=Z3.out.trans hf;clear hs hf hg)
 have e1:peel 3 (bodyOf Tryz.f5)=.seq (hdC (peel 3 (bodyOf Tryz.f5))) (peel 4 (bodyOf Tryz.f5)):=by kernel_rfl
 rw[e1]
 clear e1
 refine wp_seq_k fun K hK=>?_
 conv in hdC _=>whnf
 go_wp2_with (go_at_call 8;refine(lives_any _).mono ?_;rintro e w5 ⟨rfl,hf⟩;have H5:=Lib.hid (H4.out.nix hf);have Z5:Hid (Frm Nix w w5):=Z4.out.trans hf;clear hf)
 have e1:peel 4 (bodyOf Tryz.f5)=.seq (hdC (peel 4 (bodyOf Tryz.f5))) (peel 5 (bodyOf Tryz.f5)):=by kernel_rfl
 rw[e1]
 clear e1
 refine wp_seq_k fun K hK=>?_
 conv in hdC _=>whnf
 go_wp2_with (go_at_call 19;refine(Clone_st H5.out).mono ?_;rintro e w6 ⟨g2,M2,rfl,hs,hs2,hf,hg⟩;have HG2:Hid (∀ k,SF g2 M2 k→w.heap.size≤k):=(fun k hk=>Nat.le_trans Z5.out.size (hg k hk));have HD:Hid (∀ k,SF g M k→¬SF g2 M2 k):=(fun k h1 h2=>by have:=H5.out.lt k h1;have:=hg k h2;omega);have H6:=Lib.hid hs;have J6:=Lib.hid hs2;have Z6:Hid (Frm Nix w w6):=Z5.out.trans hf;clear hs hs2 hf hg)
 have KS:Hid (∀ W fo fe it se ts G fo' fe' it' se' ts' G' y,StP y→StIn W G fo fe it se ts y→StIn W G' fo' fe' it' se' ts' y→Calls Tryz.prog 9 #[stV fo fe it se y,stV fo' fe' it' se' y] W fun e w'=>e=.returned (.bool true)∧Frm Nix W w'):=fun W fo fe it se ts G fo' fe' it' se' ts' G' y hy h h'=>by
  have:=rStSame_any h h' hy.small hy.small
  rw[decide_eq_true rfl] at this
  exact this
 have e1:peel 5 (bodyOf Tryz.f5)=.seq (hdC (peel 5 (bodyOf Tryz.f5))) (peel 6 (bodyOf Tryz.f5)):=by kernel_rfl
 rw[e1]
 clear e1
 refine wp_seq_k fun K hK=>?_
 conv in hdC _=>whnf
 go_wp2_with (first
  | (go_at_call 9;have _q:=D8;refine(KS.out _ _ _ _ _ _ _ _ _ _ _ _ _ _ HP.out D7b.out D8.out).mono ?_;rintro e w9 ⟨rfl,hf⟩;have H9:=Lib.hid (H8.out.nix hf);have J9:=Lib.hid (J8.out.nix hf);have Z9:Hid (Frm Nix w w9):=Z8.out.trans hf;clear hf)
  | (go_at_call 10;have _q:=D7;refine(Tell_any H7.out).mono ?_;rintro e w8 ⟨fo8,fe8,it8,se8,ts8,rfl,hd,hf⟩;have D8:=Lib.hid hd;have D7b:=Lib.hid (D7.out.nix hf);have H8:=Lib.hid (H7.out.nix hf);have J8:=Lib.hid (J7.out.nix hf);have Z8:Hid (Frm Nix w w8):=Z7.out.trans hf;clear hd hf)
  | (go_at_call 10;refine(Tell_any J6.out).mono ?_;rintro e w7 ⟨fo7,fe7,it7,se7,ts7,rfl,hd,hf⟩;have D7:=Lib.hid hd;have H7:=Lib.hid (H6.out.nix hf);have J7:=Lib.hid (J6.out.nix hf);have Z7:Hid (Frm Nix w w7):=Z6.out.trans hf;clear hd hf))
 have e1:peel 6 (bodyOf Tryz.f5)=.seq (hdC (peel 6 (bodyOf Tryz.f5))) (peel 7 (bodyOf Tryz.f5)):=by kernel_rfl
 rw[e1]
 clear e1
 refine wp_seq_k fun K hK=>?_
 conv in hdC _=>whnf
 go_wp2
 go_loopw [9] (fun kv wr=>∃ k:Nat,k≤na+nb∧kv=.int .i64 k∧StAt wr g M (foldE x (a.take k))∧StAt wr g2 M2 (foldE x (b.take k))∧Frm Nix w wr) (fun kv _=>na+nb+1 - (intOf kv).toNat)
 case atStart=>exact⟨0,by omega,rfl,H9.out,J9.out,Z9.out⟩
 case round=>
  obtain⟨k,hk,rfl,hs,hj,hf⟩:=hrel
  have H:=Lib.hid hs
  have J:=Lib.hid hj
  have Z:=Lib.hid hf
  clear hs hj hf
  by_cases hlta:k<na<;>by_cases hltb:k<nb
  ·
   have hka:k<a.length:=by rw[HN.out.2.1];exact hlta
   obtain⟨ba,offa,hAa,hgba,hbla,hcella⟩:=evs_cells HA.out.sl Z.out hka
   (try dsimp only at hAa)
   subst hAa
   have hwa:=hG2 ba hgba
   have HFTa:=Lib.hid (foldE_take (x:=x) hka)
   have hiea:=HA.out.num a[k] (List.getElem_mem hka)
   obtain⟨ea,heva⟩:∃ ea,a[k]=ea:=⟨_,rfl⟩
   rw[heva] at hcella HFTa hiea
   have HCa:Hid (∀ W,Frm (SF g M) wr W→(W.cell? ⟨ba,offa+k * 7,none⟩=some (.int .i64 ea.kind)∧W.cell? ⟨ba,offa+k * 7+1,none⟩=some (.int .i64 ea.a)∧W.cell? ⟨ba,offa+k * 7+2,none⟩=some (.int .i64 ea.b)∧W.cell? ⟨ba,offa+k * 7+3,none⟩=some (.int .i64 ea.n)∧W.cell? ⟨ba,offa+k * 7+4,none⟩=some (.string ea.s)∧W.cell? ⟨ba,offa+k * 7+5,none⟩=some (.string ea.t)∧W.cell? ⟨ba,offa+k * 7+6,none⟩=some (.string ea.u))):=fun W hW=>hcella (SF g M) W (fun h=>by have:=HG.out ba h;omega) hW
   have HIa:=Lib.hid hiea
   obtain⟨ca0,ca1,ca2,ca3,ca4,ca5,ca6⟩:=HCa.out wr (Frm.refl _ _)
   clear hcella hiea heva hgba
   have hkb:k<b.length:=by rw[HN.out.2.2];exact hltb
   obtain⟨bb,offb,hAb,hgbb,hblb,hcellb⟩:=evs_cells HB.out.sl Z.out hkb
   (try dsimp only at hAb)
   subst hAb
   have hwb:=hG3 bb hgbb
   have HFTb:=Lib.hid (foldE_take (x:=x) hkb)
   have hieb:=HB.out.num b[k] (List.getElem_mem hkb)
   obtain⟨eb,hevb⟩:∃ eb,b[k]=eb:=⟨_,rfl⟩
   rw[hevb] at hcellb HFTb hieb
   have HCb:Hid (∀ W,Frm (SF g M) wr W→(W.cell? ⟨bb,offb+k * 7,none⟩=some (.int .i64 eb.kind)∧W.cell? ⟨bb,offb+k * 7+1,none⟩=some (.int .i64 eb.a)∧W.cell? ⟨bb,offb+k * 7+2,none⟩=some (.int .i64 eb.b)∧W.cell? ⟨bb,offb+k * 7+3,none⟩=some (.int .i64 eb.n)∧W.cell? ⟨bb,offb+k * 7+4,none⟩=some (.string eb.s)∧W.cell? ⟨bb,offb+k * 7+5,none⟩=some (.string eb.t)∧W.cell? ⟨bb,offb+k * 7+6,none⟩=some (.string eb.u))):=fun W hW=>hcellb (SF g M) W (fun h=>by have:=HG.out bb h;omega) hW
   have HIb:=Lib.hid hieb
   obtain⟨cb0,cb1,cb2,cb3,cb4,cb5,cb6⟩:=HCb.out wr (Frm.refl _ _)
   clear hcellb hieb hevb hgbb
   clear cb0 cb1 cb2 cb3 cb4 cb5 cb6
   go_wp2_with (first
    | (go_at_call 14;have _q:=JJ1;refine(Apply_any JJ1.out eb HIb.out.1 HIb.out.2).mono ?_;rintro r u2 ⟨rfl,hs,hf⟩;have JJ2:Hid (StAt u2 g2 M2 (foldE x (b.take (k+1)))):=(by unfold Hid;rw[HFTb.out];exact hs);have HH2:Hid (StAt u2 g M (foldE x (a.take (k+1)))):=HH1.out.frm hf HD.out JJ1.out.str;have FF2:Hid (Frm Nix w u2):=frm_own FF1.out hf HG2.out;clear hs hf)
    | (go_at_call 14;refine(Apply_any H.out ea HIa.out.1 HIa.out.2).mono ?_;rintro r u1 ⟨rfl,hs,hf⟩;have HH1:Hid (StAt u1 g M (foldE x (a.take (k+1)))):=(by unfold Hid;rw[HFTa.out];exact hs);have JJ1:Hid (StAt u1 g2 M2 (foldE x (b.take k))):=J.out.frm hf (fun k h1 h2=>HD.out k h2 h1) H.out.str;have FF1:Hid (Frm Nix w u1):=frm_own Z.out hf HG.out;obtain⟨cb0,cb1,cb2,cb3,cb4,cb5,cb6⟩:=HCb.out _ hf;clear hs hf))
   go_roundw
   case rel=>exact⟨k+1,by omega,by go_num,HH2.out,JJ2.out,FF2.out⟩
   case measure=>simp[intOf];omega
  ·
   have hka:k<a.length:=by rw[HN.out.2.1];exact hlta
   obtain⟨ba,offa,hAa,hgba,hbla,hcella⟩:=evs_cells HA.out.sl Z.out hka
   (try dsimp only at hAa)
   subst hAa
   have hwa:=hG2 ba hgba
   have HFTa:=Lib.hid (foldE_take (x:=x) hka)
   have hiea:=HA.out.num a[k] (List.getElem_mem hka)
   obtain⟨ea,heva⟩:∃ ea,a[k]=ea:=⟨_,rfl⟩
   rw[heva] at hcella HFTa hiea
   have HCa:Hid (∀ W,Frm (SF g M) wr W→(W.cell? ⟨ba,offa+k * 7,none⟩=some (.int .i64 ea.kind)∧W.cell? ⟨ba,offa+k * 7+1,none⟩=some (.int .i64 ea.a)∧W.cell? ⟨ba,offa+k * 7+2,none⟩=some (.int .i64 ea.b)∧W.cell? ⟨ba,offa+k * 7+3,none⟩=some (.int .i64 ea.n)∧W.cell? ⟨ba,offa+k * 7+4,none⟩=some (.string ea.s)∧W.cell? ⟨ba,offa+k * 7+5,none⟩=some (.string ea.t)∧W.cell? ⟨ba,offa+k * 7+6,none⟩=some (.string ea.u))):=fun W hW=>hcella (SF g M) W (fun h=>by have:=HG.out ba h;omega) hW
   have HIa:=Lib.hid hiea
   obtain⟨ca0,ca1,ca2,ca3,ca4,ca5,ca6⟩:=HCa.out wr (Frm.refl _ _)
   clear hcella hiea heva hgba
   have HTb:Hid (b.take (k+1)=b.take k):=by
    unfold Hid
    rw[List.take_of_length_le (by rw[HN.out.2.2];omega),List.take_of_length_le (by rw[HN.out.2.2];omega)]
   go_wp2_with (go_at_call 14;refine(Apply_any H.out ea HIa.out.1 HIa.out.2).mono ?_;rintro r u1 ⟨rfl,hs,hf⟩;have HH1:Hid (StAt u1 g M (foldE x (a.take (k+1)))):=(by unfold Hid;rw[HFTa.out];exact hs);have JJ1:Hid (StAt u1 g2 M2 (foldE x (b.take k))):=J.out.frm hf (fun k h1 h2=>HD.out k h2 h1) H.out.str;have FF1:Hid (Frm Nix w u1):=frm_own Z.out hf HG.out;clear hs hf)
   have JJ3:Hid (StAt u1 g2 M2 (foldE x (b.take (k+1)))):=by unfold Hid;rw[HTb.out];exact JJ1.out
   go_roundw
   case rel=>exact⟨k+1,by omega,by go_num,HH1.out,JJ3.out,FF1.out⟩
   case measure=>simp[intOf];omega
  ·
   have hkb:k<b.length:=by rw[HN.out.2.2];exact hltb
   obtain⟨bb,offb,hAb,hgbb,hblb,hcellb⟩:=evs_cells HB.out.sl Z.out hkb
   (try dsimp only at hAb)
   subst hAb
   have hwb:=hG3 bb hgbb
   have HFTb:=Lib.hid (foldE_take (x:=x) hkb)
   have hieb:=HB.out.num b[k] (List.getElem_mem hkb)
   obtain⟨eb,hevb⟩:∃ eb,b[k]=eb:=⟨_,rfl⟩
   rw[hevb] at hcellb HFTb hieb
   have HCb:Hid (∀ W,Frm (SF g M) wr W→(W.cell? ⟨bb,offb+k * 7,none⟩=some (.int .i64 eb.kind)∧W.cell? ⟨bb,offb+k * 7+1,none⟩=some (.int .i64 eb.a)∧W.cell? ⟨bb,offb+k * 7+2,none⟩=some (.int .i64 eb.b)∧W.cell? ⟨bb,offb+k * 7+3,none⟩=some (.int .i64 eb.n)∧W.cell? ⟨bb,offb+k * 7+4,none⟩=some (.string eb.s)∧W.cell? ⟨bb,offb+k * 7+5,none⟩=some (.string eb.t)∧W.cell? ⟨bb,offb+k * 7+6,none⟩=some (.string eb.u))):=fun W hW=>hcellb (SF g M) W (fun h=>by have:=HG.out bb h;omega) hW
   have HIb:=Lib.hid hieb
   obtain⟨cb0,cb1,cb2,cb3,cb4,cb5,cb6⟩:=HCb.out wr (Frm.refl _ _)
   clear hcellb hieb hevb hgbb
   have HTa:Hid (a.take (k+1)=a.take k):=by
    unfold Hid
    rw[List.take_of_length_le (by rw[HN.out.2.1];omega),List.take_of_length_le (by rw[HN.out.2.1];omega)]
   go_wp2_with (go_at_call 14;have _q:=J;refine(Apply_any J.out eb HIb.out.1 HIb.out.2).mono ?_;rintro r u2 ⟨rfl,hs,hf⟩;have JJ2:Hid (StAt u2 g2 M2 (foldE x (b.take (k+1)))):=(by unfold Hid;rw[HFTb.out];exact hs);have HH2:Hid (StAt u2 g M (foldE x (a.take (k+1)))):=(by unfold Hid;rw[HTa.out];exact H.out.frm hf HD.out J.out.str);have FF2:Hid (Frm Nix w u2):=frm_own Z.out hf HG2.out;clear hs hf)
   go_roundw
   case rel=>exact⟨k+1,by omega,by go_num,HH2.out,JJ2.out,FF2.out⟩
   case measure=>simp[intOf];omega
  ·have hta:a.take k=a:=List.take_of_length_le (by rw[HN.out.2.1];omega)
   have htb:b.take k=b:=List.take_of_length_le (by rw[HN.out.2.2];omega)
   rw[hta] at H
   rw[htb] at J
   obtain⟨xa,hxa⟩:∃ xa,foldE x a=xa:=⟨_,rfl⟩
   obtain⟨xb,hxb⟩:∃ xb,foldE x b=xb:=⟨_,rfl⟩
   rw[hxa] at H
   rw[hxb] at J
   have HFa:Hid (foldE st0 (l++a)=xa):=by unfold Hid;rw[← hxa,← HX.out];unfold foldE;rw[List.foldl_append]
   have HFb:Hid (foldE st0 (l++b)=xb):=by unfold Hid;rw[← hxb,← HX.out];unfold foldE;rw[List.foldl_append]
   obtain⟨Na,hNa⟩:∃ Na,(l++a).length=Na:=⟨_,rfl⟩
   obtain⟨Nb,hNb⟩:∃ Nb,(l++b).length=Nb:=⟨_,rfl⟩
   have HNa:Hid ((l++a).length=Na∧Na≤100000):=⟨hNa,by rw[← hNa,List.length_append,HN.out.1,HN.out.2.1];omega⟩
   have HNb:Hid ((l++b).length=Nb∧Nb≤100000):=⟨hNb,by rw[← hNb,List.length_append,HN.out.1,HN.out.2.2];omega⟩
   have KRa:Hid (∀ W G A c,SlIn W G 7 (A,c) (l++a).length ((l++a).flatMap Ev.cells)→Calls Tryz.prog 20 #[.slice A Na c] W fun r w'=>∃ (fo fe it se:Sl) (ts:List (Sl×Itm)),r=.returned (stV fo fe it se xa)∧StIn w' (fun k=>W.heap.size≤k) fo fe it se ts xa∧Frm Nix W w'):=fun W G A c h=>by
    have:=rStFold_any (l++a) h (by have:=HNa.out;omega)
    rw[HFa.out,HNa.out.1] at this
    exact this
   have KRb:Hid (∀ W G A c,SlIn W G 7 (A,c) (l++b).length ((l++b).flatMap Ev.cells)→Calls Tryz.prog 20 #[.slice A Nb c] W fun r w'=>∃ (fo fe it se:Sl) (ts:List (Sl×Itm)),r=.returned (stV fo fe it se xb)∧StIn w' (fun k=>W.heap.size≤k) fo fe it se ts xb∧Frm Nix W w'):=fun W G A c h=>by
    have:=rStFold_any (l++b) h (by have:=HNb.out;omega)
    rw[HFb.out,HNb.out.1] at this
    exact this
   have KPa:=Lib.hid (fun W (hW:Frm Nix w W)=>evs_app2 (HL.out.sl.nix hW) (HA.out.sl.nix hW) HN.out.1 HN.out.2.1 HNa.out.1 HNa.out.2)
   have KPb:=Lib.hid (fun W (hW:Frm Nix w W)=>evs_app2 (HL.out.sl.nix hW) (HB.out.sl.nix hW) HN.out.1 HN.out.2.2 HNb.out.1 HNb.out.2)
   have HPa:Hid (StP xa):=H.out.ok
   have HPb:Hid (StP xb):=J.out.ok
   clear hta htb hxa hxb hNa hNb
   go_wp2
   simp only[peel,bodyOf,Tryz.f5]
   go_wp2_with (first
    | (at_builtin;refine wpList_append_run_g r4 (by rfl) _ _ rfl rfl rfl ?_)
    | (at_builtin;refine wpList_append_run_g r3 (by rfl) _ _ rfl rfl rfl ?_)
    | (at_builtin;refine wpList_append_run r2 rfl _ _ rfl rfl rfl ?_)
    | (at_builtin;refine wpList_append_run r1 rfl _ _ rfl rfl rfl ?_)
    | (go_at_call 9;have _q:=I6;refine(KS.out _ _ _ _ _ _ _ _ _ _ _ _ _ _ HPb.out D5.out I6.out).mono ?_;rintro e u7 ⟨rfl,hf⟩;have Y7:Hid (Frm Nix wr u7):=Y6.out.trans hf;clear hf)
    | (go_at_call 20;have _q:=V6;refine(KRb.out _ _ _ _ V6.out).mono ?_;rintro e u6 ⟨fo6,fe6,it6,se6,ts6,rfl,hd,hf⟩;have I6:=Lib.hid hd;have D5:=Lib.hid (D4.out.nix (F6.out.trans hf));have Y6:Hid (Frm Nix wr u6):=Y4.out.trans (F6.out.trans hf);clear hd hf)
    | (go_at_call 10;have _q:=Y3;refine(Tell_any (J.out.nix Y3.out)).mono ?_;rintro e u4 ⟨fo4,fe4,it4,se4,ts4,rfl,hd,hf⟩;have D4:=Lib.hid hd;have Y4:Hid (Frm Nix wr u4):=Y3.out.trans hf;obtain⟨q3,p3,C3,e3,p4,r3,r4,h4,f4⟩:=KPb.out _ (Z.out.trans Y4.out);have V6:=Lib.hid h4;have F6:=Lib.hid f4;clear hd hf h4 f4)
    | (go_at_call 9;have _q:=I2;refine(KS.out _ _ _ _ _ _ _ _ _ _ _ _ _ _ HPa.out D2.out I2.out).mono ?_;rintro e u3 ⟨rfl,hf⟩;have Y3:Hid (Frm Nix wr u3):=Y2.out.trans hf;clear hf)
    | (go_at_call 20;have _q:=V2;refine(KRa.out _ _ _ _ V2.out).mono ?_;rintro e u2 ⟨fo2,fe2,it2,se2,ts2,rfl,hd,hf⟩;have I2:=Lib.hid hd;have D2:=Lib.hid (D1.out.nix (F2.out.trans hf));have Y2:Hid (Frm Nix wr u2):=Y1.out.trans (F2.out.trans hf);clear hd hf)
    | (go_at_call 10;refine(Tell_any H.out).mono ?_;rintro e u1 ⟨fo1,fe1,it1,se1,ts1,rfl,hd,hf⟩;have D1:=Lib.hid hd;have Y1:=Lib.hid hf;obtain⟨q1,p1,C1,e1,p2,r1,r2,h2,f2⟩:=KPa.out _ (Z.out.trans Y1.out);have V2:=Lib.hid h2;have F2:=Lib.hid f2;clear hd hf h2 f2))
   go_ret
   exact⟨rfl,Z.out.trans Y7.out⟩
theorem clones_walk {w:World} {G1 G2 G3:Nat→Prop} {v1 v2 v3:Sl} {l a b:List Ev} (hl:EvsIn w G1 v1 l) (ha:EvsIn w G2 v2 a) (hb:EvsIn w G3 v3 b) (hG2:∀ k,G2 k→k<w.heap.size) (hG3:∀ k,G3 k→k<w.heap.size):Calls Tryz.prog 5 #[.slice v1.1 l.length v1.2,.slice v2.1 a.length v2.2,.slice v3.1 b.length v3.2] w fun e w'=>e=.returned (.bool true)∧Frm Nix w w':=by
 cases h1:largeEvs l with
 | true=>exact clones_large1 hl ha hb h1
 | false=>
   cases h2:largeEvs a with
   | true=>exact clones_large2 hl ha hb ⟨h1,h2⟩
   | false=>
     cases h3:largeEvs b with
     | true=>exact clones_large3 hl ha hb ⟨h1,h2,h3⟩
     | false=>exact clones_walk0 hl ha hb hG2 hG3 ⟨h1,h2,h3⟩
end Go.Proofs.YtlafbakoefcifaaGreat
