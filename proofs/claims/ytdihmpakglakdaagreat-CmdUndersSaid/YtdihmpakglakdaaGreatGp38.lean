/-
  Contracts: cmd: back, Undo.
-/
import Derived.Test.YtdihmpakglakdaaGreatGp37
import Derived.Test.YtdihmpakglakdaaGreatGp36
import Derived.Deep.RegionHeld3
set_option linter.unusedVariables false
set_option linter.unusedSimpArgs false
set_option maxRecDepth 100000
set_option maxHeartbeats 16000000
namespace Go.Proofs.YtdihmpakglakdaaGreat
open Go.RowKit Go.Lib
theorem lit_ev(w W:World)(hf:Frm Nix w W)(e:Ev):SlIn (W.alloc (.cells e.cells.toArray 43)) (fun k=>w.heap.size≤k) 7 (some ⟨W.heap.size,0,none⟩,1) 1 ([e].flatMap Ev.cells):=by
 have q:=(RowK.lit (s:=7) 43 hf 1 e.cells rfl (by unfold maxLen;omega)).sl
 simpa using q
theorem back1_any{w:World}{g:Nat}{M:Ms}{x:St}(h:StAt w g M x)(a b n:Int)(s t u:ByteArray):
  Calls Tryz.prog 73 #[.pointer (some ⟨g,0,none⟩),.agg #[.int .i64 1,.int .i64 a,.int .i64 b,.int .i64 n,.string s,.string t,.string u]] w (fun e w'=>∃ v:Sl,e=.returned (.slice v.1 (backP x ⟨1,a,b,n,s,t,u⟩).length v.2)∧SlIn w' (fun k=>w.heap.size≤k) 7 v (backP x ⟨1,a,b,n,s,t,u⟩).length ((backP x ⟨1,a,b,n,s,t,u⟩).flatMap Ev.cells)∧Frm Nix w w'):=by
 have HR:Hid (backP x ⟨1,a,b,n,s,t,u⟩=[⟨2,a,0,0,eS,eS,eS⟩]):=by unfold Hid backP;simp
 rw[HR.out];have HL:=h_ (lit_ev w (w.alloc (.cells #[.int .i64 1,.int .i64 a,.int .i64 b,.int .i64 n,.string s,.string t,.string u] 43)) ((fR w).alloc _) ⟨2,a,0,0,eS,eS,eS⟩);clear h HR;go_enter Tryz.func73,Tryz.ntmps73;go_wp2;go_ret;exact⟨(some ⟨w.heap.size+1,0,none⟩,1),rfl,by have q:=HL.out;rw[show (w.alloc (.cells #[.int .i64 1,.int .i64 a,.int .i64 b,.int .i64 n,.string s,.string t,.string u] 43)).heap.size=w.heap.size+1 by simp] at q;exact q,((fR w).alloc _).alloc _⟩
theorem back3_any{w:World}{g:Nat}{M:Ms}{x:St}(h:StAt w g M x)(a b n:Int)(s t u:ByteArray):
  Calls Tryz.prog 73 #[.pointer (some ⟨g,0,none⟩),.agg #[.int .i64 3,.int .i64 a,.int .i64 b,.int .i64 n,.string s,.string t,.string u]] w (fun e w'=>∃ v:Sl,e=.returned (.slice v.1 (backP x ⟨3,a,b,n,s,t,u⟩).length v.2)∧SlIn w' (fun k=>w.heap.size≤k) 7 v (backP x ⟨3,a,b,n,s,t,u⟩).length ((backP x ⟨3,a,b,n,s,t,u⟩).flatMap Ev.cells)∧Frm Nix w w'):=by
 have HR:Hid (backP x ⟨3,a,b,n,s,t,u⟩=[⟨4,a,0,0,eS,eS,eS⟩]):=by unfold Hid backP;simp
 rw[HR.out];have HL:=h_ (lit_ev w (w.alloc (.cells #[.int .i64 3,.int .i64 a,.int .i64 b,.int .i64 n,.string s,.string t,.string u] 43)) ((fR w).alloc _) ⟨4,a,0,0,eS,eS,eS⟩);clear h HR;go_enter Tryz.func73,Tryz.ntmps73;go_wp2;go_ret;exact⟨(some ⟨w.heap.size+1,0,none⟩,1),rfl,by have q:=HL.out;rw[show (w.alloc (.cells #[.int .i64 3,.int .i64 a,.int .i64 b,.int .i64 n,.string s,.string t,.string u] 43)).heap.size=w.heap.size+1 by simp] at q;exact q,((fR w).alloc _).alloc _⟩
theorem back11_any{w:World}{g:Nat}{M:Ms}{x:St}(h:StAt w g M x)(a b n:Int)(s t u:ByteArray):
  Calls Tryz.prog 73 #[.pointer (some ⟨g,0,none⟩),.agg #[.int .i64 11,.int .i64 a,.int .i64 b,.int .i64 n,.string s,.string t,.string u]] w (fun e w'=>∃ v:Sl,e=.returned (.slice v.1 (backP x ⟨11,a,b,n,s,t,u⟩).length v.2)∧SlIn w' (fun k=>w.heap.size≤k) 7 v (backP x ⟨11,a,b,n,s,t,u⟩).length ((backP x ⟨11,a,b,n,s,t,u⟩).flatMap Ev.cells)∧Frm Nix w w'):=by
 have HR:Hid (backP x ⟨11,a,b,n,s,t,u⟩=[⟨12,a,0,0,eS,eS,eS⟩]):=by unfold Hid backP;simp
 rw[HR.out];have HL:=h_ (lit_ev w (w.alloc (.cells #[.int .i64 11,.int .i64 a,.int .i64 b,.int .i64 n,.string s,.string t,.string u] 43)) ((fR w).alloc _) ⟨12,a,0,0,eS,eS,eS⟩);clear h HR;go_enter Tryz.func73,Tryz.ntmps73;go_wp2;go_ret;exact⟨(some ⟨w.heap.size+1,0,none⟩,1),rfl,by have q:=HL.out;rw[show (w.alloc (.cells #[.int .i64 11,.int .i64 a,.int .i64 b,.int .i64 n,.string s,.string t,.string u] 43)).heap.size=w.heap.size+1 by simp] at q;exact q,((fR w).alloc _).alloc _⟩
theorem back5_any{w:World}{g:Nat}{M:Ms}{x:St}(h:StAt w g M x)(a b n:Int)(s t u:ByteArray)(ha:I64 a):
  Calls Tryz.prog 73 #[.pointer (some ⟨g,0,none⟩),.agg #[.int .i64 5,.int .i64 a,.int .i64 b,.int .i64 n,.string s,.string t,.string u]] w (fun e w'=>∃ v:Sl,e=.returned (.slice v.1 (backP x ⟨5,a,b,n,s,t,u⟩).length v.2)∧SlIn w' (fun k=>w.heap.size≤k) 7 v (backP x ⟨5,a,b,n,s,t,u⟩).length ((backP x ⟨5,a,b,n,s,t,u⟩).flatMap Ev.cells)∧Frm Nix w w'):=by
 obtain⟨q,hq⟩:∃ q,feeAt x a=q:=⟨_,rfl⟩;have KF:=h_ (FeedS_any (h.nix ((fR w).alloc (.cells #[.int .i64 5,.int .i64 a,.int .i64 b,.int .i64 n,.string s,.string t,.string u] 43))) ha);rw[hq] at KF;generalize isI Fee.id a x.fees=ib at *
 have HR:Hid (backP x ⟨5,a,b,n,s,t,u⟩=[⟨5,a,0,0,eS,q.title,eS⟩]):=by
  unfold Hid;rw[← hq];unfold backP feeAt
  cases atI Fee.id a x.fees<;>simp[feeD]<;>rfl
 clear hq;rw[HR.out];have HL:Hid (∀ W,Frm Nix w W→SlIn (W.alloc (.cells (Ev.cells ⟨5,a,0,0,eS,q.title,eS⟩).toArray 43)) (fun k=>w.heap.size≤k) 7 (some ⟨W.heap.size,0,none⟩,1) 1 ([(⟨5,a,0,0,eS,q.title,eS⟩:Ev)].flatMap Ev.cells)):=fun W hW=>lit_ev w W hW _
 clear h HR ha;go_enter Tryz.func73,Tryz.ntmps73;go_wp2_with (first | (go_at_call 56;refine KF.out.mono ?_;rintro e w2 ⟨rfl,hf⟩;have Z2:Hid (Frm Nix w w2):=((fR w).alloc _).trans hf;have hbE:=(Blk.new w 43 #[.int .i64 5,.int .i64 a,.int .i64 b,.int .i64 n,.string s,.string t,.string u]).frm hf id;obtain⟨y0,y1,y2,y3,y4,y5,y6⟩:=blk7 hbE;have yl:=hbE.lt;clear hbE;clear hf) | fail);go_ret;exact⟨(some ⟨w2.heap.size+1,0,none⟩,1),rfl,by have zz:=HL.out _ (Z2.out.alloc (.cells #[.int .i64 q.id,.int .i64 q.inn,.string q.url,.string q.title] 73));rw[show (w2.alloc (.cells #[.int .i64 q.id,.int .i64 q.inn,.string q.url,.string q.title] 73)).heap.size=w2.heap.size+1 by simp] at zz;exact zz,(Z2.out.alloc _).alloc _⟩
theorem back6_any{w:World}{g:Nat}{M:Ms}{x:St}(h:StAt w g M x)(a b n:Int)(s t u:ByteArray)(ha:I64 a):
  Calls Tryz.prog 73 #[.pointer (some ⟨g,0,none⟩),.agg #[.int .i64 6,.int .i64 a,.int .i64 b,.int .i64 n,.string s,.string t,.string u]] w (fun e w'=>∃ v:Sl,e=.returned (.slice v.1 (backP x ⟨6,a,b,n,s,t,u⟩).length v.2)∧SlIn w' (fun k=>w.heap.size≤k) 7 v (backP x ⟨6,a,b,n,s,t,u⟩).length ((backP x ⟨6,a,b,n,s,t,u⟩).flatMap Ev.cells)∧Frm Nix w w'):=by
 obtain⟨q,hq⟩:∃ q,feeAt x a=q:=⟨_,rfl⟩;have KF:=h_ (FeedS_any (h.nix ((fR w).alloc (.cells #[.int .i64 6,.int .i64 a,.int .i64 b,.int .i64 n,.string s,.string t,.string u] 43))) ha);rw[hq] at KF;generalize isI Fee.id a x.fees=ib at *
 have HR:Hid (backP x ⟨6,a,b,n,s,t,u⟩=[⟨6,a,q.inn,0,eS,eS,eS⟩]):=by
  unfold Hid;rw[← hq];unfold backP feeAt
  cases atI Fee.id a x.fees<;>simp[feeD]<;>rfl
 clear hq;rw[HR.out];have HL:Hid (∀ W,Frm Nix w W→SlIn (W.alloc (.cells (Ev.cells ⟨6,a,q.inn,0,eS,eS,eS⟩).toArray 43)) (fun k=>w.heap.size≤k) 7 (some ⟨W.heap.size,0,none⟩,1) 1 ([(⟨6,a,q.inn,0,eS,eS,eS⟩:Ev)].flatMap Ev.cells)):=fun W hW=>lit_ev w W hW _
 clear h HR ha;go_enter Tryz.func73,Tryz.ntmps73;go_wp2_with (first | (go_at_call 56;refine KF.out.mono ?_;rintro e w2 ⟨rfl,hf⟩;have Z2:Hid (Frm Nix w w2):=((fR w).alloc _).trans hf;have hbE:=(Blk.new w 43 #[.int .i64 6,.int .i64 a,.int .i64 b,.int .i64 n,.string s,.string t,.string u]).frm hf id;obtain⟨y0,y1,y2,y3,y4,y5,y6⟩:=blk7 hbE;have yl:=hbE.lt;clear hbE;clear hf) | fail);go_ret;exact⟨(some ⟨w2.heap.size+1,0,none⟩,1),rfl,by have zz:=HL.out _ (Z2.out.alloc (.cells #[.int .i64 q.id,.int .i64 q.inn,.string q.url,.string q.title] 73));rw[show (w2.alloc (.cells #[.int .i64 q.id,.int .i64 q.inn,.string q.url,.string q.title] 73)).heap.size=w2.heap.size+1 by simp] at zz;exact zz,(Z2.out.alloc _).alloc _⟩
theorem back2_any{w:World}{g:Nat}{M:Ms}{x:St}(h:StAt w g M x)(a b n:Int)(s t u:ByteArray)(ha:I64 a):
  Calls Tryz.prog 73 #[.pointer (some ⟨g,0,none⟩),.agg #[.int .i64 2,.int .i64 a,.int .i64 b,.int .i64 n,.string s,.string t,.string u]] w (fun e w'=>∃ v:Sl,e=.returned (.slice v.1 (backP x ⟨2,a,b,n,s,t,u⟩).length v.2)∧SlIn w' (fun k=>w.heap.size≤k) 7 v (backP x ⟨2,a,b,n,s,t,u⟩).length ((backP x ⟨2,a,b,n,s,t,u⟩).flatMap Ev.cells)∧Frm Nix w w'):=by
 obtain⟨q,hq⟩:∃ q,folAt x a=q:=⟨_,rfl⟩;have KF:=h_ (FolderS_any (h.nix ((fR w).alloc (.cells #[.int .i64 2,.int .i64 a,.int .i64 b,.int .i64 n,.string s,.string t,.string u] 43))) ha);rw[hq] at KF;generalize isI Fol.id a x.fols=ib at *
 have HR:Hid (backP x ⟨2,a,b,n,s,t,u⟩=[⟨1,a,q.inn,0,q.name,eS,eS⟩]):=by
  unfold Hid;rw[← hq];unfold backP folAt
  cases atI Fol.id a x.fols<;>simp[folD]<;>rfl
 clear hq;rw[HR.out];have HL:Hid (∀ W,Frm Nix w W→SlIn (W.alloc (.cells (Ev.cells ⟨1,a,q.inn,0,q.name,eS,eS⟩).toArray 43)) (fun k=>w.heap.size≤k) 7 (some ⟨W.heap.size,0,none⟩,1) 1 ([(⟨1,a,q.inn,0,q.name,eS,eS⟩:Ev)].flatMap Ev.cells)):=fun W hW=>lit_ev w W hW _
 clear h HR ha;go_enter Tryz.func73,Tryz.ntmps73;go_wp2_with (first | (go_at_call 105;refine KF.out.mono ?_;rintro e w2 ⟨rfl,hf⟩;have Z2:Hid (Frm Nix w w2):=((fR w).alloc _).trans hf;have hbE:=(Blk.new w 43 #[.int .i64 2,.int .i64 a,.int .i64 b,.int .i64 n,.string s,.string t,.string u]).frm hf id;obtain⟨y0,y1,y2,y3,y4,y5,y6⟩:=blk7 hbE;have yl:=hbE.lt;clear hbE;clear hf) | fail);go_ret;exact⟨(some ⟨w2.heap.size+1,0,none⟩,1),rfl,by have zz:=HL.out _ (Z2.out.alloc (.cells #[.int .i64 q.id,.int .i64 q.inn,.string q.name] 88));rw[show (w2.alloc (.cells #[.int .i64 q.id,.int .i64 q.inn,.string q.name] 88)).heap.size=w2.heap.size+1 by simp] at zz;exact zz,(Z2.out.alloc _).alloc _⟩
theorem back12_any{w:World}{g:Nat}{M:Ms}{x:St}(h:StAt w g M x)(a b n:Int)(s t u:ByteArray)(ha:I64 a):
  Calls Tryz.prog 73 #[.pointer (some ⟨g,0,none⟩),.agg #[.int .i64 12,.int .i64 a,.int .i64 b,.int .i64 n,.string s,.string t,.string u]] w (fun e w'=>∃ v:Sl,e=.returned (.slice v.1 (backP x ⟨12,a,b,n,s,t,u⟩).length v.2)∧SlIn w' (fun k=>w.heap.size≤k) 7 v (backP x ⟨12,a,b,n,s,t,u⟩).length ((backP x ⟨12,a,b,n,s,t,u⟩).flatMap Ev.cells)∧Frm Nix w w'):=by
 obtain⟨q,hq⟩:∃ q,seaAt x a=q:=⟨_,rfl⟩;have KF:=h_ (SearchS_any (h.nix ((fR w).alloc (.cells #[.int .i64 12,.int .i64 a,.int .i64 b,.int .i64 n,.string s,.string t,.string u] 43))) ha);rw[hq] at KF;generalize isI Sea.id a x.seas=ib at *
 have HR:Hid (backP x ⟨12,a,b,n,s,t,u⟩=[⟨11,a,0,0,q.name,q.query,eS⟩]):=by
  unfold Hid;rw[← hq];unfold backP seaAt
  cases atI Sea.id a x.seas<;>simp[seaD]<;>rfl
 clear hq;rw[HR.out];have HL:Hid (∀ W,Frm Nix w W→SlIn (W.alloc (.cells (Ev.cells ⟨11,a,0,0,q.name,q.query,eS⟩).toArray 43)) (fun k=>w.heap.size≤k) 7 (some ⟨W.heap.size,0,none⟩,1) 1 ([(⟨11,a,0,0,q.name,q.query,eS⟩:Ev)].flatMap Ev.cells)):=fun W hW=>lit_ev w W hW _
 clear h HR ha;go_enter Tryz.func73,Tryz.ntmps73;go_wp2_with (first | (go_at_call 109;refine KF.out.mono ?_;rintro e w2 ⟨rfl,hf⟩;have Z2:Hid (Frm Nix w w2):=((fR w).alloc _).trans hf;have hbE:=(Blk.new w 43 #[.int .i64 12,.int .i64 a,.int .i64 b,.int .i64 n,.string s,.string t,.string u]).frm hf id;obtain⟨y0,y1,y2,y3,y4,y5,y6⟩:=blk7 hbE;have yl:=hbE.lt;clear hbE;clear hf) | fail);go_ret;exact⟨(some ⟨w2.heap.size+1,0,none⟩,1),rfl,by have zz:=HL.out _ (Z2.out.alloc (.cells #[.int .i64 q.id,.string q.name,.string q.query] 93));rw[show (w2.alloc (.cells #[.int .i64 q.id,.string q.name,.string q.query] 93)).heap.size=w2.heap.size+1 by simp] at zz;exact zz,(Z2.out.alloc _).alloc _⟩
theorem back4_any{w:World}{g:Nat}{M:Ms}{x:St}(h:StAt w g M x)(a b n:Int)(s t u:ByteArray)(ha:I64 a):
  Calls Tryz.prog 73 #[.pointer (some ⟨g,0,none⟩),.agg #[.int .i64 4,.int .i64 a,.int .i64 b,.int .i64 n,.string s,.string t,.string u]] w (fun e w'=>∃ v:Sl,e=.returned (.slice v.1 (backP x ⟨4,a,b,n,s,t,u⟩).length v.2)∧SlIn w' (fun k=>w.heap.size≤k) 7 v (backP x ⟨4,a,b,n,s,t,u⟩).length ((backP x ⟨4,a,b,n,s,t,u⟩).flatMap Ev.cells)∧Frm Nix w w'):=by
 have HR:Hid (backP x ⟨4,a,b,n,s,t,u⟩=backP x ⟨4,a,0,0,eS,eS,eS⟩):=rfl;rw[HR.out];have K:=h_ (fed_any (h.nix ((fR w).alloc (.cells #[.int .i64 4,.int .i64 a,.int .i64 b,.int .i64 n,.string s,.string t,.string u] 43))) ha);clear h HR ha;generalize backP x ⟨4,a,0,0,eS,eS,eS⟩=l at *;go_enter Tryz.func73,Tryz.ntmps73;go_wp2_with (first | (go_at_call 127;refine K.out.mono ?_;rintro e w2 ⟨v,rfl,hs,hf⟩;have Z2:Hid (Frm Nix w w2):=((fR w).alloc _).trans hf;have HSL:=h_ (hs.mono (G':=fun k=>w.heap.size≤k) fun k hk=>by(have hk2:=hk;simp at hk2;omega));clear hs hf) | fail);go_ret;exact⟨v,rfl,HSL.out,Z2.out⟩
theorem back8_any{w:World}{g:Nat}{M:Ms}{x:St}(h:StAt w g M x)(k a b n:Int)(s t u:ByteArray)(hk:k=8∨k=9∨k=10)(hn:n=0∨n=1):
  Calls Tryz.prog 73 #[.pointer (some ⟨g,0,none⟩),.agg #[.int .i64 k,.int .i64 a,.int .i64 b,.int .i64 n,.string s,.string t,.string u]] w (fun e w'=>∃ v:Sl,e=.returned (.slice v.1 (backP x ⟨k,a,b,n,s,t,u⟩).length v.2)∧SlIn w' (fun k=>w.heap.size≤k) 7 v (backP x ⟨k,a,b,n,s,t,u⟩).length ((backP x ⟨k,a,b,n,s,t,u⟩).flatMap Ev.cells)∧Frm Nix w w'):=by
 have HR:Hid (backP x ⟨k,a,b,n,s,t,u⟩=[⟨k,a,b,1 - n,s,t,u⟩]):=by
  unfold Hid;rcases hk with rfl | rfl | rfl<;>simp[backP]
 rw[HR.out];have HL:=h_ (lit_ev w (w.alloc (.cells #[.int .i64 k,.int .i64 a,.int .i64 b,.int .i64 (1 - n),.string s,.string t,.string u] 43)) ((fR w).alloc _) ⟨k,a,b,1 - n,s,t,u⟩);clear h HR;rcases hn with rfl | rfl<;>rcases hk with rfl | rfl | rfl
 all_goals
  go_enter Tryz.func73,Tryz.ntmps73;go_wp2;go_ret;exact⟨(some ⟨w.heap.size+1,0,none⟩,1),rfl,by have q:=HL.out;rw[show (w.alloc _).heap.size=w.heap.size+1 by simp] at q;exact q,((fR w).alloc _).alloc _⟩
def BackOk(e:Ev):Prop:=(e.kind=1∨e.kind=2∨e.kind=3∨e.kind=4∨e.kind=5∨e.kind=6∨e.kind=11∨e.kind=12∨((e.kind=8∨e.kind=9∨e.kind=10)∧(e.n=0∨e.n=1)))∧I64 e.a
theorem back_any{w:World}{g:Nat}{M:Ms}{x:St}(h:StAt w g M x)(e:Ev)(he:BackOk e):Calls Tryz.prog 73 #[.pointer (some ⟨g,0,none⟩),.agg #[.int .i64 e.kind,.int .i64 e.a,.int .i64 e.b,.int .i64 e.n,.string e.s,.string e.t,.string e.u]] w (fun r w'=>∃ v:Sl,r=.returned (.slice v.1 (backP x e).length v.2)∧SlIn w' (fun k=>w.heap.size≤k) 7 v (backP x e).length ((backP x e).flatMap Ev.cells)∧Frm Nix w w'):=by
 obtain⟨k,a,b,n,s,t,u⟩:=e;obtain⟨hk,ha⟩:=he;dsimp only at hk ha ⊢;rcases hk with rfl | rfl | rfl | rfl | rfl | rfl | rfl | rfl | ⟨h8,hn⟩
 ·exact back1_any h a b n s t u
 ·exact back2_any h a b n s t u ha
 ·exact back3_any h a b n s t u
 ·exact back4_any h a b n s t u ha
 ·exact back5_any h a b n s t u ha
 ·exact back6_any h a b n s t u ha
 ·exact back11_any h a b n s t u
 ·exact back12_any h a b n s t u ha
 ·exact back8_any h k a b n s t u h8 hn
theorem back_ok:∀ {x:St} {l:List Ev},Moves x l→(∀ e ∈ l,e.kind≠7∧e.kind≠13)→∀ e ∈ l,BackOk e
 | _,[],_,_,_,h=>by cases h
 | x,a::l,h,h7,e,he=>by
   rcases List.mem_cons.1 he with rfl | he
   ·have ho:=fits_ev h.1
    have h2:=h7 e (by simp);refine⟨?_,(ev_i64 ho).1⟩;unfold evOk evRight at ho;rw[Bool.and_eq_true] at ho;have ho:=ho.1
    by_cases k1:e.kind=1
    ·exact .inl k1
    rw[if_neg k1] at ho
    by_cases k2:e.kind=2∨e.kind=4∨e.kind=12
    ·rcases k2 with k2 | k2 | k2
     ·exact .inr (.inl k2)
     ·exact .inr (.inr (.inr (.inl k2)))
     ·exact .inr (.inr (.inr (.inr (.inr (.inr (.inr (.inl k2)))))))
    rw[if_neg k2] at ho
    by_cases k3:e.kind=3
    ·exact .inr (.inr (.inl k3))
    rw[if_neg k3] at ho
    by_cases k5:e.kind=5
    ·exact .inr (.inr (.inr (.inr (.inl k5))))
    rw[if_neg k5] at ho
    by_cases k6:e.kind=6
    ·exact .inr (.inr (.inr (.inr (.inr (.inl k6)))))
    rw[if_neg k6,if_neg h2.1] at ho
    by_cases k8:e.kind=8∨e.kind=9
    ·rw[if_pos k8] at ho
     refine .inr (.inr (.inr (.inr (.inr (.inr (.inr (.inr ⟨by omega,?_⟩)))))));simp[flagOk] at ho;exact ho.2
    rw[if_neg k8] at ho
    by_cases k10:e.kind=10
    ·rw[if_pos k10] at ho
     refine .inr (.inr (.inr (.inr (.inr (.inr (.inr (.inr ⟨by omega,?_⟩)))))));simp[flagOk] at ho;exact ho.1.2
    rw[if_neg k10] at ho
    by_cases k11:e.kind=11
    ·exact .inr (.inr (.inr (.inr (.inr (.inr (.inl k11))))))
    rw[if_neg k11,if_neg h2.2] at ho
    cases ho
   ·exact back_ok h.2.2 (fun e he=>h7 e (by simp[he])) e he
def undoP(x:St)(c:Cm):List Ev×Bool:=if (planP shortS tagS x c).2=0∧c.kind≠14 then ((planP shortS tagS x c).1.flatMap (backP x),true) else ([],false)
theorem back_len{x:St}(h:StP x)(e:Ev):(backP x e).length≤12000:=by
 have h1:=feds_len (x.itms.filter fun t=>decide (t.feed=e.a)) fun t ht=>(h.iE t (List.mem_filter.1 ht).1).2.2.2.1
 have h2:=List.length_filter_le (fun t:Itm=>decide (t.feed=e.a)) x.itms;have h3:=h.iL;unfold backP
 repeat' split
 all_goals simp only[List.length_cons,List.length_nil]
 all_goals omega
theorem backs_len{x:St}(h:StP x):∀ (l:List Ev),(l.flatMap (backP x)).length≤l.length * 12000
 | []=>by simp
 | e::l=>by
   have h1:=back_len h e;have h2:=backs_len h l;rw[List.flatMap_cons,List.length_append,List.length_cons];omega
theorem evs_one(l:List Ev):∀ u ∈ l.flatMap Ev.cells,u.oneCell'=true:=fun u hu=>by
 obtain⟨e,-,he⟩:=List.mem_flatMap.1 hu;simp[Ev.cells] at he;rcases he with rfl | rfl | rfl | rfl | rfl | rfl | rfl<;>rfl
theorem ite_h{α:Type}{c:Prop} [Decidable c] {a b:α}(P:α→Prop)(ha:c→P a)(hb:¬c→P b):P (if c then a else b):=by
 split
 ·exact ha (by assumption)
 ·exact hb (by assumption)
theorem plan_kinds{x:St}(h:StP x)(c:Cm)(hk:c.kind≠14):∀ e ∈ (planP shortS tagS x c).1,e.kind≠7∧e.kind≠13:=by
 have hm:∀ (e0:Ev) (b:Bool),e0.kind=1∨e0.kind=3∨e0.kind=11→∀ e ∈ (makesP x e0 b).1,e.kind≠7∧e.kind≠13:=fun e0 b h0 e he=>by
  unfold makesP at he
  repeat' split at he
  all_goals first | (cases he;done) | (simp at he;subst he;dsimp only;omega)
 have ho:∀ (e0:Ev) (b:Bool),e0.kind≠7∧e0.kind≠13→∀ e ∈ (one1 e0 b).1,e.kind≠7∧e.kind≠13:=fun e0 b h0 e he=>by
  unfold one1 at he;split at he
  ·simp at he;subst he;exact h0
  ·cases he
 have hr:∀ (l:List Int),∀ e ∈ readP x l,e.kind≠7∧e.kind≠13:=fun l e he=>by
  unfold readP at he;obtain⟨t,-,rfl⟩:=List.mem_map.1 he;exact⟨show (8:Int)≠7 by decide,show (8:Int)≠13 by decide⟩
 have hs:∀ (e0:Ev),e0.kind≠7∧e0.kind≠13→∀ e ∈ [e0],e.kind≠7∧e.kind≠13:=fun e0 h0 e he=>by simp at he;subst he;exact h0
 have hn:∀ e ∈ ([]:List Ev),e.kind≠7∧e.kind≠13:=fun e he=>by cases he
 unfold planP
 repeat' first
  | exact hm _ _ (by dsimp only;omega)
  | exact ho _ _ ⟨by dsimp only;omega,by dsimp only;omega⟩
  | exact hr _
  | exact hs _ ⟨by dsimp only;omega,by dsimp only;omega⟩
  | exact hn
  | exact absurd (by assumption:c.kind=14) hk
  | refine ite_h (fun r:List Ev×Int=>∀ e ∈ r.1,e.kind≠7∧e.kind≠13) (fun _=>?_) (fun _=>?_)
  | split
theorem Undo_any{w:World}{g:Nat}{M:Ms}{x:St}(h:StAt w g M x)(k a b n:Int)(s t:ByteArray)(hc:CmIs ⟨k,a,b,n,s,t⟩):
  Calls Tryz.prog 32 #[.pointer (some ⟨g,0,none⟩),.agg #[.int .i64 k,.int .i64 a,.int .i64 b,.int .i64 n,.string s,.string t]] w (fun e w'=>∃ v:Sl,e=.returned (.tuple #[.slice v.1 (undoP x ⟨k,a,b,n,s,t⟩).1.length v.2,.bool (undoP x ⟨k,a,b,n,s,t⟩).2])∧SlIn w' (fun k=>w.heap.size≤k) 7 v (undoP x ⟨k,a,b,n,s,t⟩).1.length ((undoP x ⟨k,a,b,n,s,t⟩).1.flatMap Ev.cells)∧Frm Nix w w'):=by
 have KP:Hid (∀ W,Frm Nix w W→Calls Tryz.prog 25 #[.pointer (some ⟨g,0,none⟩),.agg #[.int .i64 k,.int .i64 a,.int .i64 b,.int .i64 n,.string s,.string t]] W (PlOut W (planP shortS tagS x ⟨k,a,b,n,s,t⟩))):=fun W hW=>Plan_any (h.nix hW) _ _ _ _ _ _ hc
 have hmv:=plan_moves (tg:=tagS) short_ok h.ok ⟨k,a,b,n,s,t⟩;have HBO:Hid (k≠14→∀ e ∈ (planP shortS tagS x ⟨k,a,b,n,s,t⟩).1,BackOk e):=fun hk=>back_ok hmv (plan_kinds h.ok ⟨k,a,b,n,s,t⟩ hk)
 have hlen:=plan_len h.ok ⟨k,a,b,n,s,t⟩;obtain⟨r,hr⟩:∃ r,planP shortS tagS x ⟨k,a,b,n,s,t⟩=r:=⟨_,rfl⟩;have HU:Hid (undoP x ⟨k,a,b,n,s,t⟩=if r.2=0∧k≠14 then (r.1.flatMap (backP x),true) else ([],false)):=by unfold Hid undoP;rw[hr]
 rw[hr] at KP HBO hlen;clear hmv hr hc;generalize undoP x ⟨k,a,b,n,s,t⟩=ur at *;obtain⟨l,er⟩:=r;dsimp only at KP HBO hlen HU ⊢;obtain⟨m,hln⟩:∃ m,l.length=m:=⟨_,rfl⟩;have HL:=h_ hln;have HS:=h_ h;have KP2:Hid (∀ W,Frm Nix w W→Calls Tryz.prog 25 #[.pointer (some ⟨g,0,none⟩),.agg #[.int .i64 k,.int .i64 a,.int .i64 b,.int .i64 n,.string s,.string t]] W fun e w'=>∃ A c,e=.returned (.tuple #[.slice A m c,.int .i64 er])∧SlIn w' (fun k=>W.heap.size≤k) 7 (A,c) l.length (l.flatMap Ev.cells)∧Frm Nix W w'):=fun W hW=>(KP.out W hW).mono fun e w' ⟨⟨A,c⟩,h1,h2,h3⟩=>⟨A,c,by rw[← hln];exact h1,h2,h3⟩
 have HBc:Hid (∀ W,Frm Nix (w.alloc (.cells #[.int .i64 k,.int .i64 a,.int .i64 b,.int .i64 n,.string s,.string t] 50)) W→Blk W w.heap.size 50 #[.int .i64 k,.int .i64 a,.int .i64 b,.int .i64 n,.string s,.string t]):=fun W hW=>(Blk.new w 50 #[.int .i64 k,.int .i64 a,.int .i64 b,.int .i64 n,.string s,.string t]).frm hW id
 rw[hln] at hlen;clear h hln KP
 by_cases h0:er=0
 ·by_cases h14:k=14
  ·have HR:Hid (ur=([],false)):=by unfold Hid;rw[HU.out,if_neg (fun h=>h.2 h14)]
   rw[HR.out];have e0:(er !=0)=false:=by rw[h0];rfl
   have e14:(k==14)=true:=beq_iff_eq.2 h14;clear h0 h14 HU HBO;go_enter Tryz.func32,Tryz.ntmps32;go_wp2_with (first | (go_at_call 25;refine(KP2.out _ ((fR w).alloc _)).mono ?_;rintro e w1 ⟨Av,cv,rfl,hv,hf⟩;have Z1:Hid (Frm Nix w w1):=((fR w).alloc _).trans hf;obtain⟨y0,y1,y2,y3,y4,y5⟩:=blk6 (HBc.out _ hf);clear hv hf) | fail)
   go_ret2
   exact⟨(none,0),rfl,SlIn.none_ _ _ _,Z1.out⟩
  ·have HR:Hid (ur=(l.flatMap (backP x),true)):=by unfold Hid;rw[HU.out,if_pos ⟨h0,h14⟩]
   rw[HR.out];have e0:(er !=0)=false:=by rw[h0];rfl
   have e14:(k==14)=false:=beq_eq_false_iff_ne.2 h14;have HB2:Hid (∀ e ∈ l,BackOk e):=HBO.out h14
   have HBL:Hid (∀ k,((l.take k).flatMap (backP x)).length≤m * 12000):=fun k=>by
    have h1:=backs_len HS.out.ok (l.take k);rw[List.length_take] at h1;have h2:=HL.out;have h3:min k l.length * 12000≤m * 12000:=Nat.mul_le_mul_right _ (by omega);omega
   clear h0 h14 HU HBO;go_enter Tryz.func32,Tryz.ntmps32;go_wp2_with (first | (go_at_call 25;refine(KP2.out _ ((fR w).alloc _)).mono ?_;rintro e w1 ⟨Av,cv,rfl,hv,hf⟩;have Z1:Hid (Frm Nix w w1):=((fR w).alloc _).trans hf;have HV:=h_ hv;obtain⟨y0,y1,y2,y3,y4,y5⟩:=blk6 (HBc.out _ hf);clear hv hf) | fail)
   go_loopw [8,26] (fun ov kv wr=>∃ k:Nat,k≤m∧kv=.int .i64 k∧RowK 43 7 w1 wr ov ((l.take k).flatMap (backP x)).length (((l.take k).flatMap (backP x)).flatMap Ev.cells)) (fun _ kv _=>m - (intOf kv).toNat)
   case atStart=>exact⟨0,by omega,rfl,RowK.nil_ _ _ (Frm.refl _ _)⟩
   case round=>
    obtain⟨k,hk,rfl,hrow⟩:=hrel;obtain⟨Ar,cr,rfl,-,-,-,-⟩:=hrow.shape;have HRw:=h_ hrow;clear hrow
    by_cases hlt:k<m
    ·have hkl:k<l.length:=by rw[HL.out];exact hlt
     obtain⟨b,off,hA,-,hbl,hcell⟩:=(HV.out.nix HRw.out.frm).at_ Ev.clen (by decide) (by omega);dsimp only at hA;subst hA;have h7:=evc7 (w:=wr) (b:=b) (off:=off+k * 7) (e:=l[k]) (hcell k hkl);have hbo:=HB2.out l[k] (List.getElem_mem hkl)
     have HFT:Hid ((l.take (k+1)).flatMap (backP x)=((l.take k).flatMap (backP x))++backP x l[k]):=by
      unfold Hid;rw[List.take_succ_eq_append_getElem hkl,List.flatMap_append];simp
     obtain⟨ev,hev⟩:∃ ev,l[k]=ev:=⟨_,rfl⟩;rw[hev] at h7 hbo HFT;obtain⟨x0,x1,x2,x3,x4,x5,x6⟩:=h7;have hl1:=HBL.out k;have hl2:=back_len HS.out.ok ev;have KB:=h_ (back_any (HS.out.nix (Z1.out.trans (HRw.out.frm.alloc (.cells #[.int .i64 ev.kind,.int .i64 ev.a,.int .i64 ev.b,.int .i64 ev.n,.string ev.s,.string ev.t,.string ev.u] 43)))) ev hbo)
     have HRun:Hid (∀ W (v:Sl),Frm Nix wr W→SlIn W (fun k=>(wr.alloc (.cells #[.int .i64 ev.kind,.int .i64 ev.a,.int .i64 ev.b,.int .i64 ev.n,.string ev.s,.string ev.t,.string ev.u] 43)).heap.size≤k) 7 v (backP x ev).length ((backP x ev).flatMap Ev.cells)→∃ A' c' w',(∀ ty,(Builtin.append_ #[31,31] ty #[.slice Ar ((l.take k).flatMap (backP x)).length cr,.slice v.1 (backP x ev).length v.2]).run Tryz.prog W=.ok (.slice A' (((l.take k).flatMap (backP x)).length+(backP x ev).length) c') w')∧RowK 43 7 w1 w' (.slice A' (((l.take k).flatMap (backP x)).length+(backP x ev).length) c') ((l.take (k+1)).flatMap (backP x)).length (((l.take (k+1)).flatMap (backP x)).flatMap Ev.cells)):=fun W v hW hv=>by
      obtain⟨v',w',h1,h2,-,-⟩:=(HRw.out.more hW).app elemEv v.2 hv.rd (evs_one _) (by unfold maxLen;omega) (by omega);obtain⟨A',c',rfl,-⟩:=h2.shape;refine⟨A',c',w',h1,?_⟩;rw[HFT.out,List.length_append,List.flatMap_append];exact h2
     clear hcell hev hbo hl1 hl2;generalize ((l.take k).flatMap (backP x)).length=q1 at *;generalize (backP x ev).length=q2 at *;go_wp2_with (first | (go_at_call 73;refine KB.out.mono ?_;rintro e w3 ⟨v,rfl,hs,hf⟩;obtain⟨A',c',w4,run4,hr4⟩:=HRun.out w3 v (((fR wr).alloc _).trans hf) hs;have HR4:=h_ hr4;clear hs hf hr4) | (at_builtin;refine wpList_append_run run4 rfl _ _ rfl rfl rfl ?_) | fail);go_roundw
     case rel=>exact⟨k+1,by omega,by go_num,HR4.out⟩
     case measure=>simp[intOf];omega
    ·obtain rfl:k=m:=by omega
     have HE:Hid (((l.take k).flatMap (backP x))=l.flatMap (backP x)):=by
      unfold Hid;rw[List.take_of_length_le (by rw[HL.out];exact Nat.le_refl _)]
     rw[HE.out] at HRw;go_wp2
     go_ret2
     exact⟨(Ar,cr),by rw[HE.out];rfl,HRw.out.sl.mono fun j hj=>Nat.le_trans Z1.out.size hj,Z1.out.trans HRw.out.frm⟩
 ·have HR:Hid (ur=([],false)):=by unfold Hid;rw[HU.out,if_neg (fun h=>h0 h.1)]
  rw[HR.out];have e0:(er !=0)=true:=bne_iff_ne.2 h0;clear h0 HU HBO;go_enter Tryz.func32,Tryz.ntmps32;go_wp2_with (first | (go_at_call 25;refine(KP2.out _ ((fR w).alloc _)).mono ?_;rintro e w1 ⟨Av,cv,rfl,hv,hf⟩;have Z1:Hid (Frm Nix w w1):=((fR w).alloc _).trans hf;obtain⟨y0,y1,y2,y3,y4,y5⟩:=blk6 (HBc.out _ hf);clear hv hf) | fail)
  go_ret2
  exact⟨(none,0),rfl,SlIn.none_ _ _ _,Z1.out⟩
end Go.Proofs.YtdihmpakglakdaaGreat
