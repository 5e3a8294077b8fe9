/-
  Contracts: cmd: Plan.
-/
import Derived.Test.YtdihmpakglakdaaGreatGp35
import Derived.Deep.RegionHeld3
set_option linter.unusedVariables false
set_option linter.unusedSimpArgs false
set_option maxRecDepth 100000
set_option maxHeartbeats 16000000
namespace Go.Proofs.YtdihmpakglakdaaGreat
open Go.RowKit Go.Lib
theorem ev_i64{e:Ev}(h:evOk e=true):I64 e.a∧I64 e.b:=by
 obtain⟨k,a,b,n,s,t,u⟩:=e;simp only[evOk,evRight,evUsed,Bool.and_eq_true,decide_eq_true_eq] at h;unfold I64
 repeat' split at h
 all_goals
  try simp only[idOk,folderOk,Bool.and_eq_true,Bool.or_eq_true,decide_eq_true_eq,Ev.mk.injEq,Bool.false_eq_true,false_and,true_and] at h
  try (revert h;simp only[and_imp];intros;omega)
theorem moves_i64:∀ {l:List Ev} {x:St},Moves x l→∀ e ∈ l,I64 e.a∧I64 e.b
 | [],_,_,_,h=>by cases h
 | a::l,x,h,e,he=>by
   rcases List.mem_cons.1 he with rfl | he
   ·exact ev_i64 (fits_ev h.1)
   ·exact moves_i64 h.2.2 e he
theorem one1_len(e:Ev)(b:Bool):(one1 e b).1.length≤1024:=by unfold one1;split<;>simp
theorem makesP_len(x:St)(e:Ev)(b:Bool):(makesP x e b).1.length≤1024:=by
 unfold makesP
 repeat' split
 all_goals simp
theorem readP_len{x:St}(h:StP x)(l:List Int):(readP x l).length≤1024:=by
 unfold readP;rw[List.length_map];have:=List.length_filter_le (fun t:Itm=>!t.read&&l.any fun i=>decide (i=t.feed)) x.itms;have:=h.iL;omega
theorem ite_p{α:Type}{c:Prop} [Decidable c] {a b:α}(P:α→Prop)(ha:P a)(hb:P b):P (if c then a else b):=by split<;>assumption
theorem plan_len{x:St}(h:StP x)(c:Cm):(planP shortS tagS x c).1.length≤1024:=by
 unfold planP
 repeat' first
  | exact makesP_len _ _ _
  | exact one1_len _ _
  | exact readP_len h _
  | exact Nat.zero_le _
  | exact(show 1≤1024 by decide)
  | refine ite_p (fun r:List Ev×Int=>r.1.length≤1024) ?_ ?_
  | split
theorem under_len{x:St}(h:StP x)(i:Int):(underS x i).length≤1000:=by
 unfold underS;split
 ·rw[List.length_map]
  have:=List.length_filter_le (fun f:Fee=>withinS x f.inn i) x.fees;have:=h.eL;omega
 ·simp
theorem Plan1_any{w:World}{g:Nat}{M:Ms}{x:St}(h:StAt w g M x)(a b n:Int)(s t:ByteArray)(hc:CmIs ⟨1,a,b,n,s,t⟩):
  Calls Tryz.prog 25 #[.pointer (some ⟨g,0,none⟩),.agg #[.int .i64 1,.int .i64 a,.int .i64 b,.int .i64 n,.string s,.string t]] w (PlOut w (planP shortS tagS x ⟨1,a,b,n,s,t⟩)):=by
 have K:Hid (∀ W,Frm Nix w W→Calls Tryz.prog 52 #[.pointer (some ⟨g,0,none⟩),.agg #[.int .i64 1,.int .i64 a,.int .i64 b,.int .i64 n,.string s,.string t]] W (PlOut W (planP shortS tagS x ⟨1,a,b,n,s,t⟩))):=fun W hW=>ofFolder1_any (h.nix hW) _ _ _ _ _ hc
 have HBc:Hid (∀ W,Frm Nix (w.alloc (.cells #[.int .i64 1,.int .i64 a,.int .i64 b,.int .i64 n,.string s,.string t] 50)) W→Blk W w.heap.size 50 #[.int .i64 1,.int .i64 a,.int .i64 b,.int .i64 n,.string s,.string t]):=fun W hW=>(Blk.new w 50 #[.int .i64 1,.int .i64 a,.int .i64 b,.int .i64 n,.string s,.string t]).frm hW id
 have HFb:Hid (Frm Nix w (w.alloc (.cells #[.int .i64 1,.int .i64 a,.int .i64 b,.int .i64 n,.string s,.string t] 50))):=(fR w).alloc _;clear h hc;generalize planP shortS tagS x ⟨1,a,b,n,s,t⟩=r at *;go_enter Tryz.func25,Tryz.ntmps25;go_wp2_with (first | (go_at_call 52;refine(K.out _ HFb.out).mono ?_;rintro e w4 ⟨v,rfl,hsl,hf⟩;have Z4:Hid (Frm Nix w w4):=HFb.out.trans hf;have HSL:=h_ (hsl.mono (G':=fun k=>w.heap.size≤k) fun k hk=>by(have h2:=HFb.out.size;have hk2:=hk;(try simp at hk2 h2);omega));clear hsl hf) | fail)
 go_ret2
 exact⟨v,rfl,HSL.out,Z4.out⟩
theorem Plan2_any{w:World}{g:Nat}{M:Ms}{x:St}(h:StAt w g M x)(a b n:Int)(s t:ByteArray)(hc:CmIs ⟨2,a,b,n,s,t⟩):
  Calls Tryz.prog 25 #[.pointer (some ⟨g,0,none⟩),.agg #[.int .i64 2,.int .i64 a,.int .i64 b,.int .i64 n,.string s,.string t]] w (PlOut w (planP shortS tagS x ⟨2,a,b,n,s,t⟩)):=by
 have K:Hid (∀ W,Frm Nix w W→Calls Tryz.prog 52 #[.pointer (some ⟨g,0,none⟩),.agg #[.int .i64 2,.int .i64 a,.int .i64 b,.int .i64 n,.string s,.string t]] W (PlOut W (planP shortS tagS x ⟨2,a,b,n,s,t⟩))):=fun W hW=>ofFolder2_any (h.nix hW) _ _ _ _ _ hc
 have HBc:Hid (∀ W,Frm Nix (w.alloc (.cells #[.int .i64 2,.int .i64 a,.int .i64 b,.int .i64 n,.string s,.string t] 50)) W→Blk W w.heap.size 50 #[.int .i64 2,.int .i64 a,.int .i64 b,.int .i64 n,.string s,.string t]):=fun W hW=>(Blk.new w 50 #[.int .i64 2,.int .i64 a,.int .i64 b,.int .i64 n,.string s,.string t]).frm hW id
 have HFb:Hid (Frm Nix w (w.alloc (.cells #[.int .i64 2,.int .i64 a,.int .i64 b,.int .i64 n,.string s,.string t] 50))):=(fR w).alloc _;clear h hc;generalize planP shortS tagS x ⟨2,a,b,n,s,t⟩=r at *;go_enter Tryz.func25,Tryz.ntmps25;go_wp2_with (first | (go_at_call 52;refine(K.out _ HFb.out).mono ?_;rintro e w4 ⟨v,rfl,hsl,hf⟩;have Z4:Hid (Frm Nix w w4):=HFb.out.trans hf;have HSL:=h_ (hsl.mono (G':=fun k=>w.heap.size≤k) fun k hk=>by(have h2:=HFb.out.size;have hk2:=hk;(try simp at hk2 h2);omega));clear hsl hf) | fail)
 go_ret2
 exact⟨v,rfl,HSL.out,Z4.out⟩
theorem Plan3_any{w:World}{g:Nat}{M:Ms}{x:St}(h:StAt w g M x)(a b n:Int)(s t:ByteArray)(hc:CmIs ⟨3,a,b,n,s,t⟩):
  Calls Tryz.prog 25 #[.pointer (some ⟨g,0,none⟩),.agg #[.int .i64 3,.int .i64 a,.int .i64 b,.int .i64 n,.string s,.string t]] w (PlOut w (planP shortS tagS x ⟨3,a,b,n,s,t⟩)):=by
 have K:Hid (∀ W,Frm Nix w W→Calls Tryz.prog 53 #[.pointer (some ⟨g,0,none⟩),.agg #[.int .i64 3,.int .i64 a,.int .i64 b,.int .i64 n,.string s,.string t]] W (PlOut W (planP shortS tagS x ⟨3,a,b,n,s,t⟩))):=fun W hW=>ofFeed3_any (h.nix hW) _ _ _ _ _ hc
 have HBc:Hid (∀ W,Frm Nix (w.alloc (.cells #[.int .i64 3,.int .i64 a,.int .i64 b,.int .i64 n,.string s,.string t] 50)) W→Blk W w.heap.size 50 #[.int .i64 3,.int .i64 a,.int .i64 b,.int .i64 n,.string s,.string t]):=fun W hW=>(Blk.new w 50 #[.int .i64 3,.int .i64 a,.int .i64 b,.int .i64 n,.string s,.string t]).frm hW id
 have HFb:Hid (Frm Nix w (w.alloc (.cells #[.int .i64 3,.int .i64 a,.int .i64 b,.int .i64 n,.string s,.string t] 50))):=(fR w).alloc _;clear h hc;generalize planP shortS tagS x ⟨3,a,b,n,s,t⟩=r at *;go_enter Tryz.func25,Tryz.ntmps25;go_wp2_with (first | (go_at_call 53;refine(K.out _ HFb.out).mono ?_;rintro e w4 ⟨v,rfl,hsl,hf⟩;have Z4:Hid (Frm Nix w w4):=HFb.out.trans hf;have HSL:=h_ (hsl.mono (G':=fun k=>w.heap.size≤k) fun k hk=>by(have h2:=HFb.out.size;have hk2:=hk;(try simp at hk2 h2);omega));clear hsl hf) | fail)
 go_ret2
 exact⟨v,rfl,HSL.out,Z4.out⟩
theorem Plan4_any{w:World}{g:Nat}{M:Ms}{x:St}(h:StAt w g M x)(a b n:Int)(s t:ByteArray)(hc:CmIs ⟨4,a,b,n,s,t⟩):
  Calls Tryz.prog 25 #[.pointer (some ⟨g,0,none⟩),.agg #[.int .i64 4,.int .i64 a,.int .i64 b,.int .i64 n,.string s,.string t]] w (PlOut w (planP shortS tagS x ⟨4,a,b,n,s,t⟩)):=by
 have K:Hid (∀ W,Frm Nix w W→Calls Tryz.prog 53 #[.pointer (some ⟨g,0,none⟩),.agg #[.int .i64 4,.int .i64 a,.int .i64 b,.int .i64 n,.string s,.string t]] W (PlOut W (planP shortS tagS x ⟨4,a,b,n,s,t⟩))):=fun W hW=>ofFeed456_any (h.nix hW) _ _ _ _ _ _ hc (.inl rfl)
 have HBc:Hid (∀ W,Frm Nix (w.alloc (.cells #[.int .i64 4,.int .i64 a,.int .i64 b,.int .i64 n,.string s,.string t] 50)) W→Blk W w.heap.size 50 #[.int .i64 4,.int .i64 a,.int .i64 b,.int .i64 n,.string s,.string t]):=fun W hW=>(Blk.new w 50 #[.int .i64 4,.int .i64 a,.int .i64 b,.int .i64 n,.string s,.string t]).frm hW id
 have HFb:Hid (Frm Nix w (w.alloc (.cells #[.int .i64 4,.int .i64 a,.int .i64 b,.int .i64 n,.string s,.string t] 50))):=(fR w).alloc _;clear h hc;generalize planP shortS tagS x ⟨4,a,b,n,s,t⟩=r at *;go_enter Tryz.func25,Tryz.ntmps25;go_wp2_with (first | (go_at_call 53;refine(K.out _ HFb.out).mono ?_;rintro e w4 ⟨v,rfl,hsl,hf⟩;have Z4:Hid (Frm Nix w w4):=HFb.out.trans hf;have HSL:=h_ (hsl.mono (G':=fun k=>w.heap.size≤k) fun k hk=>by(have h2:=HFb.out.size;have hk2:=hk;(try simp at hk2 h2);omega));clear hsl hf) | fail)
 go_ret2
 exact⟨v,rfl,HSL.out,Z4.out⟩
theorem Plan5_any{w:World}{g:Nat}{M:Ms}{x:St}(h:StAt w g M x)(a b n:Int)(s t:ByteArray)(hc:CmIs ⟨5,a,b,n,s,t⟩):
  Calls Tryz.prog 25 #[.pointer (some ⟨g,0,none⟩),.agg #[.int .i64 5,.int .i64 a,.int .i64 b,.int .i64 n,.string s,.string t]] w (PlOut w (planP shortS tagS x ⟨5,a,b,n,s,t⟩)):=by
 have K:Hid (∀ W,Frm Nix w W→Calls Tryz.prog 53 #[.pointer (some ⟨g,0,none⟩),.agg #[.int .i64 5,.int .i64 a,.int .i64 b,.int .i64 n,.string s,.string t]] W (PlOut W (planP shortS tagS x ⟨5,a,b,n,s,t⟩))):=fun W hW=>ofFeed456_any (h.nix hW) _ _ _ _ _ _ hc (.inr (.inl rfl))
 have HBc:Hid (∀ W,Frm Nix (w.alloc (.cells #[.int .i64 5,.int .i64 a,.int .i64 b,.int .i64 n,.string s,.string t] 50)) W→Blk W w.heap.size 50 #[.int .i64 5,.int .i64 a,.int .i64 b,.int .i64 n,.string s,.string t]):=fun W hW=>(Blk.new w 50 #[.int .i64 5,.int .i64 a,.int .i64 b,.int .i64 n,.string s,.string t]).frm hW id
 have HFb:Hid (Frm Nix w (w.alloc (.cells #[.int .i64 5,.int .i64 a,.int .i64 b,.int .i64 n,.string s,.string t] 50))):=(fR w).alloc _;clear h hc;generalize planP shortS tagS x ⟨5,a,b,n,s,t⟩=r at *;go_enter Tryz.func25,Tryz.ntmps25;go_wp2_with (first | (go_at_call 53;refine(K.out _ HFb.out).mono ?_;rintro e w4 ⟨v,rfl,hsl,hf⟩;have Z4:Hid (Frm Nix w w4):=HFb.out.trans hf;have HSL:=h_ (hsl.mono (G':=fun k=>w.heap.size≤k) fun k hk=>by(have h2:=HFb.out.size;have hk2:=hk;(try simp at hk2 h2);omega));clear hsl hf) | fail)
 go_ret2
 exact⟨v,rfl,HSL.out,Z4.out⟩
theorem Plan6_any{w:World}{g:Nat}{M:Ms}{x:St}(h:StAt w g M x)(a b n:Int)(s t:ByteArray)(hc:CmIs ⟨6,a,b,n,s,t⟩):
  Calls Tryz.prog 25 #[.pointer (some ⟨g,0,none⟩),.agg #[.int .i64 6,.int .i64 a,.int .i64 b,.int .i64 n,.string s,.string t]] w (PlOut w (planP shortS tagS x ⟨6,a,b,n,s,t⟩)):=by
 have K:Hid (∀ W,Frm Nix w W→Calls Tryz.prog 53 #[.pointer (some ⟨g,0,none⟩),.agg #[.int .i64 6,.int .i64 a,.int .i64 b,.int .i64 n,.string s,.string t]] W (PlOut W (planP shortS tagS x ⟨6,a,b,n,s,t⟩))):=fun W hW=>ofFeed456_any (h.nix hW) _ _ _ _ _ _ hc (.inr (.inr rfl))
 have HBc:Hid (∀ W,Frm Nix (w.alloc (.cells #[.int .i64 6,.int .i64 a,.int .i64 b,.int .i64 n,.string s,.string t] 50)) W→Blk W w.heap.size 50 #[.int .i64 6,.int .i64 a,.int .i64 b,.int .i64 n,.string s,.string t]):=fun W hW=>(Blk.new w 50 #[.int .i64 6,.int .i64 a,.int .i64 b,.int .i64 n,.string s,.string t]).frm hW id
 have HFb:Hid (Frm Nix w (w.alloc (.cells #[.int .i64 6,.int .i64 a,.int .i64 b,.int .i64 n,.string s,.string t] 50))):=(fR w).alloc _;clear h hc;generalize planP shortS tagS x ⟨6,a,b,n,s,t⟩=r at *;go_enter Tryz.func25,Tryz.ntmps25;go_wp2_with (first | (go_at_call 53;refine(K.out _ HFb.out).mono ?_;rintro e w4 ⟨v,rfl,hsl,hf⟩;have Z4:Hid (Frm Nix w w4):=HFb.out.trans hf;have HSL:=h_ (hsl.mono (G':=fun k=>w.heap.size≤k) fun k hk=>by(have h2:=HFb.out.size;have hk2:=hk;(try simp at hk2 h2);omega));clear hsl hf) | fail)
 go_ret2
 exact⟨v,rfl,HSL.out,Z4.out⟩
theorem Plan7_any{w:World}{g:Nat}{M:Ms}{x:St}(h:StAt w g M x)(a b n:Int)(s t:ByteArray)(hc:CmIs ⟨7,a,b,n,s,t⟩):
  Calls Tryz.prog 25 #[.pointer (some ⟨g,0,none⟩),.agg #[.int .i64 7,.int .i64 a,.int .i64 b,.int .i64 n,.string s,.string t]] w (PlOut w (planP shortS tagS x ⟨7,a,b,n,s,t⟩)):=by
 have K:Hid (∀ W,Frm Nix w W→Calls Tryz.prog 54 #[.pointer (some ⟨g,0,none⟩),.agg #[.int .i64 7,.int .i64 a,.int .i64 b,.int .i64 n,.string s,.string t]] W (PlOut W (planP shortS tagS x ⟨7,a,b,n,s,t⟩))):=fun W hW=>ofItem_any (h.nix hW) _ _ _ _ _ _ hc (.inl rfl)
 have HBc:Hid (∀ W,Frm Nix (w.alloc (.cells #[.int .i64 7,.int .i64 a,.int .i64 b,.int .i64 n,.string s,.string t] 50)) W→Blk W w.heap.size 50 #[.int .i64 7,.int .i64 a,.int .i64 b,.int .i64 n,.string s,.string t]):=fun W hW=>(Blk.new w 50 #[.int .i64 7,.int .i64 a,.int .i64 b,.int .i64 n,.string s,.string t]).frm hW id
 have HFb:Hid (Frm Nix w (w.alloc (.cells #[.int .i64 7,.int .i64 a,.int .i64 b,.int .i64 n,.string s,.string t] 50))):=(fR w).alloc _;clear h hc;generalize planP shortS tagS x ⟨7,a,b,n,s,t⟩=r at *;go_enter Tryz.func25,Tryz.ntmps25;go_wp2_with (first | (go_at_call 54;refine(K.out _ HFb.out).mono ?_;rintro e w4 ⟨v,rfl,hsl,hf⟩;have Z4:Hid (Frm Nix w w4):=HFb.out.trans hf;have HSL:=h_ (hsl.mono (G':=fun k=>w.heap.size≤k) fun k hk=>by(have h2:=HFb.out.size;have hk2:=hk;(try simp at hk2 h2);omega));clear hsl hf) | fail)
 go_ret2
 exact⟨v,rfl,HSL.out,Z4.out⟩
theorem Plan8_any{w:World}{g:Nat}{M:Ms}{x:St}(h:StAt w g M x)(a b n:Int)(s t:ByteArray)(hc:CmIs ⟨8,a,b,n,s,t⟩):
  Calls Tryz.prog 25 #[.pointer (some ⟨g,0,none⟩),.agg #[.int .i64 8,.int .i64 a,.int .i64 b,.int .i64 n,.string s,.string t]] w (PlOut w (planP shortS tagS x ⟨8,a,b,n,s,t⟩)):=by
 have K:Hid (∀ W,Frm Nix w W→Calls Tryz.prog 54 #[.pointer (some ⟨g,0,none⟩),.agg #[.int .i64 8,.int .i64 a,.int .i64 b,.int .i64 n,.string s,.string t]] W (PlOut W (planP shortS tagS x ⟨8,a,b,n,s,t⟩))):=fun W hW=>ofItem_any (h.nix hW) _ _ _ _ _ _ hc (.inr (.inl rfl))
 have HBc:Hid (∀ W,Frm Nix (w.alloc (.cells #[.int .i64 8,.int .i64 a,.int .i64 b,.int .i64 n,.string s,.string t] 50)) W→Blk W w.heap.size 50 #[.int .i64 8,.int .i64 a,.int .i64 b,.int .i64 n,.string s,.string t]):=fun W hW=>(Blk.new w 50 #[.int .i64 8,.int .i64 a,.int .i64 b,.int .i64 n,.string s,.string t]).frm hW id
 have HFb:Hid (Frm Nix w (w.alloc (.cells #[.int .i64 8,.int .i64 a,.int .i64 b,.int .i64 n,.string s,.string t] 50))):=(fR w).alloc _;clear h hc;generalize planP shortS tagS x ⟨8,a,b,n,s,t⟩=r at *;go_enter Tryz.func25,Tryz.ntmps25;go_wp2_with (first | (go_at_call 54;refine(K.out _ HFb.out).mono ?_;rintro e w4 ⟨v,rfl,hsl,hf⟩;have Z4:Hid (Frm Nix w w4):=HFb.out.trans hf;have HSL:=h_ (hsl.mono (G':=fun k=>w.heap.size≤k) fun k hk=>by(have h2:=HFb.out.size;have hk2:=hk;(try simp at hk2 h2);omega));clear hsl hf) | fail)
 go_ret2
 exact⟨v,rfl,HSL.out,Z4.out⟩
theorem Plan9_any{w:World}{g:Nat}{M:Ms}{x:St}(h:StAt w g M x)(a b n:Int)(s t:ByteArray)(hc:CmIs ⟨9,a,b,n,s,t⟩):
  Calls Tryz.prog 25 #[.pointer (some ⟨g,0,none⟩),.agg #[.int .i64 9,.int .i64 a,.int .i64 b,.int .i64 n,.string s,.string t]] w (PlOut w (planP shortS tagS x ⟨9,a,b,n,s,t⟩)):=by
 have K:Hid (∀ W,Frm Nix w W→Calls Tryz.prog 54 #[.pointer (some ⟨g,0,none⟩),.agg #[.int .i64 9,.int .i64 a,.int .i64 b,.int .i64 n,.string s,.string t]] W (PlOut W (planP shortS tagS x ⟨9,a,b,n,s,t⟩))):=fun W hW=>ofItem_any (h.nix hW) _ _ _ _ _ _ hc (.inr (.inr rfl))
 have HBc:Hid (∀ W,Frm Nix (w.alloc (.cells #[.int .i64 9,.int .i64 a,.int .i64 b,.int .i64 n,.string s,.string t] 50)) W→Blk W w.heap.size 50 #[.int .i64 9,.int .i64 a,.int .i64 b,.int .i64 n,.string s,.string t]):=fun W hW=>(Blk.new w 50 #[.int .i64 9,.int .i64 a,.int .i64 b,.int .i64 n,.string s,.string t]).frm hW id
 have HFb:Hid (Frm Nix w (w.alloc (.cells #[.int .i64 9,.int .i64 a,.int .i64 b,.int .i64 n,.string s,.string t] 50))):=(fR w).alloc _;clear h hc;generalize planP shortS tagS x ⟨9,a,b,n,s,t⟩=r at *;go_enter Tryz.func25,Tryz.ntmps25;go_wp2_with (first | (go_at_call 54;refine(K.out _ HFb.out).mono ?_;rintro e w4 ⟨v,rfl,hsl,hf⟩;have Z4:Hid (Frm Nix w w4):=HFb.out.trans hf;have HSL:=h_ (hsl.mono (G':=fun k=>w.heap.size≤k) fun k hk=>by(have h2:=HFb.out.size;have hk2:=hk;(try simp at hk2 h2);omega));clear hsl hf) | fail)
 go_ret2
 exact⟨v,rfl,HSL.out,Z4.out⟩
theorem Plan12_any{w:World}{g:Nat}{M:Ms}{x:St}(h:StAt w g M x)(a b n:Int)(s t:ByteArray)(hc:CmIs ⟨12,a,b,n,s,t⟩):
  Calls Tryz.prog 25 #[.pointer (some ⟨g,0,none⟩),.agg #[.int .i64 12,.int .i64 a,.int .i64 b,.int .i64 n,.string s,.string t]] w (PlOut w (planP shortS tagS x ⟨12,a,b,n,s,t⟩)):=by
 have K:Hid (∀ W,Frm Nix w W→Calls Tryz.prog 55 #[.pointer (some ⟨g,0,none⟩),.agg #[.int .i64 12,.int .i64 a,.int .i64 b,.int .i64 n,.string s,.string t]] W (PlOut W (planP shortS tagS x ⟨12,a,b,n,s,t⟩))):=fun W hW=>ofSearch12_any (h.nix hW) _ _ _ _ _ hc
 have HBc:Hid (∀ W,Frm Nix (w.alloc (.cells #[.int .i64 12,.int .i64 a,.int .i64 b,.int .i64 n,.string s,.string t] 50)) W→Blk W w.heap.size 50 #[.int .i64 12,.int .i64 a,.int .i64 b,.int .i64 n,.string s,.string t]):=fun W hW=>(Blk.new w 50 #[.int .i64 12,.int .i64 a,.int .i64 b,.int .i64 n,.string s,.string t]).frm hW id
 have HFb:Hid (Frm Nix w (w.alloc (.cells #[.int .i64 12,.int .i64 a,.int .i64 b,.int .i64 n,.string s,.string t] 50))):=(fR w).alloc _;clear h hc;generalize planP shortS tagS x ⟨12,a,b,n,s,t⟩=r at *;go_enter Tryz.func25,Tryz.ntmps25;go_wp2_with (first | (go_at_call 55;refine(K.out _ HFb.out).mono ?_;rintro e w4 ⟨v,rfl,hsl,hf⟩;have Z4:Hid (Frm Nix w w4):=HFb.out.trans hf;have HSL:=h_ (hsl.mono (G':=fun k=>w.heap.size≤k) fun k hk=>by(have h2:=HFb.out.size;have hk2:=hk;(try simp at hk2 h2);omega));clear hsl hf) | fail)
 go_ret2
 exact⟨v,rfl,HSL.out,Z4.out⟩
theorem Plan13_any{w:World}{g:Nat}{M:Ms}{x:St}(h:StAt w g M x)(a b n:Int)(s t:ByteArray)(hc:CmIs ⟨13,a,b,n,s,t⟩):
  Calls Tryz.prog 25 #[.pointer (some ⟨g,0,none⟩),.agg #[.int .i64 13,.int .i64 a,.int .i64 b,.int .i64 n,.string s,.string t]] w (PlOut w (planP shortS tagS x ⟨13,a,b,n,s,t⟩)):=by
 have K:Hid (∀ W,Frm Nix w W→Calls Tryz.prog 55 #[.pointer (some ⟨g,0,none⟩),.agg #[.int .i64 13,.int .i64 a,.int .i64 b,.int .i64 n,.string s,.string t]] W (PlOut W (planP shortS tagS x ⟨13,a,b,n,s,t⟩))):=fun W hW=>ofSearch13_any (h.nix hW) _ _ _ _ _ hc
 have HBc:Hid (∀ W,Frm Nix (w.alloc (.cells #[.int .i64 13,.int .i64 a,.int .i64 b,.int .i64 n,.string s,.string t] 50)) W→Blk W w.heap.size 50 #[.int .i64 13,.int .i64 a,.int .i64 b,.int .i64 n,.string s,.string t]):=fun W hW=>(Blk.new w 50 #[.int .i64 13,.int .i64 a,.int .i64 b,.int .i64 n,.string s,.string t]).frm hW id
 have HFb:Hid (Frm Nix w (w.alloc (.cells #[.int .i64 13,.int .i64 a,.int .i64 b,.int .i64 n,.string s,.string t] 50))):=(fR w).alloc _;clear h hc;generalize planP shortS tagS x ⟨13,a,b,n,s,t⟩=r at *;go_enter Tryz.func25,Tryz.ntmps25;go_wp2_with (first | (go_at_call 55;refine(K.out _ HFb.out).mono ?_;rintro e w4 ⟨v,rfl,hsl,hf⟩;have Z4:Hid (Frm Nix w w4):=HFb.out.trans hf;have HSL:=h_ (hsl.mono (G':=fun k=>w.heap.size≤k) fun k hk=>by(have h2:=HFb.out.size;have hk2:=hk;(try simp at hk2 h2);omega));clear hsl hf) | fail)
 go_ret2
 exact⟨v,rfl,HSL.out,Z4.out⟩
theorem Plan10_any{w:World}{g:Nat}{M:Ms}{x:St}(h:StAt w g M x)(a b n:Int)(s t:ByteArray)(hc:CmIs ⟨10,a,b,n,s,t⟩):
  Calls Tryz.prog 25 #[.pointer (some ⟨g,0,none⟩),.agg #[.int .i64 10,.int .i64 a,.int .i64 b,.int .i64 n,.string s,.string t]] w (PlOut w (planP shortS tagS x ⟨10,a,b,n,s,t⟩)):=by
 have HR:Hid (planP shortS tagS x ⟨10,a,b,n,s,t⟩=if isI Fee.id a x.fees=false then ([],4) else (readP x [a],0)):=rfl;rw[HR.out];have KF:Hid (∀ W,Frm Nix w W→Calls Tryz.prog 56 #[.pointer (some ⟨g,0,none⟩),.int .i64 a] W fun e w'=>e=.returned (.tuple #[.agg #[.int .i64 (feeAt x a).id,.int .i64 (feeAt x a).inn,.string (feeAt x a).url,.string (feeAt x a).title],.bool (isI Fee.id a x.fees)])∧Frm Nix W w'):=fun W hW=>FeedS_any (h.nix hW) hc.a
 have KR:Hid (∀ W G A c,Frm Nix w W→SlIn W G 1 (A,c) 1 [kI a]→Calls Tryz.prog 57 #[.pointer (some ⟨g,0,none⟩),.slice A 1 c] W fun e w'=>∃ v:Sl,e=.returned (.slice v.1 (readP x [a]).length v.2)∧SlIn w' (fun k=>W.heap.size≤k) 7 v (readP x [a]).length ((readP x [a]).flatMap Ev.cells)∧Frm Nix W w'):=fun W G A c hW hv=>read_any (l:=[a]) (h.nix hW) hv (by simp)
 have HBc:Hid (∀ W,Frm Nix (w.alloc (.cells #[.int .i64 10,.int .i64 a,.int .i64 b,.int .i64 n,.string s,.string t] 50)) W→Blk W w.heap.size 50 #[.int .i64 10,.int .i64 a,.int .i64 b,.int .i64 n,.string s,.string t]):=fun W hW=>(Blk.new w 50 #[.int .i64 10,.int .i64 a,.int .i64 b,.int .i64 n,.string s,.string t]).frm hW id
 have HFb:Hid (Frm Nix w (w.alloc (.cells #[.int .i64 10,.int .i64 a,.int .i64 b,.int .i64 n,.string s,.string t] 50))):=(fR w).alloc _;clear h hc HR;generalize readP x [a]=r at *;generalize feeAt x a=q at *;generalize isI Fee.id a x.fees=i1 at *
 cases i1 with
 | false=>
   rw[if_pos rfl];go_enter Tryz.func25,Tryz.ntmps25;go_wp2_with (first | (go_at_call 51;refine(refused_any _ _).mono ?_;rintro e w9 ⟨rfl,rfl⟩) | (go_at_call 56;refine(KF.out _ HFb.out).mono ?_;rintro e w2 ⟨rfl,hf⟩;have Y2:Hid (Frm Nix _ w2):=hf;have Z2:Hid (Frm Nix w w2):=HFb.out.trans Y2.out;have hbC:=HBc.out _ Y2.out;obtain⟨y0,y1,y2,y3,y4,y5⟩:=blk6 hbC;have yl:=hbC.lt;clear hbC;clear hf) | fail)
   go_ret2
   exact PlOut.none_ (Z2.out.alloc (.cells #[.int .i64 q.id,.int .i64 q.inn,.string q.url,.string q.title] 73))
 | true=>
   rw[if_neg (by decide)]
   have HRow:Hid (∀ w2:World,SlIn ((w2.alloc (.cells #[.int .i64 q.id,.int .i64 q.inn,.string q.url,.string q.title] 73)).alloc (.cells #[.int .i64 a] 3)) (fun k=>w2.heap.size≤k) 1 (some ⟨w2.heap.size+1,0,none⟩,1) 1 [kI a]):=fun w2=>by
    have q2:=(RowK.lit (s:=1) 3 ((fR w2).alloc (.cells #[.int .i64 q.id,.int .i64 q.inn,.string q.url,.string q.title] 73)) 1 [kI a] rfl (by unfold maxLen;omega)).sl;rw[show (w2.alloc (.cells #[.int .i64 q.id,.int .i64 q.inn,.string q.url,.string q.title] 73)).heap.size=w2.heap.size+1 by simp] at q2;exact q2
   go_enter Tryz.func25,Tryz.ntmps25;go_wp2_with (first | (go_at_call 57;refine(KR.out _ _ _ _ ((Z2.out.alloc _).alloc _) (HRow.out w2)).mono ?_;rintro e w4 ⟨v,rfl,hsl,hf⟩;have Z4:Hid (Frm Nix w w4):=((Z2.out.alloc _).alloc _).trans hf;have HSL:=h_ (hsl.mono (G':=fun k=>w.heap.size≤k) fun k hk=>by(have h2:=Z2.out.size;have hk2:=hk;(try simp at hk2 h2);omega));clear hsl hf) | (go_at_call 56;refine(KF.out _ HFb.out).mono ?_;rintro e w2 ⟨rfl,hf⟩;have Y2:Hid (Frm Nix _ w2):=hf;have Z2:Hid (Frm Nix w w2):=HFb.out.trans Y2.out;have hbC:=HBc.out _ Y2.out;obtain⟨y0,y1,y2,y3,y4,y5⟩:=blk6 hbC;have yl:=hbC.lt;clear hbC;clear hf) | fail)
   go_ret2
   exact⟨v,rfl,HSL.out,Z4.out⟩
theorem Plan11_any{w:World}{g:Nat}{M:Ms}{x:St}(h:StAt w g M x)(a b n:Int)(s t:ByteArray)(hc:CmIs ⟨11,a,b,n,s,t⟩):
  Calls Tryz.prog 25 #[.pointer (some ⟨g,0,none⟩),.agg #[.int .i64 11,.int .i64 a,.int .i64 b,.int .i64 n,.string s,.string t]] w (PlOut w (planP shortS tagS x ⟨11,a,b,n,s,t⟩)):=by
 have HR:Hid (planP shortS tagS x ⟨11,a,b,n,s,t⟩=if inS x a=false then ([],4) else (readP x (underS x a),0)):=rfl;rw[HR.out];have KO:Hid (∀ W,Frm Nix w W→Calls Tryz.prog 58 #[.pointer (some ⟨g,0,none⟩),.int .i64 a] W fun e w'=>e=.returned (.bool (inS x a))∧Frm Nix W w'):=fun W hW=>cFolder_any (h.nix hW) hc.a
 have hul:=under_len h.ok a;have KU:Hid (∀ W,Frm Nix w W→Calls Tryz.prog 36 #[.pointer (some ⟨g,0,none⟩),.int .i64 a] W fun e w'=>∃ A c,e=.returned (.slice A (underS x a).length c)∧SlIn w' (fun k=>W.heap.size≤k) 1 (A,c) (underS x a).length ((underS x a).map kI)∧Frm Nix W w'):=fun W hW=>Under_any (h.nix hW) hc.a
 have KR:Hid (∀ W G A c,Frm Nix w W→SlIn W G 1 (A,c) (underS x a).length ((underS x a).map kI)→Calls Tryz.prog 57 #[.pointer (some ⟨g,0,none⟩),.slice A (underS x a).length c] W fun e w'=>∃ v:Sl,e=.returned (.slice v.1 (readP x (underS x a)).length v.2)∧SlIn w' (fun k=>W.heap.size≤k) 7 v (readP x (underS x a)).length ((readP x (underS x a)).flatMap Ev.cells)∧Frm Nix W w'):=fun W G A c hW hv=>read_any (h.nix hW) hv (by omega)
 have HBc:Hid (∀ W,Frm Nix (w.alloc (.cells #[.int .i64 11,.int .i64 a,.int .i64 b,.int .i64 n,.string s,.string t] 50)) W→Blk W w.heap.size 50 #[.int .i64 11,.int .i64 a,.int .i64 b,.int .i64 n,.string s,.string t]):=fun W hW=>(Blk.new w 50 #[.int .i64 11,.int .i64 a,.int .i64 b,.int .i64 n,.string s,.string t]).frm hW id
 have HFb:Hid (Frm Nix w (w.alloc (.cells #[.int .i64 11,.int .i64 a,.int .i64 b,.int .i64 n,.string s,.string t] 50))):=(fR w).alloc _;clear h hc HR hul;generalize readP x (underS x a)=r at *;generalize underS x a=l at *;generalize inS x a=i1 at *
 cases i1 with
 | false=>
   rw[if_pos rfl];go_enter Tryz.func25,Tryz.ntmps25;go_wp2_with (first | (go_at_call 51;refine(refused_any _ _).mono ?_;rintro e w9 ⟨rfl,rfl⟩) | (go_at_call 58;refine(KO.out _ HFb.out).mono ?_;rintro e w2 ⟨rfl,hf⟩;have Y2:Hid (Frm Nix _ w2):=hf;have Z2:Hid (Frm Nix w w2):=HFb.out.trans Y2.out;have hbC:=HBc.out _ Y2.out;obtain⟨y0,y1,y2,y3,y4,y5⟩:=blk6 hbC;have yl:=hbC.lt;clear hbC;clear hf) | fail)
   go_ret2
   exact PlOut.none_ Z2.out
 | true=>
   rw[if_neg (by decide)];go_enter Tryz.func25,Tryz.ntmps25;go_wp2_with (first | (go_at_call 57;have _q:=Z3;refine(KR.out _ _ _ _ Z3.out HV.out).mono ?_;rintro e w4 ⟨v,rfl,hsl,hf⟩;have Z4:Hid (Frm Nix w w4):=Z3.out.trans hf;have HSL:=h_ (hsl.mono (G':=fun k=>w.heap.size≤k) fun k hk=>by(have h2:=Z3.out.size;omega));clear hsl hf) | (go_at_call 36;have _q:=Z2;refine(KU.out _ Z2.out).mono ?_;rintro e w3 ⟨Au,cu,rfl,hv,hf⟩;have HV:=h_ hv;have Z3:Hid (Frm Nix w w3):=Z2.out.trans hf;clear hv hf) | (go_at_call 58;refine(KO.out _ HFb.out).mono ?_;rintro e w2 ⟨rfl,hf⟩;have Y2:Hid (Frm Nix _ w2):=hf;have Z2:Hid (Frm Nix w w2):=HFb.out.trans Y2.out;have hbC:=HBc.out _ Y2.out;obtain⟨y0,y1,y2,y3,y4,y5⟩:=blk6 hbC;have yl:=hbC.lt;clear hbC;clear hf) | fail)
   go_ret2
   exact⟨v,rfl,HSL.out,Z4.out⟩
theorem Plan14_any{w:World}{g:Nat}{M:Ms}{x:St}(h:StAt w g M x)(a b n:Int)(s t:ByteArray)(hc:CmIs ⟨14,a,b,n,s,t⟩):
  Calls Tryz.prog 25 #[.pointer (some ⟨g,0,none⟩),.agg #[.int .i64 14,.int .i64 a,.int .i64 b,.int .i64 n,.string s,.string t]] w (PlOut w (planP shortS tagS x ⟨14,a,b,n,s,t⟩)):=by
 have HR:Hid (planP shortS tagS x ⟨14,a,b,n,s,t⟩=if fits x ⟨13,0,0,n,⟨#[]⟩,⟨#[]⟩,⟨#[]⟩⟩=false then ([],1) else one1 ⟨13,0,0,n,⟨#[]⟩,⟨#[]⟩,⟨#[]⟩⟩ (!decide (n=x.clock))):=rfl;rw[HR.out];have KFi:Hid (∀ W,Frm Nix w W→Calls Tryz.prog 59 #[.pointer (some ⟨g,0,none⟩),.agg #[.int .i64 13,.int .i64 0,.int .i64 0,.int .i64 n,.string ⟨#[]⟩,.string ⟨#[]⟩,.string ⟨#[]⟩]] W fun r w'=>r=.returned (.bool (fits x ⟨13,0,0,n,⟨#[]⟩,⟨#[]⟩,⟨#[]⟩⟩))∧Frm Nix W w'):=fun W hW=>FitsV (h.nix hW) _ _ _ _ _ _ _ i64_0 i64_0
 have KC:Hid (∀ W,Frm Nix w W→Calls Tryz.prog 61 #[.pointer (some ⟨g,0,none⟩)] W fun e w'=>e=.returned (.int .i64 x.clock)∧W=w'):=fun W hW=>Clock_any (h.nix hW)
 have HFb2:Hid (Frm Nix w ((w.alloc (.cells #[.int .i64 14,.int .i64 a,.int .i64 b,.int .i64 n,.string s,.string t] 50)).alloc (.cells #[.int .i64 13,.int .i64 0,.int .i64 0,.int .i64 n,.string ⟨#[]⟩,.string ⟨#[]⟩,.string ⟨#[]⟩] 43))):=((fR w).alloc _).alloc _
 have HB2:Hid (∀ W,Frm Nix ((w.alloc (.cells #[.int .i64 14,.int .i64 a,.int .i64 b,.int .i64 n,.string s,.string t] 50)).alloc (.cells #[.int .i64 13,.int .i64 0,.int .i64 0,.int .i64 n,.string ⟨#[]⟩,.string ⟨#[]⟩,.string ⟨#[]⟩] 43)) W→(W.cell? ⟨w.heap.size+1,0,none⟩=some (.int .i64 13)∧W.cell? ⟨w.heap.size+1,1,none⟩=some (.int .i64 0)∧W.cell? ⟨w.heap.size+1,2,none⟩=some (.int .i64 0)∧W.cell? ⟨w.heap.size+1,3,none⟩=some (.int .i64 n)∧W.cell? ⟨w.heap.size+1,4,none⟩=some (.string ⟨#[]⟩)∧W.cell? ⟨w.heap.size+1,5,none⟩=some (.string ⟨#[]⟩)∧W.cell? ⟨w.heap.size+1,6,none⟩=some (.string ⟨#[]⟩))∧W.cell? ⟨w.heap.size,3,none⟩=some (.int .i64 n)):=fun W hW=>by
  have q1:=(((Blk.new w 50 #[.int .i64 14,.int .i64 a,.int .i64 b,.int .i64 n,.string s,.string t]).alloc (.cells #[.int .i64 13,.int .i64 0,.int .i64 0,.int .i64 n,.string ⟨#[]⟩,.string ⟨#[]⟩,.string ⟨#[]⟩] 43)).frm hW id).cell 3;have q2:=(Blk.new (w.alloc (.cells #[.int .i64 14,.int .i64 a,.int .i64 b,.int .i64 n,.string s,.string t] 50)) 43 #[.int .i64 13,.int .i64 0,.int .i64 0,.int .i64 n,.string ⟨#[]⟩,.string ⟨#[]⟩,.string ⟨#[]⟩]).frm hW id;rw[show (w.alloc (.cells #[.int .i64 14,.int .i64 a,.int .i64 b,.int .i64 n,.string s,.string t] 50)).heap.size=w.heap.size+1 by simp] at q2;exact⟨blk7 q2,q1⟩
 clear h hc HR;generalize x.clock=ck at *;generalize fits x ⟨13,0,0,n,⟨#[]⟩,⟨#[]⟩,⟨#[]⟩⟩=i1 at *
 cases i1 with
 | false=>
   rw[if_pos rfl];go_enter Tryz.func25,Tryz.ntmps25;go_wp2_with (first | (go_at_call 51;refine(refused_any _ _).mono ?_;rintro e w9 ⟨rfl,rfl⟩) | (go_at_call 59;refine(KFi.out _ HFb2.out).mono ?_;rintro e w3 ⟨rfl,hf⟩;have Y3:=h_ hf;have Z3:Hid (Frm Nix w w3):=HFb2.out.trans hf;clear hf) | fail)
   go_ret2
   exact PlOut.none_ Z3.out
 | true=>
   rw[if_neg (by decide)];have HCond:Hid ((n !=ck)=(!decide (n=ck))):=rfl;go_enter Tryz.func25,Tryz.ntmps25;go_wp2_with (first | (go_at_call 59;refine(KFi.out _ HFb2.out).mono ?_;rintro e w3 ⟨rfl,hf⟩;have Y3:=h_ hf;have Z3:Hid (Frm Nix w w3):=HFb2.out.trans hf;clear hf) | fail);have HC5:Hid (∀ W,Frm Nix w3 W→(W.cell? ⟨w.heap.size+1,0,none⟩=some (.int .i64 13)∧W.cell? ⟨w.heap.size+1,1,none⟩=some (.int .i64 0)∧W.cell? ⟨w.heap.size+1,2,none⟩=some (.int .i64 0)∧W.cell? ⟨w.heap.size+1,3,none⟩=some (.int .i64 n)∧W.cell? ⟨w.heap.size+1,4,none⟩=some (.string ⟨#[]⟩)∧W.cell? ⟨w.heap.size+1,5,none⟩=some (.string ⟨#[]⟩)∧W.cell? ⟨w.heap.size+1,6,none⟩=some (.string ⟨#[]⟩))∧W.cell? ⟨w.heap.size,3,none⟩=some (.int .i64 n)):=fun W hW=>HB2.out W (Y3.out.trans hW)
   go_region_held3 (fun W=>(W.cell? ⟨w.heap.size+1,0,none⟩=some (.int .i64 13)∧W.cell? ⟨w.heap.size+1,1,none⟩=some (.int .i64 0)∧W.cell? ⟨w.heap.size+1,2,none⟩=some (.int .i64 0)∧W.cell? ⟨w.heap.size+1,3,none⟩=some (.int .i64 n)∧W.cell? ⟨w.heap.size+1,4,none⟩=some (.string ⟨#[]⟩)∧W.cell? ⟨w.heap.size+1,5,none⟩=some (.string ⟨#[]⟩)∧W.cell? ⟨w.heap.size+1,6,none⟩=some (.string ⟨#[]⟩))∧W.cell? ⟨w.heap.size,3,none⟩=some (.int .i64 n)) ((refine HC5.out _ ?_;repeat' (first | with_reducible exact Frm.refl _ _ | with_reducible exact Y7.out | with_reducible apply Frm.drew)))
    (first
     | (go_at_call 60;refine(oneV _ _ _ _ _ _ _ _ _).mono ?_;rintro e w7 ⟨v7,rfl,hsl,hf⟩;have Y7:Hid (Frm Nix w3 w7):=(fR _).drew.trans hf;have HSL:=h_ (hsl.mono (G':=fun k=>w.heap.size≤k) fun k hk=>by(have h2:=Z3.out.size;have hk2:w3.heap.size≤k:=hk;omega));clear hsl hf)
     | (go_at_call 61;refine(KC.out _ (Z3.out.trans (fR _).drew)).mono ?_;rintro e w6 ⟨rfl,rfl⟩))
   all_goals
    go_wp2
    go_ret2
    rw[← HCond.out];exact⟨v7,rfl,HSL.out,Z3.out.trans Y7.out⟩
theorem PlanX_any{w:World}{g:Nat}{M:Ms}{x:St}(h:StAt w g M x)(k a b n:Int)(s t:ByteArray)(hk:¬(1≤k∧k≤14)):
  Calls Tryz.prog 25 #[.pointer (some ⟨g,0,none⟩),.agg #[.int .i64 k,.int .i64 a,.int .i64 b,.int .i64 n,.string s,.string t]] w (PlOut w (planP shortS tagS x ⟨k,a,b,n,s,t⟩)):=by
 have HR:Hid (planP shortS tagS x ⟨k,a,b,n,s,t⟩=([],1)):=by
  unfold Hid planP;rw[if_neg (show ¬(k=1) by omega)];rw[if_neg (show ¬(k=2) by omega)];rw[if_neg (show ¬(k=3) by omega)];rw[if_neg (show ¬(k=4∨k=5∨k=6) by omega)];rw[if_neg (show ¬(k=7∨k=8∨k=9) by omega)];rw[if_neg (show ¬(k=10) by omega)];rw[if_neg (show ¬(k=11) by omega)];rw[if_neg (show ¬(k=12) by omega)];rw[if_neg (show ¬(k=13) by omega)];rw[if_neg (show ¬(k=14) by omega)]
 have n1:(k==1)=false:=beq_eq_false_iff_ne.2 (by omega);have n2:(k==2)=false:=beq_eq_false_iff_ne.2 (by omega);have n3:(k==3)=false:=beq_eq_false_iff_ne.2 (by omega);have n4:(k==4)=false:=beq_eq_false_iff_ne.2 (by omega);have n5:(k==5)=false:=beq_eq_false_iff_ne.2 (by omega);have n6:(k==6)=false:=beq_eq_false_iff_ne.2 (by omega);have n7:(k==7)=false:=beq_eq_false_iff_ne.2 (by omega);have n8:(k==8)=false:=beq_eq_false_iff_ne.2 (by omega);have n9:(k==9)=false:=beq_eq_false_iff_ne.2 (by omega);have n12:(k==12)=false:=beq_eq_false_iff_ne.2 (by omega);have n13:(k==13)=false:=beq_eq_false_iff_ne.2 (by omega);have n10:(k==10)=false:=beq_eq_false_iff_ne.2 (by omega);have n11:(k==11)=false:=beq_eq_false_iff_ne.2 (by omega);have n14:(k==14)=false:=beq_eq_false_iff_ne.2 (by omega);rw[HR.out];clear h hk HR;go_enter Tryz.func25,Tryz.ntmps25;go_wp2_with (first | (go_at_call 51;refine(refused_any _ _).mono ?_;rintro e w9 ⟨rfl,rfl⟩) | fail)
 go_ret2
 exact PlOut.none_ ((fR w).alloc _)
theorem Plan_any{w:World}{g:Nat}{M:Ms}{x:St}(h:StAt w g M x)(k a b n:Int)(s t:ByteArray)(hc:CmIs ⟨k,a,b,n,s,t⟩):
  Calls Tryz.prog 25 #[.pointer (some ⟨g,0,none⟩),.agg #[.int .i64 k,.int .i64 a,.int .i64 b,.int .i64 n,.string s,.string t]] w (PlOut w (planP shortS tagS x ⟨k,a,b,n,s,t⟩)):=by
 by_cases hk:1≤k∧k≤14
 ·rcases(by omega:k=1∨k=2∨k=3∨k=4∨k=5∨k=6∨k=7∨k=8∨k=9∨k=10∨k=11∨k=12∨k=13∨k=14) with rfl | rfl | rfl | rfl | rfl | rfl | rfl | rfl | rfl | rfl | rfl | rfl | rfl | rfl
  ·exact Plan1_any h a b n s t hc
  ·exact Plan2_any h a b n s t hc
  ·exact Plan3_any h a b n s t hc
  ·exact Plan4_any h a b n s t hc
  ·exact Plan5_any h a b n s t hc
  ·exact Plan6_any h a b n s t hc
  ·exact Plan7_any h a b n s t hc
  ·exact Plan8_any h a b n s t hc
  ·exact Plan9_any h a b n s t hc
  ·exact Plan10_any h a b n s t hc
  ·exact Plan11_any h a b n s t hc
  ·exact Plan12_any h a b n s t hc
  ·exact Plan13_any h a b n s t hc
  ·exact Plan14_any h a b n s t hc
 ·exact PlanX_any h k a b n s t hk
theorem Do_any{w:World}{g:Nat}{M:Ms}{x:St}(h:StAt w g M x)(k a b n:Int)(s t:ByteArray)(hc:CmIs ⟨k,a,b,n,s,t⟩):
  Calls Tryz.prog 29 #[.pointer (some ⟨g,0,none⟩),.agg #[.int .i64 k,.int .i64 a,.int .i64 b,.int .i64 n,.string s,.string t]] w fun e w'=>∃ v:Sl,e=.returned (.tuple #[.slice v.1 (planP shortS tagS x ⟨k,a,b,n,s,t⟩).1.length v.2,.int .i64 (planP shortS tagS x ⟨k,a,b,n,s,t⟩).2])∧SlIn w' (fun k=>w.heap.size≤k) 7 v (planP shortS tagS x ⟨k,a,b,n,s,t⟩).1.length ((planP shortS tagS x ⟨k,a,b,n,s,t⟩).1.flatMap Ev.cells)∧StAt w' g M (doC shortS tagS x ⟨k,a,b,n,s,t⟩)∧Frm (SF g M) w w':=by
 have KP:Hid (∀ W,Frm Nix w W→Calls Tryz.prog 25 #[.pointer (some ⟨g,0,none⟩),.agg #[.int .i64 k,.int .i64 a,.int .i64 b,.int .i64 n,.string s,.string t]] W (PlOut W (planP shortS tagS x ⟨k,a,b,n,s,t⟩))):=fun W hW=>Plan_any (h.nix hW) _ _ _ _ _ _ hc
 have HI:=h_ (moves_i64 (plan_moves (tg:=tagS) short_ok h.ok ⟨k,a,b,n,s,t⟩));have hlen:=plan_len h.ok ⟨k,a,b,n,s,t⟩;unfold doC;obtain⟨r,hr⟩:∃ r,planP shortS tagS x ⟨k,a,b,n,s,t⟩=r:=⟨_,rfl⟩;rw[hr] at KP HI hlen ⊢;obtain⟨l,er⟩:=r;dsimp only at KP HI hlen ⊢;obtain⟨m,hln⟩:∃ m,l.length=m:=⟨_,rfl⟩;have HL:=h_ hln;have HS:=h_ h;have KP2:Hid (∀ W,Frm Nix w W→Calls Tryz.prog 25 #[.pointer (some ⟨g,0,none⟩),.agg #[.int .i64 k,.int .i64 a,.int .i64 b,.int .i64 n,.string s,.string t]] W fun e w'=>∃ A c,e=.returned (.tuple #[.slice A m c,.int .i64 er])∧SlIn w' (fun k=>W.heap.size≤k) 7 (A,c) l.length (l.flatMap Ev.cells)∧Frm Nix W w'):=fun W hW=>(KP.out W hW).mono fun e w' ⟨⟨A,c⟩,h1,h2,h3⟩=>⟨A,c,by rw[← hln];exact h1,h2,h3⟩
 rw[hln] at hlen ⊢;clear h hc hr hln KP;go_enter Tryz.func29,Tryz.ntmps29;go_wp2_with (first | (go_at_call 25;refine(KP2.out _ ((fR w).alloc _)).mono ?_;rintro e w1 ⟨Av,cv,rfl,hv,hf⟩;have HV:=h_ (hv.mono (G':=fun k=>w.heap.size<k) fun k hk=>by(have hk2:=hk;simp at hk2;omega));have Z1:Hid (Frm Nix w w1):=((fR w).alloc _).trans hf;clear hv hf) | fail);have HG:Hid (∀ j,SF g M j→j<w.heap.size):=fun j hj=>HS.out.lt j hj
 go_loopw [18] (fun kv wr=>∃ k:Nat,k≤m∧kv=.int .i64 k∧StAt wr g M (foldE x (l.take k))∧Frm (SF g M) w1 wr) (fun kv _=>m - (intOf kv).toNat)
 case atStart=>exact⟨0,by omega,rfl,HS.out.nix Z1.out,Frm.refl _ _⟩
 case round=>
  obtain⟨k,hk,rfl,hs,hf⟩:=hrel;have HS2:=h_ hs;have HF2:=h_ hf;clear hs hf
  by_cases hlt:k<m
  ·have hkl:k<l.length:=by rw[HL.out];exact hlt
   obtain⟨b,off,hA,-,hbl,hcell⟩:=(HV.out.frm HF2.out (fun j hj hj2=>by have:=HG.out j hj2;omega)).at_ Ev.clen (by decide) (by omega);dsimp only at hA;subst hA;have h7:=evc7 (w:=wr) (b:=b) (off:=off+k * 7) (e:=l[k]) (hcell k hkl);have hie:=HI.out l[k] (List.getElem_mem hkl);have HFT:=h_ (foldE_take (x:=x) hkl);obtain⟨ev,hev⟩:∃ ev,l[k]=ev:=⟨_,rfl⟩;rw[hev] at h7 hie HFT;obtain⟨x0,x1,x2,x3,x4,x5,x6⟩:=h7
   have KA:Hid (Calls Tryz.prog 31 #[.pointer (some ⟨g,0,none⟩),.agg #[.int .i64 ev.kind,.int .i64 ev.a,.int .i64 ev.b,.int .i64 ev.n,.string ev.s,.string ev.t,.string ev.u]] (wr.alloc (.cells #[.int .i64 ev.kind,.int .i64 ev.a,.int .i64 ev.b,.int .i64 ev.n,.string ev.s,.string ev.t,.string ev.u] 43)) fun r w'=>r=.returned (.bool (applyS (foldE x (l.take k)) ev).2)∧StAt w' g M (foldE x (l.take (k+1)))∧Frm (SF g M) w1 w'):=
    (Apply_any (HS2.out.nix ((fR wr).alloc _)) ev hie.1 hie.2).mono fun r w' ⟨h1,h2,h3⟩=>⟨h1,by rw[HFT.out];exact h2,(HF2.out.alloc _).trans h3⟩
   clear hcell hev hie;generalize (applyS (foldE x (l.take k)) ev).2=bb at *;go_wp2_with (first | (go_at_call 31;refine KA.out.mono ?_;rintro r w2 ⟨rfl,hs2,hf2⟩;have HS3:=h_ hs2;have HF3:=h_ hf2;clear hs2 hf2) | fail);go_roundw
   case rel=>exact⟨k+1,by omega,by go_num,HS3.out,HF3.out⟩
   case measure=>simp[intOf];omega
  ·obtain rfl:k=m:=by omega
   have HTk:Hid (l.take k=l):=List.take_of_length_le (by rw[HL.out];exact Nat.le_refl _);have hs:=HS2.out;rw[HTk.out] at hs;have HS4:=h_ hs;clear hs;go_wp2
   go_ret2
   exact⟨(Av,cv),rfl,by have q:=HV.out;rw[HL.out] at q;exact(q.frm HF2.out (fun j hj hj2=>by have:=HG.out j hj2;omega)).mono fun j hj=>Nat.le_of_lt hj,HS4.out,(Z1.out.mono fun _ e=>e.elim).trans HF2.out⟩
end Go.Proofs.YtdihmpakglakdaaGreat
