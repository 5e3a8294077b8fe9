/-
  Contracts: cmd: fed.
-/
import Derived.Test.YtdihmpakglakdaaGreatGp36
import Derived.Deep.RegionHeld3
set_option linter.unusedVariables false
set_option linter.unusedSimpArgs false
set_option maxRecDepth 100000
set_option maxHeartbeats 16000000
namespace Go.Proofs.YtdihmpakglakdaaGreat
open Go.RowKit Go.Lib
theorem own_pushK{P:Program}{t e:TypeId}{s bytes:Nat}(E:ElemK P t e s bytes){w1:World}{B:Nat}{v:Value}{n:Nat}{xs:List Value}(h:w1.ownsRow B e s v n xs)(hB:B≤w1.heap.size)(ys:List Value)(hl:ys.length=s)(h1:∀ u ∈ ys,u.oneCell'=true)(hn:n+1≤maxLen)(hb:(n+1) * bytes≤140737488355328):
  ∃ v' w2,(∀ ty,(Builtin.append_ #[t,t] ty #[v,.slice (some ⟨w1.heap.size,0,none⟩) 1 1]).run P (w1.alloc (.cells ys.toArray e))=.ok v' w2)∧w2.ownsRow B e s v' (n+1) (xs++ys)∧Frm (fun k=>v.ownBlock=some k) (w1.alloc (.cells ys.toArray e)) w2∧(v'.ownBlock=v.ownBlock∨v'.ownBlock=some (w1.heap.size+1)):=by
 obtain⟨z,hi,hzs⟩:=E.i;obtain⟨i0,hi0,hz0,hz1,hz2⟩:=info_parts hi;have hf:Frm Nix w1 (w1.alloc (.cells ys.toArray e)):=(fR w1).alloc _
 obtain⟨v1,w2,hrun,hown,hg,hat⟩:=run_append_any (P:=P) (w1.alloc (.cells ys.toArray e)) B t e i0 z s bytes E.t hi0 hz0 hz1 hz2 hzs E.s v n xs (own_frm h hf fun _ _=>id) _ (some ⟨w1.heap.size,0,none⟩) 1 1 ys
  (Rd.of_obj (heap_alloc_new w1 (.cells ys.toArray e)) 1 (by simp[hl])) h1 hn hb (by simp;omega)
 exact⟨v1,w2,hrun,hown,(Frm.refl _ _).grown hg fun k hk=>.inl hk,by simpa using hat⟩
structure FedR(w2 wr:World)(bL:Nat)(v:Value)(n:Nat)(xs:List Value):Prop where
 own:wr.ownsRow bL 43 7 v n xs
 lt:bL<w2.heap.size
 at_:∀ k,v.ownBlock=some k→k=bL∨w2.heap.size≤k
 frm:Frm (·=bL) w2 wr
section
variable {w2 wr w':World} {bL n:Nat} {v:Value} {xs:List Value}
theorem FedR.more(h:FedR w2 wr bL v n xs)(hf:Frm Nix wr w'):FedR w2 w' bL v n xs:=⟨own_frm h.own hf fun _ _=>id,h.lt,h.at_,h.frm.trans (hf.mono fun _ e=>e.elim)⟩
theorem FedR.push(h:FedR w2 wr bL v n xs)(ys:List Value)(hl:ys.length=7)(h1:∀ u ∈ ys,u.oneCell'=true)(hn:n≤100000):
  ∃ v' w3,(∀ ty,(Builtin.append_ #[31,31] ty #[v,.slice (some ⟨wr.heap.size,0,none⟩) 1 1]).run Tryz.prog (wr.alloc (.cells ys.toArray 43))=.ok v' w3)∧FedR w2 w3 bL v' (n+1) (xs++ys)∧Frm (fun k=>v.ownBlock=some k) (wr.alloc (.cells ys.toArray 43)) w3:=by
 have hsz:=h.frm.size;have hlt:=h.lt;obtain⟨v',w3,hrun,hown,hf,hat⟩:=own_pushK elemEv h.own (by omega) ys hl h1 (by unfold maxLen;omega) (by omega);refine⟨v',w3,hrun,⟨hown,h.lt,fun k hk=>?_,(h.frm.trans (((fR wr).alloc _).mono fun _ e=>e.elim)).next hf fun k hk=>(h.at_ k hk).elim .inl .inr⟩,hf⟩;rcases hat with e | e
 ·exact h.at_ k (e ▸ hk)
 ·rw[e] at hk
  injection hk with hk
  right
  omega
theorem FedR.shape(h:FedR w2 wr bL v n xs):∃ A c,v=.slice A n c:=by
 obtain⟨A,c,e,-⟩:=own_shape h.own;exact⟨A,c,e⟩
theorem FedR.blk(h:FedR w2 wr bL v n xs){g:Nat}{t:TypeId}{cs:Array Value}(hg:Blk wr g t cs)(ht:43≠t):v.ownBlock≠some g:=own_blk_ne h.own hg ht
end
structure FedE(w2 wr:World)(bL:Nat)(v:Value)(n:Nat)(l:List Ev):Prop where
 len:l.length=n
 row:FedR w2 wr bL v n (l.flatMap Ev.cells)
theorem FedE.push{w2 wr:World}{bL n:Nat}{v:Value}{l:List Ev}(h:FedE w2 wr bL v n l)(e:Ev)(hn:n≤100000):
  ∃ v' w3,(∀ ty,(Builtin.append_ #[31,31] ty #[v,.slice (some ⟨wr.heap.size,0,none⟩) 1 1]).run Tryz.prog (wr.alloc (.cells e.cells.toArray 43))=.ok v' w3)∧FedE w2 w3 bL v' (n+1) (l++[e])∧Frm (fun k=>v.ownBlock=some k) (wr.alloc (.cells e.cells.toArray 43)) w3:=by
 obtain⟨v',w3,h1,h2,h3⟩:=h.row.push e.cells rfl (by intro u hu;simp[Ev.cells] at hu;rcases hu with rfl | rfl | rfl | rfl | rfl | rfl | rfl<;>rfl) hn;refine⟨v',w3,h1,⟨by rw[List.length_append,h.len];rfl,?_⟩,h3⟩;rw[List.flatMap_append]
 simpa using h2
theorem cItmEvs_len{t:Itm}(h:t.tags.length≤8):(itmEvs t).length≤11:=by
 unfold itmEvs;simp only[List.length_cons,List.length_append,List.length_map];split<;>split<;>simp<;>omega
theorem feds_len:∀ (l:List Itm),(∀ t ∈ l,t.tags.length≤8)→(l.flatMap itmEvs).length≤l.length * 11
 | [],_=>by simp
 | t::l,h=>by
   have h1:=cItmEvs_len (h t (by simp));have h2:=feds_len l fun y hy=>h y (by simp[hy])
   rw[List.flatMap_cons,List.length_append,List.length_cons];omega
theorem flat_filter_step(l:List Itm)(k:Nat)(hk:k<l.length)(p:Itm→Bool):((l.take (k+1)).filter p).flatMap itmEvs=((l.take k).filter p).flatMap itmEvs++if p l[k]=true then itmEvs l[k] else []:=by
 rw[filt_step l k hk p,List.flatMap_append];split<;>simp
def cTagEv(i:Int)(g:ByteArray):Ev:=⟨10,i,0,1,g,eS,eS⟩
theorem fed_any{w:World}{g:Nat}{M:Ms}{x:St}(h:StAt w g M x){i:Int}(hi:I64 i):
  Calls Tryz.prog 127 #[.pointer (some ⟨g,0,none⟩),.int .i64 i] w fun e w'=>∃ v:Sl,e=.returned (.slice v.1 (backP x ⟨4,i,0,0,eS,eS,eS⟩).length v.2)∧SlIn w' (fun k=>w.heap.size≤k) 7 v (backP x ⟨4,i,0,0,eS,eS,eS⟩).length ((backP x ⟨4,i,0,0,eS,eS,eS⟩).flatMap Ev.cells)∧Frm Nix w w':=by
 obtain⟨q0,hq0⟩:∃ q0,feeAt x i=q0:=⟨_,rfl⟩;obtain⟨F0,hF0⟩:∃ F0:Ev,(⟨3,i,q0.inn,0,q0.url,q0.title,eS⟩:Ev)=F0:=⟨_,rfl⟩;obtain⟨p,hp⟩:∃ p:Itm→Bool,(fun t:Itm=>decide (t.feed=i))=p:=⟨_,rfl⟩
 have hback:backP x ⟨4,i,0,0,eS,eS,eS⟩=F0::(x.itms.filter p).flatMap itmEvs:=by
  rw[← hp,← hF0,← hq0];unfold backP feeAt;simp only[if_neg (show ¬(4:Int)=1 by decide),if_neg (show ¬(4:Int)=2 by decide),if_neg (show ¬(4:Int)=3 by decide),if_true]
  cases atI Fee.id i x.fees<;>rfl
 rw[hback];obtain⟨LF,hLF⟩:∃ LF,F0::(x.itms.filter p).flatMap itmEvs=LF:=⟨_,rfl⟩;have HLF:=h_ hLF;rw[hLF];clear hLF;have hil:=h.ok.iL;have HTl:Hid (∀ t ∈ x.itms,t.tags.length≤8):=fun t ht=>(h.ok.iE t ht).2.2.2.1
 have HPq:Hid (∀ t:Itm,p t=decide (t.feed=i)):=fun t=>by rw[← hp]
 have KF:Hid (Calls Tryz.prog 56 #[.pointer (some ⟨g,0,none⟩),.int .i64 i] w fun e w'=>e=.returned (.tuple #[.agg #[.int .i64 q0.id,.int .i64 q0.inn,.string q0.url,.string q0.title],.bool (isI Fee.id i x.fees)])∧Frm Nix w w'):=by
  have:=FeedS_any h hi;rw[hq0] at this;exact this
 generalize isI Fee.id i x.fees=ib at *;have KT:Hid (∀ W,Frm Nix w W→Calls Tryz.prog 28 #[.pointer (some ⟨g,0,none⟩)] W fun e w'=>∃ Ao co Ae ce Ai ci As cs,∃ ts:List (Sl×Itm),e=.returned (.agg #[.int .i64 x.clock,.slice Ao x.fols.length co,.slice Ae x.fees.length ce,.slice Ai x.itms.length ci,.slice As x.seas.length cs,.int .i64 x.tFol,.int .i64 x.tFee,.int .i64 x.tItm,.int .i64 x.tSea])∧StIn w' (fun k=>W.heap.size≤k) (Ao,co) (Ae,ce) (Ai,ci) (As,cs) ts x∧Frm Nix W w'):=fun W hW=>TellV (h.nix hW)
 have hfd:=fieldS3;obtain⟨n,hxn⟩:∃ n,x.itms.length=n:=⟨_,rfl⟩;rw[hxn] at hil KT;have HN:=h_ hxn;have HF0:=h_ hF0;clear h hq0 hp hback hxn hF0;go_enter Tryz.func127,Tryz.ntmps127
 go_wp2_with (first
  | (go_at_call 28;have _q:=Z1;refine(KT.out _ ((Z1.out.alloc _).alloc _)).mono ?_;rintro e w2 ⟨Ao,co,Ae,ce,Ai,ci,As,cs,ts,rfl,hd,hf⟩;have HD:=h_ hd.itms;have HSame:=h_ hd.same;have Y2:=h_ hf;clear hd hf)
  | (go_at_call 56;refine KF.out.mono ?_;rintro e w1 ⟨rfl,hf⟩;have Z1:=h_ hf;clear hf)
  | fail)
 obtain⟨bL,hbL⟩:∃ bL,w1.heap.size+1=bL:=⟨_,rfl⟩
 have HSz:Hid (bL<w2.heap.size∧w.heap.size≤bL):=by
  have h1:=Y2.out.size;have h2:=Z1.out.size;simp at h1;unfold Hid;omega
 have HRow0:Hid (FedE w2 w2 bL (.slice (some ⟨bL,0,none⟩) 1 1) 1 [F0]):=by
  have q2:=(RowK.lit (s:=7) 43 ((fR w1).alloc (.cells #[.int .i64 q0.id,.int .i64 q0.inn,.string q0.url,.string q0.title] 73)) 1 F0.cells rfl (by unfold maxLen;omega)).own;rw[show (w1.alloc (.cells #[.int .i64 q0.id,.int .i64 q0.inn,.string q0.url,.string q0.title] 73)).heap.size=w1.heap.size+1 by simp,hbL] at q2;have q3:(_ :World).ownsRow _ _ _ _ _ _:=own_frm (w1:=w2) q2 (by rw[← HF0.out];exact Y2.out) fun _ _=>id
  refine⟨rfl,⟨own_base q3 fun k hk=>?_,HSz.out.1,fun k hk=>?_,Frm.refl _ _⟩⟩
  ·simp[Value.ownBlock] at hk
   omega
  ·simp[Value.ownBlock] at hk
   exact .inl hk.symm
 have HTL:Hid (ts.length=n):=by unfold Hid;rw[← HN.out,← HSame.out,List.length_map]
 have HNb:Hid (∀ k,((w1.alloc (.cells #[.int .i64 q0.id,.int .i64 q0.inn,.string q0.url,.string q0.title] 73)).alloc (.cells #[.int .i64 3,.int .i64 i,.int .i64 q0.inn,.int .i64 0,.string q0.url,.string q0.title,.string ⟨#[]⟩] 43)).heap.size≤k→¬k=bL):=fun k hk e=>by
  simp at hk;omega
 rw[hbL];clear hbL
 go_loopw [7,31] (fun lv kv wr=>∃ (k m:Nat),k≤n∧kv=.int .i64 k∧FedE w2 wr bL lv m (F0::(((ts.map (·.2)).take k).filter p).flatMap itmEvs)) (fun _ kv _=>n - (intOf kv).toNat)
 case atStart=>exact⟨0,1,by omega,rfl,HRow0.out⟩
 case round=>
  obtain⟨k,m,hk,rfl,hrow⟩:=hrel;obtain⟨Al,cl,rfl⟩:=hrow.row.shape;have HRw:=h_ hrow;have HF:=h_ hrow.row.frm
  have hm:m≤11265:=by
   rw[← hrow.len,List.length_cons];have h1:=feds_len (((ts.map (·.2)).take k).filter p) fun t ht=>HTl.out t (by rw[← HSame.out];exact List.mem_of_mem_take (List.mem_filter.1 ht).1)
   have h2:=List.length_filter_le p ((ts.map (·.2)).take k);rw[List.length_take] at h2;omega
  clear hrow
  by_cases hlt:k<n
  ·have hkl:k<ts.length:=by rw[HTL.out];exact hlt
   obtain⟨b,off,hA,-,hbl,hcell⟩:=(HD.out.row.frm HF.out HNb.out).at_ itmC_len (by decide) (by omega);dsimp only at hA;subst hA;obtain⟨x0,x1,x2,x3,x4,x5,x6,x7,x8⟩:=itm_cells (w:=wr) (b:=b) (off:=off+k * 9) (pt:=ts[k]) (hcell k hkl);have hkm:k<(ts.map (·.2)).length:=by rw[List.length_map];exact hkl
   have HST:Hid ((F0::(((ts.map (·.2)).take (k+1)).filter p).flatMap itmEvs)=(F0::(((ts.map (·.2)).take k).filter p).flatMap itmEvs)++if p ts[k].2=true then itmEvs ts[k].2 else []):=by
    have:=flat_filter_step (ts.map (·.2)) k hkm p;rw[List.getElem_map] at this;unfold Hid;rw[this,List.cons_append]
   have htags:=HD.out.tags ts[k] (List.getElem_mem hkl);have ht8:ts[k].2.tags.length≤8:=HTl.out _ (by rw[← HSame.out];exact List.mem_map.2 ⟨_,List.getElem_mem hkl,rfl⟩);obtain⟨pt,hpt⟩:∃ pt,ts[k]=pt:=⟨_,rfl⟩;rw[hpt] at x0 x1 x2 x3 x4 x5 x6 x7 x8 HST htags ht8;obtain⟨⟨tA,tc⟩,q⟩:=pt;dsimp only at x0 x1 x2 x3 x4 x5 x6 x7 x8 HST htags ht8;have hpq:=HPq.out q;clear hcell hkm hpt
   by_cases hfe:q.feed=i
   ·rw[decide_eq_true hfe] at hpq
    have HPQ:=h_ hpq;have HIf:Hid (i=q.feed):=hfe.symm;have hne:(q.feed !=i)=false:=by rw[hfe];simp
    rw[str_single] at htags;obtain⟨nt,hnt⟩:∃ nt,q.tags.length=nt:=⟨_,rfl⟩;have HNt:=h_ hnt;have HTg:=h_ htags;rw[hnt] at x8 ht8;clear hpq hfe htags hnt
    cases hrd:q.read with
    | true=>
      cases hst:q.star with
      | true=>
        have HRd:=h_ hrd;have HSt:=h_ hst;rw[hrd] at x6;rw[hst] at x7;clear hrd hst;have hb0:Blk (wr.alloc (.cells #[.int .i64 q.id,.int .i64 q.feed,.int .i64 q.date,.string q.guid,.string q.title,.string q.link,.bool true,.bool true,.slice tA nt tc] 91)) wr.heap.size 91 #[.int .i64 q.id,.int .i64 q.feed,.int .i64 q.date,.string q.guid,.string q.title,.string q.link,.bool true,.bool true,.slice tA nt tc]:=Blk.new wr _ _;have g0:FedE w2 (wr.alloc (.cells #[.int .i64 q.id,.int .i64 q.feed,.int .i64 q.date,.string q.guid,.string q.title,.string q.link,.bool true,.bool true,.slice tA nt tc] 91)) bL (.slice Al m cl) m (F0::(((ts.map (·.2)).take k).filter p).flatMap itmEvs):=⟨HRw.out.len,HRw.out.row.more ((fR wr).alloc _)⟩;obtain⟨v1,u1,run1,g1,hf1⟩:=g0.push ⟨7,q.id,i,q.date,q.guid,q.title,q.link⟩ (by omega);have hb1:Blk u1 wr.heap.size 91 #[.int .i64 q.id,.int .i64 q.feed,.int .i64 q.date,.string q.guid,.string q.title,.string q.link,.bool true,.bool true,.slice tA nt tc]:=(hb0.alloc _).frm hf1 (g0.row.blk hb0 (by decide));rw[show (wr.alloc (.cells #[.int .i64 q.id,.int .i64 q.feed,.int .i64 q.date,.string q.guid,.string q.title,.string q.link,.bool true,.bool true,.slice tA nt tc] 91)).heap.size=wr.heap.size+1 by simp] at run1;obtain⟨A1,c1,hv1⟩:=g1.row.shape;subst hv1;have run1':∀ ty,(Builtin.append_ #[31,31] ty #[.slice Al m cl,.slice (some ⟨wr.heap.size+1,0,none⟩) 1 1]).run Tryz.prog ((wr.alloc (.cells #[.int .i64 q.id,.int .i64 q.feed,.int .i64 q.date,.string q.guid,.string q.title,.string q.link,.bool true,.bool true,.slice tA nt tc] 91)).alloc (.cells #[.int .i64 7,.int .i64 q.id,.int .i64 i,.int .i64 q.date,.string q.guid,.string q.title,.string q.link] 43))=.ok (.slice A1 (m+1) c1) u1:=run1;obtain⟨y10,y11,y12,y13,y14,y15,y16,y17,y18⟩:=blk9 hb1;have hlt1:=hb1.lt;obtain⟨v2,u2,run2,g2,hf2⟩:=g1.push ⟨8,q.id,0,1,eS,eS,eS⟩ (by omega);have hb2:Blk u2 wr.heap.size 91 #[.int .i64 q.id,.int .i64 q.feed,.int .i64 q.date,.string q.guid,.string q.title,.string q.link,.bool true,.bool true,.slice tA nt tc]:=(hb1.alloc _).frm hf2 (g1.row.blk hb1 (by decide));obtain⟨A2,c2,hv2⟩:=g2.row.shape;subst hv2;have run2':∀ ty,(Builtin.append_ #[31,31] ty #[.slice A1 (m+1) c1,.slice (some ⟨u1.heap.size,0,none⟩) 1 1]).run Tryz.prog (u1.alloc (.cells #[.int .i64 8,.int .i64 q.id,.int .i64 0,.int .i64 1,.string ⟨#[]⟩,.string ⟨#[]⟩,.string ⟨#[]⟩] 43))=.ok (.slice A2 (m+1+1) c2) u2:=run2;obtain⟨y20,y21,y22,y23,y24,y25,y26,y27,y28⟩:=blk9 hb2;have hlt2:=hb2.lt;obtain⟨v3,u3,run3,g3,hf3⟩:=g2.push ⟨9,q.id,0,1,eS,eS,eS⟩ (by omega);have hb3:Blk u3 wr.heap.size 91 #[.int .i64 q.id,.int .i64 q.feed,.int .i64 q.date,.string q.guid,.string q.title,.string q.link,.bool true,.bool true,.slice tA nt tc]:=(hb2.alloc _).frm hf3 (g2.row.blk hb2 (by decide));obtain⟨A3,c3,hv3⟩:=g3.row.shape;subst hv3;have run3':∀ ty,(Builtin.append_ #[31,31] ty #[.slice A2 (m+1+1) c2,.slice (some ⟨u2.heap.size,0,none⟩) 1 1]).run Tryz.prog (u2.alloc (.cells #[.int .i64 9,.int .i64 q.id,.int .i64 0,.int .i64 1,.string ⟨#[]⟩,.string ⟨#[]⟩,.string ⟨#[]⟩] 43))=.ok (.slice A3 (m+1+1+1) c3) u3:=run3;obtain⟨y30,y31,y32,y33,y34,y35,y36,y37,y38⟩:=blk9 hb3;have hlt3:=hb3.lt;have HG:=h_ g3;have HBk:=h_ hb3;clear run1 hf1 g1 hb1 run2 hf2 g2 hb2 run3 hf3 g3 hb3 g0 hb0;go_wp2_with (first | (at_builtin;refine wpList_append_run run3' rfl _ _ rfl rfl rfl ?_) | (at_builtin;refine wpList_append_run run2' rfl _ _ rfl rfl rfl ?_) | (at_builtin;refine wpList_append_run run1' rfl _ _ rfl rfl rfl ?_) | fail);clear run1' y10 y11 y12 y13 y14 y15 y16 y17 y18 hlt1 run2' y20 y21 y22 y23 y24 y25 y26 y27 y28 hlt2 run3' y30 y31 y32 y33 y34 y35 y36 y37 y38 hlt3;obtain⟨L0,hL0⟩:∃ L0,((((F0::(((ts.map (·.2)).take k).filter p).flatMap itmEvs)++[⟨7,q.id,i,q.date,q.guid,q.title,q.link⟩])++[⟨8,q.id,0,1,eS,eS,eS⟩])++[⟨9,q.id,0,1,eS,eS,eS⟩])=L0:=⟨_,rfl⟩;rw[hL0] at HG;have HL0:=h_ hL0;clear hL0;obtain⟨mm,hmm⟩:∃ mm,m+1+1+1=mm:=⟨_,rfl⟩;have hmm2:mm≤20000:=by omega
        simp only[hmm] at HG ⊢;obtain⟨g9,hg9⟩:∃ g9,wr.heap.size=g9:=⟨_,rfl⟩;rw[hg9] at HBk ⊢
        go_loopw [7,73] (fun lw jv wi=>∃ j:Nat,j≤nt∧jv=.int .i64 j∧FedE w2 wi bL lw (mm+j) (L0++(q.tags.take j).map (cTagEv q.id))∧Blk wi g9 91 #[.int .i64 q.id,.int .i64 q.feed,.int .i64 q.date,.string q.guid,.string q.title,.string q.link,.bool true,.bool true,.slice tA nt tc]) (fun _ jv _=>nt - (intOf jv).toNat)
        case atStart=>exact⟨0,by omega,rfl,by have z:=HG.out;rw[List.take_zero,List.map_nil,List.append_nil];exact z,HBk.out⟩
        case round=>
         obtain⟨j,hj,rfl,hg,hb⟩:=hrel;obtain⟨Aj,cj,rfl⟩:=hg.row.shape;have HGj:=h_ hg;have HBj:=h_ hb;clear hg hb
         by_cases hjl:j<nt
         ·have hjl2:j<q.tags.length:=by rw[HNt.out];exact hjl
          obtain⟨bt,offt,hAt,-,-,hct⟩:=(HTg.out.frm HGj.out.row.frm HNb.out).at_ (f:=fun s:ByteArray=>[Value.string s]) (fun _=>rfl) (by decide) (by omega);have ct:=hct j hjl2 0 _ rfl;rw[Nat.mul_one,Nat.add_zero] at ct;have HTk:Hid (q.tags.take (j+1)=q.tags.take j++[q.tags[j]]):=List.take_succ_eq_append_getElem hjl2;obtain⟨tg,htg⟩:∃ tg,q.tags[j]=tg:=⟨_,rfl⟩;rw[htg] at ct HTk;obtain⟨v5,u5,run5,g5,hf5⟩:=HGj.out.push ⟨10,q.id,0,1,tg,eS,eS⟩ (by omega);obtain⟨A5,c5,hv5⟩:=g5.row.shape;subst hv5;simp only[Ev.cells,eS] at run5
          have HX:Hid (FedE w2 u5 bL (.slice A5 (mm+j+1) c5) (mm+(j+1)) (L0++(q.tags.take (j+1)).map (cTagEv q.id))∧Blk u5 g9 91 #[.int .i64 q.id,.int .i64 q.feed,.int .i64 q.date,.string q.guid,.string q.title,.string q.link,.bool true,.bool true,.slice tA nt tc]):=by
           refine⟨?_,(HBj.out.alloc _).frm hf5 (HGj.out.row.blk HBj.out (by decide))⟩;rw[HTk.out,List.map_append,← List.append_assoc,List.map_cons,List.map_nil];exact g5
          obtain⟨z0,z1,z2,z3,z4,z5,z6,z7,z8⟩:=blk9 HBj.out;clear hct htg g5 hf5 hjl2;subst hAt;go_wp2_with (first | (at_builtin;refine wpList_append_run run5 rfl _ _ rfl rfl rfl ?_) | fail);go_roundw
          case rel=>exact⟨j+1,by omega,by go_num,HX.out.1,HX.out.2⟩
          case measure=>simp[intOf];omega
         ·obtain rfl:j=nt:=by omega
          have HX:Hid (FedE w2 wr bL (.slice Aj (mm+j) cj) (mm+j) (F0::(((ts.map (·.2)).take (k+1)).filter p).flatMap itmEvs)):=by
           have z:=HGj.out;rw[List.take_of_length_le (by rw[HNt.out];exact Nat.le_refl _)] at z;have e1:L0++q.tags.map (cTagEv q.id)=(F0::(((ts.map (·.2)).take (k+1)).filter p).flatMap itmEvs):=by rw[HST.out,HPQ.out,← HL0.out,HIf.out];simp[itmEvs,itmEv,HRd.out,HSt.out];exact fun _ _=>rfl
           rw[e1] at z;exact z
          go_wp2;go_roundw
          case rel=>exact⟨k+1,mm+j,by omega,by go_num,HX.out⟩
          case measure=>simp[intOf];omega
      | false=>
        have HRd:=h_ hrd;have HSt:=h_ hst;rw[hrd] at x6;rw[hst] at x7;clear hrd hst;have hb0:Blk (wr.alloc (.cells #[.int .i64 q.id,.int .i64 q.feed,.int .i64 q.date,.string q.guid,.string q.title,.string q.link,.bool true,.bool false,.slice tA nt tc] 91)) wr.heap.size 91 #[.int .i64 q.id,.int .i64 q.feed,.int .i64 q.date,.string q.guid,.string q.title,.string q.link,.bool true,.bool false,.slice tA nt tc]:=Blk.new wr _ _;have g0:FedE w2 (wr.alloc (.cells #[.int .i64 q.id,.int .i64 q.feed,.int .i64 q.date,.string q.guid,.string q.title,.string q.link,.bool true,.bool false,.slice tA nt tc] 91)) bL (.slice Al m cl) m (F0::(((ts.map (·.2)).take k).filter p).flatMap itmEvs):=⟨HRw.out.len,HRw.out.row.more ((fR wr).alloc _)⟩;obtain⟨v1,u1,run1,g1,hf1⟩:=g0.push ⟨7,q.id,i,q.date,q.guid,q.title,q.link⟩ (by omega);have hb1:Blk u1 wr.heap.size 91 #[.int .i64 q.id,.int .i64 q.feed,.int .i64 q.date,.string q.guid,.string q.title,.string q.link,.bool true,.bool false,.slice tA nt tc]:=(hb0.alloc _).frm hf1 (g0.row.blk hb0 (by decide));rw[show (wr.alloc (.cells #[.int .i64 q.id,.int .i64 q.feed,.int .i64 q.date,.string q.guid,.string q.title,.string q.link,.bool true,.bool false,.slice tA nt tc] 91)).heap.size=wr.heap.size+1 by simp] at run1;obtain⟨A1,c1,hv1⟩:=g1.row.shape;subst hv1;have run1':∀ ty,(Builtin.append_ #[31,31] ty #[.slice Al m cl,.slice (some ⟨wr.heap.size+1,0,none⟩) 1 1]).run Tryz.prog ((wr.alloc (.cells #[.int .i64 q.id,.int .i64 q.feed,.int .i64 q.date,.string q.guid,.string q.title,.string q.link,.bool true,.bool false,.slice tA nt tc] 91)).alloc (.cells #[.int .i64 7,.int .i64 q.id,.int .i64 i,.int .i64 q.date,.string q.guid,.string q.title,.string q.link] 43))=.ok (.slice A1 (m+1) c1) u1:=run1;obtain⟨y10,y11,y12,y13,y14,y15,y16,y17,y18⟩:=blk9 hb1;have hlt1:=hb1.lt;obtain⟨v2,u2,run2,g2,hf2⟩:=g1.push ⟨8,q.id,0,1,eS,eS,eS⟩ (by omega);have hb2:Blk u2 wr.heap.size 91 #[.int .i64 q.id,.int .i64 q.feed,.int .i64 q.date,.string q.guid,.string q.title,.string q.link,.bool true,.bool false,.slice tA nt tc]:=(hb1.alloc _).frm hf2 (g1.row.blk hb1 (by decide));obtain⟨A2,c2,hv2⟩:=g2.row.shape;subst hv2;have run2':∀ ty,(Builtin.append_ #[31,31] ty #[.slice A1 (m+1) c1,.slice (some ⟨u1.heap.size,0,none⟩) 1 1]).run Tryz.prog (u1.alloc (.cells #[.int .i64 8,.int .i64 q.id,.int .i64 0,.int .i64 1,.string ⟨#[]⟩,.string ⟨#[]⟩,.string ⟨#[]⟩] 43))=.ok (.slice A2 (m+1+1) c2) u2:=run2;obtain⟨y20,y21,y22,y23,y24,y25,y26,y27,y28⟩:=blk9 hb2;have hlt2:=hb2.lt;have HG:=h_ g2;have HBk:=h_ hb2;clear run1 hf1 g1 hb1 run2 hf2 g2 hb2 g0 hb0;go_wp2_with (first | (at_builtin;refine wpList_append_run run2' rfl _ _ rfl rfl rfl ?_) | (at_builtin;refine wpList_append_run run1' rfl _ _ rfl rfl rfl ?_) | fail);clear run1' y10 y11 y12 y13 y14 y15 y16 y17 y18 hlt1 run2' y20 y21 y22 y23 y24 y25 y26 y27 y28 hlt2;obtain⟨L0,hL0⟩:∃ L0,(((F0::(((ts.map (·.2)).take k).filter p).flatMap itmEvs)++[⟨7,q.id,i,q.date,q.guid,q.title,q.link⟩])++[⟨8,q.id,0,1,eS,eS,eS⟩])=L0:=⟨_,rfl⟩;rw[hL0] at HG;have HL0:=h_ hL0;clear hL0;obtain⟨mm,hmm⟩:∃ mm,m+1+1=mm:=⟨_,rfl⟩;have hmm2:mm≤20000:=by omega
        simp only[hmm] at HG ⊢;obtain⟨g9,hg9⟩:∃ g9,wr.heap.size=g9:=⟨_,rfl⟩;rw[hg9] at HBk ⊢
        go_loopw [7,73] (fun lw jv wi=>∃ j:Nat,j≤nt∧jv=.int .i64 j∧FedE w2 wi bL lw (mm+j) (L0++(q.tags.take j).map (cTagEv q.id))∧Blk wi g9 91 #[.int .i64 q.id,.int .i64 q.feed,.int .i64 q.date,.string q.guid,.string q.title,.string q.link,.bool true,.bool false,.slice tA nt tc]) (fun _ jv _=>nt - (intOf jv).toNat)
        case atStart=>exact⟨0,by omega,rfl,by have z:=HG.out;rw[List.take_zero,List.map_nil,List.append_nil];exact z,HBk.out⟩
        case round=>
         obtain⟨j,hj,rfl,hg,hb⟩:=hrel;obtain⟨Aj,cj,rfl⟩:=hg.row.shape;have HGj:=h_ hg;have HBj:=h_ hb;clear hg hb
         by_cases hjl:j<nt
         ·have hjl2:j<q.tags.length:=by rw[HNt.out];exact hjl
          obtain⟨bt,offt,hAt,-,-,hct⟩:=(HTg.out.frm HGj.out.row.frm HNb.out).at_ (f:=fun s:ByteArray=>[Value.string s]) (fun _=>rfl) (by decide) (by omega);have ct:=hct j hjl2 0 _ rfl;rw[Nat.mul_one,Nat.add_zero] at ct;have HTk:Hid (q.tags.take (j+1)=q.tags.take j++[q.tags[j]]):=List.take_succ_eq_append_getElem hjl2;obtain⟨tg,htg⟩:∃ tg,q.tags[j]=tg:=⟨_,rfl⟩;rw[htg] at ct HTk;obtain⟨v5,u5,run5,g5,hf5⟩:=HGj.out.push ⟨10,q.id,0,1,tg,eS,eS⟩ (by omega);obtain⟨A5,c5,hv5⟩:=g5.row.shape;subst hv5;simp only[Ev.cells,eS] at run5
          have HX:Hid (FedE w2 u5 bL (.slice A5 (mm+j+1) c5) (mm+(j+1)) (L0++(q.tags.take (j+1)).map (cTagEv q.id))∧Blk u5 g9 91 #[.int .i64 q.id,.int .i64 q.feed,.int .i64 q.date,.string q.guid,.string q.title,.string q.link,.bool true,.bool false,.slice tA nt tc]):=by
           refine⟨?_,(HBj.out.alloc _).frm hf5 (HGj.out.row.blk HBj.out (by decide))⟩;rw[HTk.out,List.map_append,← List.append_assoc,List.map_cons,List.map_nil];exact g5
          obtain⟨z0,z1,z2,z3,z4,z5,z6,z7,z8⟩:=blk9 HBj.out;clear hct htg g5 hf5 hjl2;subst hAt;go_wp2_with (first | (at_builtin;refine wpList_append_run run5 rfl _ _ rfl rfl rfl ?_) | fail);go_roundw
          case rel=>exact⟨j+1,by omega,by go_num,HX.out.1,HX.out.2⟩
          case measure=>simp[intOf];omega
         ·obtain rfl:j=nt:=by omega
          have HX:Hid (FedE w2 wr bL (.slice Aj (mm+j) cj) (mm+j) (F0::(((ts.map (·.2)).take (k+1)).filter p).flatMap itmEvs)):=by
           have z:=HGj.out;rw[List.take_of_length_le (by rw[HNt.out];exact Nat.le_refl _)] at z;have e1:L0++q.tags.map (cTagEv q.id)=(F0::(((ts.map (·.2)).take (k+1)).filter p).flatMap itmEvs):=by rw[HST.out,HPQ.out,← HL0.out,HIf.out];simp[itmEvs,itmEv,HRd.out,HSt.out];exact fun _ _=>rfl
           rw[e1] at z;exact z
          go_wp2;go_roundw
          case rel=>exact⟨k+1,mm+j,by omega,by go_num,HX.out⟩
          case measure=>simp[intOf];omega
    | false=>
      cases hst:q.star with
      | true=>
        have HRd:=h_ hrd;have HSt:=h_ hst;rw[hrd] at x6;rw[hst] at x7;clear hrd hst;have hb0:Blk (wr.alloc (.cells #[.int .i64 q.id,.int .i64 q.feed,.int .i64 q.date,.string q.guid,.string q.title,.string q.link,.bool false,.bool true,.slice tA nt tc] 91)) wr.heap.size 91 #[.int .i64 q.id,.int .i64 q.feed,.int .i64 q.date,.string q.guid,.string q.title,.string q.link,.bool false,.bool true,.slice tA nt tc]:=Blk.new wr _ _;have g0:FedE w2 (wr.alloc (.cells #[.int .i64 q.id,.int .i64 q.feed,.int .i64 q.date,.string q.guid,.string q.title,.string q.link,.bool false,.bool true,.slice tA nt tc] 91)) bL (.slice Al m cl) m (F0::(((ts.map (·.2)).take k).filter p).flatMap itmEvs):=⟨HRw.out.len,HRw.out.row.more ((fR wr).alloc _)⟩;obtain⟨v1,u1,run1,g1,hf1⟩:=g0.push ⟨7,q.id,i,q.date,q.guid,q.title,q.link⟩ (by omega);have hb1:Blk u1 wr.heap.size 91 #[.int .i64 q.id,.int .i64 q.feed,.int .i64 q.date,.string q.guid,.string q.title,.string q.link,.bool false,.bool true,.slice tA nt tc]:=(hb0.alloc _).frm hf1 (g0.row.blk hb0 (by decide));rw[show (wr.alloc (.cells #[.int .i64 q.id,.int .i64 q.feed,.int .i64 q.date,.string q.guid,.string q.title,.string q.link,.bool false,.bool true,.slice tA nt tc] 91)).heap.size=wr.heap.size+1 by simp] at run1;obtain⟨A1,c1,hv1⟩:=g1.row.shape;subst hv1;have run1':∀ ty,(Builtin.append_ #[31,31] ty #[.slice Al m cl,.slice (some ⟨wr.heap.size+1,0,none⟩) 1 1]).run Tryz.prog ((wr.alloc (.cells #[.int .i64 q.id,.int .i64 q.feed,.int .i64 q.date,.string q.guid,.string q.title,.string q.link,.bool false,.bool true,.slice tA nt tc] 91)).alloc (.cells #[.int .i64 7,.int .i64 q.id,.int .i64 i,.int .i64 q.date,.string q.guid,.string q.title,.string q.link] 43))=.ok (.slice A1 (m+1) c1) u1:=run1;obtain⟨y10,y11,y12,y13,y14,y15,y16,y17,y18⟩:=blk9 hb1;have hlt1:=hb1.lt;obtain⟨v2,u2,run2,g2,hf2⟩:=g1.push ⟨9,q.id,0,1,eS,eS,eS⟩ (by omega);have hb2:Blk u2 wr.heap.size 91 #[.int .i64 q.id,.int .i64 q.feed,.int .i64 q.date,.string q.guid,.string q.title,.string q.link,.bool false,.bool true,.slice tA nt tc]:=(hb1.alloc _).frm hf2 (g1.row.blk hb1 (by decide));obtain⟨A2,c2,hv2⟩:=g2.row.shape;subst hv2;have run2':∀ ty,(Builtin.append_ #[31,31] ty #[.slice A1 (m+1) c1,.slice (some ⟨u1.heap.size,0,none⟩) 1 1]).run Tryz.prog (u1.alloc (.cells #[.int .i64 9,.int .i64 q.id,.int .i64 0,.int .i64 1,.string ⟨#[]⟩,.string ⟨#[]⟩,.string ⟨#[]⟩] 43))=.ok (.slice A2 (m+1+1) c2) u2:=run2;obtain⟨y20,y21,y22,y23,y24,y25,y26,y27,y28⟩:=blk9 hb2;have hlt2:=hb2.lt;have HG:=h_ g2;have HBk:=h_ hb2;clear run1 hf1 g1 hb1 run2 hf2 g2 hb2 g0 hb0;go_wp2_with (first | (at_builtin;refine wpList_append_run run2' rfl _ _ rfl rfl rfl ?_) | (at_builtin;refine wpList_append_run run1' rfl _ _ rfl rfl rfl ?_) | fail);clear run1' y10 y11 y12 y13 y14 y15 y16 y17 y18 hlt1 run2' y20 y21 y22 y23 y24 y25 y26 y27 y28 hlt2;obtain⟨L0,hL0⟩:∃ L0,(((F0::(((ts.map (·.2)).take k).filter p).flatMap itmEvs)++[⟨7,q.id,i,q.date,q.guid,q.title,q.link⟩])++[⟨9,q.id,0,1,eS,eS,eS⟩])=L0:=⟨_,rfl⟩;rw[hL0] at HG;have HL0:=h_ hL0;clear hL0;obtain⟨mm,hmm⟩:∃ mm,m+1+1=mm:=⟨_,rfl⟩;have hmm2:mm≤20000:=by omega
        simp only[hmm] at HG ⊢;obtain⟨g9,hg9⟩:∃ g9,wr.heap.size=g9:=⟨_,rfl⟩;rw[hg9] at HBk ⊢
        go_loopw [7,73] (fun lw jv wi=>∃ j:Nat,j≤nt∧jv=.int .i64 j∧FedE w2 wi bL lw (mm+j) (L0++(q.tags.take j).map (cTagEv q.id))∧Blk wi g9 91 #[.int .i64 q.id,.int .i64 q.feed,.int .i64 q.date,.string q.guid,.string q.title,.string q.link,.bool false,.bool true,.slice tA nt tc]) (fun _ jv _=>nt - (intOf jv).toNat)
        case atStart=>exact⟨0,by omega,rfl,by have z:=HG.out;rw[List.take_zero,List.map_nil,List.append_nil];exact z,HBk.out⟩
        case round=>
         obtain⟨j,hj,rfl,hg,hb⟩:=hrel;obtain⟨Aj,cj,rfl⟩:=hg.row.shape;have HGj:=h_ hg;have HBj:=h_ hb;clear hg hb
         by_cases hjl:j<nt
         ·have hjl2:j<q.tags.length:=by rw[HNt.out];exact hjl
          obtain⟨bt,offt,hAt,-,-,hct⟩:=(HTg.out.frm HGj.out.row.frm HNb.out).at_ (f:=fun s:ByteArray=>[Value.string s]) (fun _=>rfl) (by decide) (by omega);have ct:=hct j hjl2 0 _ rfl;rw[Nat.mul_one,Nat.add_zero] at ct;have HTk:Hid (q.tags.take (j+1)=q.tags.take j++[q.tags[j]]):=List.take_succ_eq_append_getElem hjl2;obtain⟨tg,htg⟩:∃ tg,q.tags[j]=tg:=⟨_,rfl⟩;rw[htg] at ct HTk;obtain⟨v5,u5,run5,g5,hf5⟩:=HGj.out.push ⟨10,q.id,0,1,tg,eS,eS⟩ (by omega);obtain⟨A5,c5,hv5⟩:=g5.row.shape;subst hv5;simp only[Ev.cells,eS] at run5
          have HX:Hid (FedE w2 u5 bL (.slice A5 (mm+j+1) c5) (mm+(j+1)) (L0++(q.tags.take (j+1)).map (cTagEv q.id))∧Blk u5 g9 91 #[.int .i64 q.id,.int .i64 q.feed,.int .i64 q.date,.string q.guid,.string q.title,.string q.link,.bool false,.bool true,.slice tA nt tc]):=by
           refine⟨?_,(HBj.out.alloc _).frm hf5 (HGj.out.row.blk HBj.out (by decide))⟩;rw[HTk.out,List.map_append,← List.append_assoc,List.map_cons,List.map_nil];exact g5
          obtain⟨z0,z1,z2,z3,z4,z5,z6,z7,z8⟩:=blk9 HBj.out;clear hct htg g5 hf5 hjl2;subst hAt;go_wp2_with (first | (at_builtin;refine wpList_append_run run5 rfl _ _ rfl rfl rfl ?_) | fail);go_roundw
          case rel=>exact⟨j+1,by omega,by go_num,HX.out.1,HX.out.2⟩
          case measure=>simp[intOf];omega
         ·obtain rfl:j=nt:=by omega
          have HX:Hid (FedE w2 wr bL (.slice Aj (mm+j) cj) (mm+j) (F0::(((ts.map (·.2)).take (k+1)).filter p).flatMap itmEvs)):=by
           have z:=HGj.out;rw[List.take_of_length_le (by rw[HNt.out];exact Nat.le_refl _)] at z;have e1:L0++q.tags.map (cTagEv q.id)=(F0::(((ts.map (·.2)).take (k+1)).filter p).flatMap itmEvs):=by rw[HST.out,HPQ.out,← HL0.out,HIf.out];simp[itmEvs,itmEv,HRd.out,HSt.out];exact fun _ _=>rfl
           rw[e1] at z;exact z
          go_wp2;go_roundw
          case rel=>exact⟨k+1,mm+j,by omega,by go_num,HX.out⟩
          case measure=>simp[intOf];omega
      | false=>
        have HRd:=h_ hrd;have HSt:=h_ hst;rw[hrd] at x6;rw[hst] at x7;clear hrd hst;have hb0:Blk (wr.alloc (.cells #[.int .i64 q.id,.int .i64 q.feed,.int .i64 q.date,.string q.guid,.string q.title,.string q.link,.bool false,.bool false,.slice tA nt tc] 91)) wr.heap.size 91 #[.int .i64 q.id,.int .i64 q.feed,.int .i64 q.date,.string q.guid,.string q.title,.string q.link,.bool false,.bool false,.slice tA nt tc]:=Blk.new wr _ _;have g0:FedE w2 (wr.alloc (.cells #[.int .i64 q.id,.int .i64 q.feed,.int .i64 q.date,.string q.guid,.string q.title,.string q.link,.bool false,.bool false,.slice tA nt tc] 91)) bL (.slice Al m cl) m (F0::(((ts.map (·.2)).take k).filter p).flatMap itmEvs):=⟨HRw.out.len,HRw.out.row.more ((fR wr).alloc _)⟩;obtain⟨v1,u1,run1,g1,hf1⟩:=g0.push ⟨7,q.id,i,q.date,q.guid,q.title,q.link⟩ (by omega);have hb1:Blk u1 wr.heap.size 91 #[.int .i64 q.id,.int .i64 q.feed,.int .i64 q.date,.string q.guid,.string q.title,.string q.link,.bool false,.bool false,.slice tA nt tc]:=(hb0.alloc _).frm hf1 (g0.row.blk hb0 (by decide));rw[show (wr.alloc (.cells #[.int .i64 q.id,.int .i64 q.feed,.int .i64 q.date,.string q.guid,.string q.title,.string q.link,.bool false,.bool false,.slice tA nt tc] 91)).heap.size=wr.heap.size+1 by simp] at run1;obtain⟨A1,c1,hv1⟩:=g1.row.shape;subst hv1;have run1':∀ ty,(Builtin.append_ #[31,31] ty #[.slice Al m cl,.slice (some ⟨wr.heap.size+1,0,none⟩) 1 1]).run Tryz.prog ((wr.alloc (.cells #[.int .i64 q.id,.int .i64 q.feed,.int .i64 q.date,.string q.guid,.string q.title,.string q.link,.bool false,.bool false,.slice tA nt tc] 91)).alloc (.cells #[.int .i64 7,.int .i64 q.id,.int .i64 i,.int .i64 q.date,.string q.guid,.string q.title,.string q.link] 43))=.ok (.slice A1 (m+1) c1) u1:=run1;obtain⟨y10,y11,y12,y13,y14,y15,y16,y17,y18⟩:=blk9 hb1;have hlt1:=hb1.lt;have HG:=h_ g1;have HBk:=h_ hb1;clear run1 hf1 g1 hb1 g0 hb0;go_wp2_with (first | (at_builtin;refine wpList_append_run run1' rfl _ _ rfl rfl rfl ?_) | fail);clear run1' y10 y11 y12 y13 y14 y15 y16 y17 y18 hlt1;obtain⟨L0,hL0⟩:∃ L0,((F0::(((ts.map (·.2)).take k).filter p).flatMap itmEvs)++[⟨7,q.id,i,q.date,q.guid,q.title,q.link⟩])=L0:=⟨_,rfl⟩;rw[hL0] at HG;have HL0:=h_ hL0;clear hL0;obtain⟨mm,hmm⟩:∃ mm,m+1=mm:=⟨_,rfl⟩;have hmm2:mm≤20000:=by omega
        rw[hmm] at HG ⊢;obtain⟨g9,hg9⟩:∃ g9,wr.heap.size=g9:=⟨_,rfl⟩;rw[hg9] at HBk ⊢
        go_loopw [7,73] (fun lw jv wi=>∃ j:Nat,j≤nt∧jv=.int .i64 j∧FedE w2 wi bL lw (mm+j) (L0++(q.tags.take j).map (cTagEv q.id))∧Blk wi g9 91 #[.int .i64 q.id,.int .i64 q.feed,.int .i64 q.date,.string q.guid,.string q.title,.string q.link,.bool false,.bool false,.slice tA nt tc]) (fun _ jv _=>nt - (intOf jv).toNat)
        case atStart=>exact⟨0,by omega,rfl,by have z:=HG.out;rw[List.take_zero,List.map_nil,List.append_nil];exact z,HBk.out⟩
        case round=>
         obtain⟨j,hj,rfl,hg,hb⟩:=hrel;obtain⟨Aj,cj,rfl⟩:=hg.row.shape;have HGj:=h_ hg;have HBj:=h_ hb;clear hg hb
         by_cases hjl:j<nt
         ·have hjl2:j<q.tags.length:=by rw[HNt.out];exact hjl
          obtain⟨bt,offt,hAt,-,-,hct⟩:=(HTg.out.frm HGj.out.row.frm HNb.out).at_ (f:=fun s:ByteArray=>[Value.string s]) (fun _=>rfl) (by decide) (by omega);have ct:=hct j hjl2 0 _ rfl;rw[Nat.mul_one,Nat.add_zero] at ct;have HTk:Hid (q.tags.take (j+1)=q.tags.take j++[q.tags[j]]):=List.take_succ_eq_append_getElem hjl2;obtain⟨tg,htg⟩:∃ tg,q.tags[j]=tg:=⟨_,rfl⟩;rw[htg] at ct HTk;obtain⟨v5,u5,run5,g5,hf5⟩:=HGj.out.push ⟨10,q.id,0,1,tg,eS,eS⟩ (by omega);obtain⟨A5,c5,hv5⟩:=g5.row.shape;subst hv5;simp only[Ev.cells,eS] at run5
          have HX:Hid (FedE w2 u5 bL (.slice A5 (mm+j+1) c5) (mm+(j+1)) (L0++(q.tags.take (j+1)).map (cTagEv q.id))∧Blk u5 g9 91 #[.int .i64 q.id,.int .i64 q.feed,.int .i64 q.date,.string q.guid,.string q.title,.string q.link,.bool false,.bool false,.slice tA nt tc]):=by
           refine⟨?_,(HBj.out.alloc _).frm hf5 (HGj.out.row.blk HBj.out (by decide))⟩;rw[HTk.out,List.map_append,← List.append_assoc,List.map_cons,List.map_nil];exact g5
          obtain⟨z0,z1,z2,z3,z4,z5,z6,z7,z8⟩:=blk9 HBj.out;clear hct htg g5 hf5 hjl2;subst hAt;go_wp2_with (first | (at_builtin;refine wpList_append_run run5 rfl _ _ rfl rfl rfl ?_) | fail);go_roundw
          case rel=>exact⟨j+1,by omega,by go_num,HX.out.1,HX.out.2⟩
          case measure=>simp[intOf];omega
         ·obtain rfl:j=nt:=by omega
          have HX:Hid (FedE w2 wr bL (.slice Aj (mm+j) cj) (mm+j) (F0::(((ts.map (·.2)).take (k+1)).filter p).flatMap itmEvs)):=by
           have z:=HGj.out;rw[List.take_of_length_le (by rw[HNt.out];exact Nat.le_refl _)] at z;have e1:L0++q.tags.map (cTagEv q.id)=(F0::(((ts.map (·.2)).take (k+1)).filter p).flatMap itmEvs):=by rw[HST.out,HPQ.out,← HL0.out,HIf.out];simp[itmEvs,itmEv,HRd.out,HSt.out];exact fun _ _=>rfl
           rw[e1] at z;exact z
          go_wp2;go_roundw
          case rel=>exact⟨k+1,mm+j,by omega,by go_num,HX.out⟩
          case measure=>simp[intOf];omega
   ·rw[decide_eq_false hfe] at hpq
    have HPQ:=h_ hpq;have hne:(q.feed !=i)=true:=bne_iff_ne.2 hfe
    have HX:Hid (FedE w2 (wr.alloc (.cells #[.int .i64 q.id,.int .i64 q.feed,.int .i64 q.date,.string q.guid,.string q.title,.string q.link,.bool q.read,.bool q.star,.slice tA q.tags.length tc] 91)) bL (.slice Al m cl) m (F0::(((ts.map (·.2)).take (k+1)).filter p).flatMap itmEvs)):=by
     have z:FedE w2 (wr.alloc (.cells #[.int .i64 q.id,.int .i64 q.feed,.int .i64 q.date,.string q.guid,.string q.title,.string q.link,.bool q.read,.bool q.star,.slice tA q.tags.length tc] 91)) bL (.slice Al m cl) m (F0::(((ts.map (·.2)).take k).filter p).flatMap itmEvs):=⟨HRw.out.len,HRw.out.row.more ((fR wr).alloc _)⟩;unfold Hid;rw[HST.out,HPQ.out]
     simpa using z
    clear hpq hfe;go_wp2;go_roundw
    case rel=>exact⟨k+1,m,by omega,by go_num,HX.out⟩
    case measure=>simp[intOf];omega
  ·obtain rfl:k=n:=by omega
   have HE:Hid ((F0::(((ts.map (·.2)).take k).filter p).flatMap itmEvs)=LF):=by
    unfold Hid;rw[List.take_of_length_le (by rw[List.length_map,HTL.out];exact Nat.le_refl _),HSame.out,HLF.out]
   rw[HE.out] at HRw;go_wp2;go_ret;refine⟨(Al,cl),by rw[HRw.out.len];rfl,?_,(((Z1.out.alloc _).alloc _).trans Y2.out).next HF.out fun k e=>.inr (by rw[e];exact HSz.out.2)⟩;obtain⟨A',c',e,e1,e2,e3,-⟩:=own_shape HRw.out.row.own;injection e with ea eb ec;subst ea;subst ec;have hr:=Rd.of_own HRw.out.row.own;rw[HRw.out.len];exact⟨hr.mono fun j hj=>Nat.le_trans HSz.out.2 (HRw.out.row.own.lt j hj).1,e1,e2,e3⟩
end Go.Proofs.YtdihmpakglakdaaGreat
