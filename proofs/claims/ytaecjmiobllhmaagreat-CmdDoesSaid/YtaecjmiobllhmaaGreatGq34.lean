/- Words. -/
import Derived.Test.YtaecjmiobllhmaaGreatGq33
set_option linter.unusedVariables false
set_option linter.unusedSimpArgs false
set_option maxRecDepth 100000
set_option maxHeartbeats 16000000
namespace Go.Proofs.YtaecjmiobllhmaaGreat
open Go.Value renaming int→I,string→V,slice→U,pointer→O
open Go.IntKind renaming i64→J
open Tryz renaming prog→pQ
open Go.RowKit Go.Lib
variable {g:Nat}{x:St}{w:World}{M:Ms}
section
theorem GY{P:Program}{t e:TypeId}{s bytes:Nat}(E:nc P t e s bytes){w1:World}{B:Nat}{v:Value}{n:Nat}{xs:List Value}(h:w1.ownsRow B e s v n xs)(hB:B≤w1.heap.size)(ys:List Value)(hl:ys.length=s)(h1:∀u∈ys,u.oneCell'=true)(hn:n+1≤maxLen)(hb:(n+1) * bytes≤140737488355328):
  ∃v' w2,(∀ty,(Builtin.append_ #[t,t] ty #[v,U (some ⟨w1.heap.size,0,none⟩) 1 1]).run P (w1.alloc (.cells ys.toArray e))=.ok v' w2)∧w2.ownsRow B e s v' (n+1) (xs++ys)∧aa (λk=>v.ownBlock=some k) (w1.alloc (.cells ys.toArray e)) w2∧(v'.ownBlock=v.ownBlock∨v'.ownBlock=some (w1.heap.size+1)):=by
 obtain⟨z,hi,hzs⟩:=E.i;obtain⟨i0,ux,hz0,hz1,hz2⟩:=info_parts hi;have hf:aa ac w1 (w1.alloc (.cells ys.toArray e)):=(fR w1).alloc _
 obtain⟨v1,w2,hrun,hown,hg,hat⟩:=lY (P:=P) (w1.alloc (.cells ys.toArray e)) B t e i0 z s bytes E.t ux hz0 hz1 hz2 hzs E.s v n xs (mH h hf λ_ _=>id) _ (some ⟨w1.heap.size,0,none⟩) 1 1 ys
  (Rd.of_obj (heap_alloc_new w1 (.cells ys.toArray e)) 1 (by simp[hl])) h1 hn hb (by simp;omega)
 exact⟨v1,w2,hrun,hown,(aa.refl _ _).grown hg λk hk=>.inl hk,by simpa using hat⟩
structure wP(w2 wr:World)(bL:Nat)(v:Value)(n:Nat)(xs:List Value):Prop where
 own:wr.ownsRow bL 42 7 v n xs
 lt:bL<w2.heap.size
 at_:∀k,v.ownBlock=some k→k=bL∨w2.heap.size≤k
 frm:aa (·=bL) w2 wr
section
variable {w2 wr w':World} {bL n:Nat} {v:Value} {xs:List Value}
theorem wP.more(h:wP w2 wr bL v n xs)(hf:aa ac wr w'):wP w2 w' bL v n xs:=⟨mH h.own hf λ_ _=>id,h.lt,h.at_,h.frm.trans (hf.mono λ_ e=>e.elim)⟩
theorem wP.push(h:wP w2 wr bL v n xs)(ys:List Value)(hl:ys.length=7)(h1:∀u∈ys,u.oneCell'=true)(hn:n≤100000):
  ∃v' w3,(∀ty,(Builtin.append_ #[30,30] ty #[v,U (some ⟨wr.heap.size,0,none⟩) 1 1]).run pQ (wr.alloc (.cells ys.toArray 42))=.ok v' w3)∧wP w2 w3 bL v' (n+1) (xs++ys)∧aa (λk=>v.ownBlock=some k) (wr.alloc (.cells ys.toArray 42)) w3:=by
 have hsz:=h.frm.size;have hlt:=h.lt;obtain⟨v',w3,hrun,hown,hf,hat⟩:=GY ua h.own (by omega) ys hl h1 (by unfold maxLen;omega) (by omega);refine⟨v',w3,hrun,⟨hown,h.lt,λk hk=>?_,(h.frm.trans (((fR wr).alloc _).mono λ_ e=>e.elim)).next hf λk hk=>(h.at_ k hk).elim .inl .inr⟩,hf⟩;rcases hat with e|e
 ·exact h.at_ k (e ▸ hk)
 ·rw[e] at hk
  injection hk with hk
  right
  omega
theorem wP.shape(h:wP w2 wr bL v n xs):∃A c,v=U A n c:=by
 obtain⟨A,c,e,-⟩:=nw h.own;exact⟨A,c,e⟩
theorem wP.blk(h:wP w2 wr bL v n xs){t:TypeId}{cs:Array Value}(hg:ai wr g t cs)(ht:42≠t):v.ownBlock≠some g:=mi h.own hg ht
end
structure N4(w2 wr:World)(bL:Nat)(v:Value)(n:Nat)(l:List Ev):Prop where
 len:l.length=n
 row:wP w2 wr bL v n (l.flatMap Ev.cells)
theorem N4.push{w2 wr:World}{bL n:Nat}{v:Value}{l:List Ev}(h:N4 w2 wr bL v n l)(e:Ev)(hn:n≤100000):
  ∃v' w3,(∀ty,(Builtin.append_ #[30,30] ty #[v,U (some ⟨wr.heap.size,0,none⟩) 1 1]).run pQ (wr.alloc (.cells e.cells.toArray 42))=.ok v' w3)∧N4 w2 w3 bL v' (n+1) (l++[e])∧aa (λk=>v.ownBlock=some k) (wr.alloc (.cells e.cells.toArray 42)) w3:=by
 obtain⟨v',w3,h1,h2,h3⟩:=h.row.push e.cells rfl (by intro u hu;simp[Ev.cells] at hu;rcases hu with rfl|rfl|rfl|rfl|rfl|rfl|rfl<;>rfl) hn;refine⟨v',w3,h1,⟨by rw[List.length_append,h.len];rfl,?_⟩,h3⟩;rw[List.flatMap_append]
 simpa using h2
theorem BX{t:aJ}(h:t.tags.length≤8):(yZ t).length≤11:=by
 unfold yZ;simp only[List.length_cons,List.length_append,List.length_map];split<;>split<;>simp<;>omega
theorem BZ:∀(l:List aJ),(∀t∈l,t.tags.length≤8)→(l.flatMap yZ).length≤l.length * 11
 | [],_=>by simp
 | t::l,h=>by
   have h1:=BX (h t (by simp));have h2:=BZ l λy hy=>h y (by simp[hy])
   rw[List.flatMap_cons,List.length_append,List.length_cons];omega
end
def qR(x:St)(c:Cm):List Ev×Bool:=if (aB ah aC x c).2=0∧c.kind≠14 then ((aB ah aC x c).1.flatMap (dJ x),true) else ([],false)
theorem B0(h:di x)(e:Ev):(dJ x e).length≤12000:=by
 have h1:=BZ (x.itms.filter λt=>decide (t.feed=e.a)) λt ht=>(h.iE t (List.mem_filter.1 ht).1).2.2.2.1
 have h2:=List.length_filter_le (λt:aJ=>decide (t.feed=e.a)) x.itms;have h3:=h.iL;unfold dJ
 repeat' split
 all_goals simp only[List.length_cons,List.length_nil]
 all_goals omega
theorem yu(h:di x):∀(l:List Ev),(l.flatMap (dJ x)).length≤l.length * 12000
 | []=>by simp
 | e::l=>by
   have h1:=B0 h e;have h2:=yu h l;rw[List.flatMap_cons,List.length_append,List.length_cons];omega
theorem LI(l:List Ev):∀u∈l.flatMap Ev.cells,u.oneCell'=true:=λu hu=>by
 obtain⟨e,-,he⟩:=List.mem_flatMap.1 hu;simp[Ev.cells] at he;rcases he with rfl|rfl|rfl|rfl|rfl|rfl|rfl<;>rfl
theorem Jq(h:aw w g M x)(hx:x.itms=[]){i:Int}(hi:bj i):
  Calls pQ 133 #[O (some ⟨g,0,none⟩),I J i] w λe w'=>∃v:Sl,e=.returned (U v.1 (dJ x ⟨4,i,0,0,eS,eS,eS⟩).length v.2)∧aN w' (λk=>w.heap.size≤k) 7 v (dJ x ⟨4,i,0,0,eS,eS,eS⟩).length ((dJ x ⟨4,i,0,0,eS,eS,eS⟩).flatMap Ev.cells)∧aa ac w w':=by
 obtain⟨q0,Rw⟩:∃q0,ar x i=q0:=⟨_,rfl⟩
 have hback:dJ x ⟨4,i,0,0,eS,eS,eS⟩=[⟨3,i,q0.inn,0,q0.url,q0.title,eS⟩]:=by
  rw[←Rw];unfold dJ ar;simp only[if_neg (show ¬(4:Int)=1 by decide),if_neg (show ¬(4:Int)=2 by decide),if_neg (show ¬(4:Int)=3 by decide),if_true,hx]
  cases eV aP.id i x.fees<;>rfl
 rw[hback]
 have KF:Hid (Calls pQ 48 #[O (some ⟨g,0,none⟩),I J i] w λe w'=>e=.returned (.tuple #[.agg #[I J q0.id,I J q0.inn,V q0.url,V q0.title],.bool (aS aP.id i x.fees)])∧aa ac w w'):=by
  have:=uf h hi;rw[Rw] at this;exact this
 generalize aS aP.id i x.fees=ib at *;have KT:Hid (∀W,aa ac w W→Calls pQ 23 #[O (some ⟨g,0,none⟩)] W λe w'=>∃Ao co Ae ce Ai ci As cs,∃ts:List (Sl×aJ),e=.returned (.agg #[I J x.clock,U Ao x.fols.length co,U Ae x.fees.length ce,U Ai x.itms.length ci,U As x.seas.length cs,I J x.tFol,I J x.tFee,I J x.tItm,I J x.tSea])∧aM w' (λk=>W.heap.size≤k) (Ao,co) (Ae,ce) (Ai,ci) (As,cs) ts x∧aa ac W w'):=λW hW=>Fc (h.nix hW)
 rw[show x.itms.length=0 by rw[hx];rfl] at KT;have Na:=Fd
 have pq:Hid (∀W W',aa ac w W→aa ac (W.alloc (.cells #[I J 3,I J i,I J q0.inn,I J 0,V q0.url,V q0.title,V ⟨#[]⟩] 42)) W'→aN W' (λk=>w.heap.size≤k) 7 (some ⟨W.heap.size,0,none⟩,1) 1 ([⟨3,i,q0.inn,0,q0.url,q0.title,eS⟩].flatMap Ev.cells)):=λW W' hW Ql=>by
  have q:=(aO.lit (s:=7) 42 hW 1 (Ev.cells ⟨3,i,q0.inn,0,q0.url,q0.title,eS⟩) rfl (by unfold maxLen;omega)).sl;rw[List.flatMap_singleton];exact q.nix Ql
 clear h Rw hback hx;go_enter Tryz.func133,Tryz.ntmps133
 go_wp2_with (first
  | (go_at_call 23;have _q:=Z1;refine(KT.out _ ((Z1.out.alloc _).alloc _)).mono ?_;rintro e w2 ⟨Ao,co,Ae,ce,Ai,ci,As,cs,ts,rfl,hd,hf⟩;have HD:=h_ hd.itms;have uG:=h_ hd.same;have Y2:=h_ hf;clear hd hf)
  | (go_at_call 48;refine KF.out.mono ?_;rintro e w1 ⟨rfl,hf⟩;have Z1:=h_ hf;clear hf)
  | fail)
 obtain⟨bL,TF⟩:∃bL,w1.heap.size+1=bL:=⟨_,rfl⟩
 have gI:Hid (aN w2 (λk=>w.heap.size≤k) 7 (some ⟨bL,0,none⟩,1) 1 ([⟨3,i,q0.inn,0,q0.url,q0.title,eS⟩].flatMap Ev.cells)):=by
  have q:=pq.out (w1.alloc (.cells #[I J q0.id,I J q0.inn,V q0.url,V q0.title] 64)) w2 (Z1.out.alloc _) Y2.out;rw[show (w1.alloc (.cells #[I J q0.id,I J q0.inn,V q0.url,V q0.title] 64)).heap.size=w1.heap.size+1 by simp,TF] at q;exact q
 have Z2:Hid (aa ac w w2):=((Z1.out.alloc _).alloc _).trans Y2.out;rw[TF];clear TF pq
 go_loopw [7,31] (λlv kv wr=>lv=U (some ⟨bL,0,none⟩) 1 1∧kv=I J 0∧wr=w2) (λ_ _ _=>0)
 case atStart=>exact⟨rfl,rfl,rfl⟩
 case round=>
  obtain⟨rfl,rfl,rfl⟩:=hrel;go_wp2;go_ret;exact⟨(some ⟨bL,0,none⟩,1),rfl,gI.out,Z2.out⟩
theorem D7(h:aw w g M x)(hx:x.itms=[])(a b n:Int)(s t u:ByteArray)(ha:bj a):
  Calls pQ 82 #[O (some ⟨g,0,none⟩),.agg #[I J 4,I J a,I J b,I J n,V s,V t,V u]] w (λe w'=>∃v:Sl,e=.returned (U v.1 (dJ x ⟨4,a,b,n,s,t,u⟩).length v.2)∧aN w' (λk=>w.heap.size≤k) 7 v (dJ x ⟨4,a,b,n,s,t,u⟩).length ((dJ x ⟨4,a,b,n,s,t,u⟩).flatMap Ev.cells)∧aa ac w w'):=by
 have HR:Hid (dJ x ⟨4,a,b,n,s,t,u⟩=dJ x ⟨4,a,0,0,eS,eS,eS⟩):=rfl;rw[HR.out];have K:=h_ (Jq (h.nix ((fR w).alloc (.cells #[I J 4,I J a,I J b,I J n,V s,V t,V u] 42))) hx ha);clear h HR ha hx;generalize dJ x ⟨4,a,0,0,eS,eS,eS⟩=l at *;go_enter Tryz.func82,Tryz.ntmps82;go_wp2_with (first|(go_at_call 133;refine K.out.mono ?_;rintro e w2 ⟨v,rfl,hs,hf⟩;have Z2:Hid (aa ac w w2):=((fR w).alloc _).trans hf;have kL:=h_ (hs.mono (G':=λk=>w.heap.size≤k) λk hk=>by(have hk2:=hk;simp at hk2;omega));clear hs hf)|fail);go_ret;exact⟨v,rfl,kL.out,Z2.out⟩
theorem N5(h:aw w g M x)(hx:x.itms=[])(e:Ev)(he:e.kind=4∧bj e.a):Calls pQ 82 #[O (some ⟨g,0,none⟩),.agg #[I J e.kind,I J e.a,I J e.b,I J e.n,V e.s,V e.t,V e.u]] w (λr w'=>∃v:Sl,r=.returned (U v.1 (dJ x e).length v.2)∧aN w' (λk=>w.heap.size≤k) 7 v (dJ x e).length ((dJ x e).flatMap Ev.cells)∧aa ac w w'):=by
 obtain⟨k,a,b,n,s,t,u⟩:=e;obtain⟨hk,ha⟩:=he;dsimp only at hk ha ⊢;subst hk;exact D7 h hx a b n s t u ha
theorem yv(h:aw w g M x)(hx:x.itms=[])(k a b n:Int)(s t:ByteArray)(hc:mE ⟨k,a,b,n,s,t⟩)(J5:k≠14→∀e∈(aB ah aC x ⟨k,a,b,n,s,t⟩).1,e.kind=4∧bj e.a):
  Calls pQ 39 #[O (some ⟨g,0,none⟩),.agg #[I J k,I J a,I J b,I J n,V s,V t]] w (λe w'=>∃v:Sl,e=.returned (.tuple #[U v.1 (qR x ⟨k,a,b,n,s,t⟩).1.length v.2,.bool (qR x ⟨k,a,b,n,s,t⟩).2])∧aN w' (λk=>w.heap.size≤k) 7 v (qR x ⟨k,a,b,n,s,t⟩).1.length ((qR x ⟨k,a,b,n,s,t⟩).1.flatMap Ev.cells)∧aa ac w w'):=by
 have KP:Hid (∀W,aa ac w W→Calls pQ 20 #[O (some ⟨g,0,none⟩),.agg #[I J k,I J a,I J b,I J n,V s,V t]] W (bm W (aB ah aC x ⟨k,a,b,n,s,t⟩))):=λW hW=>mQ (h.nix hW) _ _ _ _ _ _ hc
 have My:Hid (k≠14→∀e∈(aB ah aC x ⟨k,a,b,n,s,t⟩).1,e.kind=4∧bj e.a):=J5;have HNi:Hid (x.itms=[]):=hx;clear J5 hx;have hlen:=wO h.ok ⟨k,a,b,n,s,t⟩;obtain⟨r,hr⟩:∃r,aB ah aC x ⟨k,a,b,n,s,t⟩=r:=⟨_,rfl⟩;have HU:Hid (qR x ⟨k,a,b,n,s,t⟩=if r.2=0∧k≠14 then (r.1.flatMap (dJ x),true) else ([],false)):=by unfold Hid qR;rw[hr]
 rw[hr] at KP My hlen;clear hr hc;generalize qR x ⟨k,a,b,n,s,t⟩=ur at *;obtain⟨l,er⟩:=r;dsimp only at KP My hlen HU ⊢;obtain⟨m,lG⟩:∃m,l.length=m:=⟨_,rfl⟩;have HL:=h_ lG;have HS:=h_ h;have Qk:Hid (∀W,aa ac w W→Calls pQ 20 #[O (some ⟨g,0,none⟩),.agg #[I J k,I J a,I J b,I J n,V s,V t]] W λe w'=>∃A c,e=.returned (.tuple #[U A m c,I J er])∧aN w' (λk=>W.heap.size≤k) 7 (A,c) l.length (l.flatMap Ev.cells)∧aa ac W w'):=λW hW=>(KP.out W hW).mono λe w' ⟨⟨A,c⟩,h1,h2,h3⟩=>⟨A,c,by rw[←lG];exact h1,h2,h3⟩
 have dw:Hid (∀W,aa ac (w.alloc (.cells #[I J k,I J a,I J b,I J n,V s,V t] 49)) W→ai W w.heap.size 49 #[I J k,I J a,I J b,I J n,V s,V t]):=λW hW=>(ai.new w 49 #[I J k,I J a,I J b,I J n,V s,V t]).frm hW id
 rw[lG] at hlen;clear h lG KP
 by_cases h0:er=0
 ·by_cases CA:k=14
  ·have HR:Hid (ur=([],false)):=by unfold Hid;rw[HU.out,if_neg (λh=>h.2 CA)]
   rw[HR.out];have e0:(er !=0)=false:=by rw[h0];rfl
   have XQ:(k==14)=true:=beq_iff_eq.2 CA;clear h0 CA HU My;go_enter Tryz.func39,Tryz.ntmps39;go_wp2_with (first|(go_at_call 20;refine(Qk.out _ ((fR w).alloc _)).mono ?_;rintro e w1 ⟨Av,cv,rfl,hv,hf⟩;have Z1:Hid (aa ac w w1):=((fR w).alloc _).trans hf;obtain⟨y0,y1,y2,y3,y4,y5⟩:=bn (dw.out _ hf);clear hv hf)|fail)
   go_ret2
   exact⟨(none,0),rfl,aN.none_ _ _ _,Z1.out⟩
  ·have HR:Hid (ur=(l.flatMap (dJ x),true)):=by unfold Hid;rw[HU.out,if_pos ⟨h0,CA⟩]
   rw[HR.out];have e0:(er !=0)=false:=by rw[h0];rfl
   have XQ:(k==14)=false:=beq_eq_false_iff_ne.2 CA;have kh:Hid (∀e∈l,e.kind=4∧bj e.a):=My.out CA
   have XR:Hid (∀k,((l.take k).flatMap (dJ x)).length≤m * 12000):=λk=>by
    have h1:=yu HS.out.ok (l.take k);rw[List.length_take] at h1;have h2:=HL.out;have h3:min k l.length * 12000≤m * 12000:=Nat.mul_le_mul_right _ (by omega);omega
   clear h0 CA HU My;go_enter Tryz.func39,Tryz.ntmps39;go_wp2_with (first|(go_at_call 20;refine(Qk.out _ ((fR w).alloc _)).mono ?_;rintro e w1 ⟨Av,cv,rfl,hv,hf⟩;have Z1:Hid (aa ac w w1):=((fR w).alloc _).trans hf;have HV:=h_ hv;obtain⟨y0,y1,y2,y3,y4,y5⟩:=bn (dw.out _ hf);clear hv hf)|fail)
   go_loopw [8,26] (λov kv wr=>∃k:Nat,k≤m∧kv=I J k∧aO 42 7 w1 wr ov ((l.take k).flatMap (dJ x)).length (((l.take k).flatMap (dJ x)).flatMap Ev.cells)) (λ_ kv _=>m-(intOf kv).toNat)
   case atStart=>exact⟨0,by omega,rfl,aO.nil_ _ _ (aa.refl _ _)⟩
   case round=>
    obtain⟨k,hk,rfl,hrow⟩:=hrel;obtain⟨Ar,cr,rfl,-,-,-,-⟩:=hrow.shape;have pq:=h_ hrow;clear hrow
    by_cases hlt:k<m
    ·have dX:k<l.length:=by rw[HL.out];exact hlt
     obtain⟨b,off,hA,-,hbl,hcell⟩:=(HV.out.nix pq.out.frm).at_ Ev.clen (by decide) (by omega);dsimp only at hA;subst hA;have h7:=Bz (w:=wr) (b:=b) (off:=off+k * 7) (e:=l[k]) (hcell k dX);have J5:=kh.out l[k] (List.getElem_mem dX)
     have E7:Hid ((l.take (k+1)).flatMap (dJ x)=((l.take k).flatMap (dJ x))++dJ x l[k]):=by
      unfold Hid;rw[List.take_succ_eq_append_getElem dX,List.flatMap_append];simp
     obtain⟨ev,hev⟩:∃ev,l[k]=ev:=⟨_,rfl⟩;rw[hev] at h7 J5 E7;obtain⟨x0,x1,x2,x3,x4,x5,x6⟩:=h7;have JZ:=XR.out k;have hl2:=B0 HS.out.ok ev;have KB:=h_ (N5 (HS.out.nix (Z1.out.trans (pq.out.frm.alloc (.cells #[I J ev.kind,I J ev.a,I J ev.b,I J ev.n,V ev.s,V ev.t,V ev.u] 42)))) HNi.out ev J5)
     have TG:Hid (∀W (v:Sl),aa ac wr W→aN W (λk=>(wr.alloc (.cells #[I J ev.kind,I J ev.a,I J ev.b,I J ev.n,V ev.s,V ev.t,V ev.u] 42)).heap.size≤k) 7 v (dJ x ev).length ((dJ x ev).flatMap Ev.cells)→∃A' c' w',(∀ty,(Builtin.append_ #[30,30] ty #[U Ar ((l.take k).flatMap (dJ x)).length cr,U v.1 (dJ x ev).length v.2]).run pQ W=.ok (U A' (((l.take k).flatMap (dJ x)).length+(dJ x ev).length) c') w')∧aO 42 7 w1 w' (U A' (((l.take k).flatMap (dJ x)).length+(dJ x ev).length) c') ((l.take (k+1)).flatMap (dJ x)).length (((l.take (k+1)).flatMap (dJ x)).flatMap Ev.cells)):=λW v hW hv=>by
      obtain⟨v',w',h1,h2,-,-⟩:=(pq.out.more hW).app ua v.2 hv.rd (LI _) (by unfold maxLen;omega) (by omega);obtain⟨A',c',rfl,-⟩:=h2.shape;refine⟨A',c',w',h1,?_⟩;rw[E7.out,List.length_append,List.flatMap_append];exact h2
     clear hcell hev J5 JZ hl2;generalize ((l.take k).flatMap (dJ x)).length=q1 at *;generalize (dJ x ev).length=q2 at *;go_wp2_with (first|(go_at_call 82;refine KB.out.mono ?_;rintro e w3 ⟨v,rfl,hs,hf⟩;obtain⟨A',c',w4,TH,hr4⟩:=TG.out w3 v (((fR wr).alloc _).trans hf) hs;have Rq:=h_ hr4;clear hs hf hr4)|(at_builtin;refine aq TH rfl _ _ rfl rfl rfl ?_)|fail);go_roundw
     case rel=>exact⟨k+1,by omega,by go_num,Rq.out⟩
     case measure=>simp[intOf];omega
    ·obtain rfl:k=m:=by omega
     have HE:Hid (((l.take k).flatMap (dJ x))=l.flatMap (dJ x)):=by
      unfold Hid;rw[List.take_of_length_le (by rw[HL.out];exact Nat.le_refl _)]
     rw[HE.out] at pq;go_wp2
     go_ret2
     exact⟨(Ar,cr),by rw[HE.out];rfl,pq.out.sl.mono λj hj=>Nat.le_trans Z1.out.size hj,Z1.out.trans pq.out.frm⟩
 ·have HR:Hid (ur=([],false)):=by unfold Hid;rw[HU.out,if_neg (λh=>h0 h.1)]
  rw[HR.out];have e0:(er !=0)=true:=bne_iff_ne.2 h0;clear h0 HU My;go_enter Tryz.func39,Tryz.ntmps39;go_wp2_with (first|(go_at_call 20;refine(Qk.out _ ((fR w).alloc _)).mono ?_;rintro e w1 ⟨Av,cv,rfl,hv,hf⟩;have Z1:Hid (aa ac w w1):=((fR w).alloc _).trans hf;obtain⟨y0,y1,y2,y3,y4,y5⟩:=bn (dw.out _ hf);clear hv hf)|fail)
  go_ret2
  exact⟨(none,0),rfl,aN.none_ _ _ _,Z1.out⟩
end Go.Proofs.YtaecjmiobllhmaaGreat
