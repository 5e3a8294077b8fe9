/- Words. -/
import Derived.Test.YtaecjmiobllhmaaGreatGq02
import Derived.Test.YtaecjmiobllhmaaGreatGq03
import Derived.BigCall
set_option linter.unusedVariables false
set_option linter.unusedSimpArgs false
set_option maxRecDepth 100000
set_option maxHeartbeats 16000000
namespace Go.Proofs.YtaecjmiobllhmaaGreat
open Go.Value renaming int→I,string→V,slice→U,pointer→O
open Go.IntKind renaming i64→J
open Tryz renaming prog→pQ
open Go.RowKit Go.Lib
variable {A:Option Addr}{c:Nat}{t:TypeId}{bytes:Nat}
section
structure aK(e:TypeId)(w0 w1:World)(v:Value)(n:Nat)(xs:List Value):Prop where
 own:w1.ownsRow w0.heap.size e 1 v n xs
 frm:aa ac w0 w1
section
variable {P:Program} {e:TypeId} {w0 w1 w2:World} {v:Value} {n:Nat} {xs:List Value}
theorem aK.nil_(e:TypeId)(h:aa ac w0 w1):aK e w0 w1 (U none 0 0) 0 []:=⟨World.ownsRow_nil _ _ _ _,h⟩
theorem aK.empty(e:TypeId)(h:aa ac w0 w1):aK e w0 (w1.alloc (.cells #[] e)) (U (some ⟨w1.heap.size,0,none⟩) 0 0) 0 []:=
 ⟨⟨rfl,.inr ⟨_,0,#[],rfl,h.size,heap_alloc_new w1 _,Nat.le_refl _,Nat.zero_le _,rfl,rfl⟩⟩,h.alloc _⟩
theorem aK.lit(e:TypeId)(h:aa ac w0 w1)(xs:List Value)(hx:xs.length≤maxLen):aK e w0 (w1.alloc (.cells xs.toArray e)) (U (some ⟨w1.heap.size,0,none⟩) xs.length xs.length) xs.length xs:=
 ⟨⟨by simp,.inr ⟨_,xs.length,xs.toArray,rfl,h.size,heap_alloc_new w1 _,Nat.le_refl _,hx,by simp,by simp⟩⟩,h.alloc _⟩
theorem aK.more(h:aK e w0 w1 v n xs)(hf:aa ac w1 w2):aK e w0 w2 v n xs:=⟨mH h.own hf λ_ _=>id,h.frm.trans hf⟩
theorem aK.far{F:Nat→Prop}(h:aK e w0 w1 v n xs)(hf:aa F w1 w2)(hF:∀k,F k→w0.heap.size≤k)(hd:∀k,v.ownBlock=some k→¬F k):aK e w0 w2 v n xs:=
 ⟨mH h.own hf hd,h.frm.next hf λk hk=>.inr (hF k hk)⟩
theorem aK.shape(h:aK e w0 w1 v n xs):∃A c,v=U A n c∧(A=none→c=0)∧n≤c∧c≤maxLen∧(∀a,A=some a→a.off=0∧a.spot=none∧w0.heap.size≤a.block∧a.block<w1.heap.size):=nw h.own
theorem aK.rd(h:aK e w0 w1 (U A n c) n xs):Rd w1 (λk=>(Value.slice A n c).ownBlock=some k) 1 A n xs:=Rd.of_own h.own
theorem aK.len(h:aK e w0 w1 v n xs):xs.length=n:=by have:=h.own.1;omega
theorem aK.since{wb:World}(h:aK e w1 w2 v n xs)(hf:aa ac wb w1):aK e wb w2 v n xs:=
 ⟨pH h.own λk hk=>by have:=(h.own.lt k hk).1;have:=hf.size;omega,hf.trans h.frm⟩
theorem aK.ne_obj(h:aK e w0 w1 v n xs){k:Nat}{o:Obj}(ho:w1.heap[k]? =some o)(hne:∀c t f,o≠.cells c t f):v.ownBlock≠some k:=by
 rcases h.own.2 with ⟨rfl,_⟩|⟨g,cap,cur,rfl,_,hh,_⟩
 ·simp[Value.ownBlock]
 ·intro he
  have:g=k:=by simpa [Value.ownBlock] using he
  subst this;rw[hh] at ho;injection ho with ho;exact hne _ _ _ ho.symm
theorem aK.ne_blk(h:aK e w0 w1 v n xs){g:Nat}{cs:Array Value}(hg:ai w1 g t cs)(hne:e≠t):v.ownBlock≠some g:=mi h.own hg hne
structure rP(P:Program)(t e:TypeId)(bytes:Nat):Prop where
 t:P.underlying t=some (.slice e)
 i:∃z:Value,(P.info? e).map (λi=>(i.zero,i.size,i.bytes))=some (some z,1,bytes)∧z.cells.size=1
theorem aK.app(E:rP P t e bytes)(h:aK e w0 w1 v n xs){G:Nat→Prop}{m:Nat}{ys:List Value}(c:Nat)(hr:Rd w1 G 1 A m ys)(h1:∀u∈ys,u.oneCell'=true)
  (hn:n+m≤maxLen) (hb:(n+m) * bytes≤140737488355328):
  ∃v' w2,(∀ty,(Builtin.append_ #[t,t] ty #[v,U A m c]).run P w1=.ok v' w2)∧aK e w0 w2 v' (n+m) (xs++ys)∧aa (λk=>v.ownBlock=some k) w1 w2∧(v'.ownBlock=v.ownBlock∨v'.ownBlock=some w1.heap.size):=by
 obtain⟨z,hi,hzs⟩:=E.i;obtain⟨i0,ux,hz0,hz1,hz2⟩:=info_parts hi;obtain⟨v1,w2,hrun,hown,hg,hat⟩:=lY (P:=P) w1 w0.heap.size t e i0 z 1 bytes E.t ux hz0 hz1 hz2 hzs (by decide) v n xs h.own _ A m c ys hr h1 hn hb h.frm.size;exact⟨v1,w2,hrun,⟨hown,h.frm.grown hg λk hk=>.inr (h.own.lt k hk).1⟩,(aa.refl _ w1).grown hg λk hk=>.inl hk,hat⟩
theorem aK.push(E:rP P t e bytes)(h:aK e w0 w1 v n xs)(x:Value)(h1:x.oneCell'=true)(hn:n+1≤maxLen)(hb:(n+1) * bytes≤140737488355328):
  ∃v' w2,(∀ty,(Builtin.append_ #[t,t] ty #[v,U (some ⟨w1.heap.size,0,none⟩) 1 1]).run P (w1.alloc (.cells #[x] e))=.ok v' w2)∧aK e w0 w2 v' (n+1) (xs++[x])∧aa (λk=>v.ownBlock=some k) (w1.alloc (.cells #[x] e)) w2∧(v'.ownBlock=v.ownBlock∨v'.ownBlock=some (w1.heap.size+1)):=by
 obtain⟨v',w2,r,h2,h3,h4⟩:=(h.more ((fR w1).alloc (.cells #[x] e))).app E (ys:=[x]) 1 (Rd.of_obj (heap_alloc_new w1 (.cells #[x] e)) 1 rfl) (λu hu=>by simp at hu;subst hu;exact h1) hn hb;exact⟨v',w2,r,h2,h3,by simpa using h4⟩
theorem aK.set_(h:aK e w0 w1 (U A n c) n xs)(i:Nat)(hi:i<n)(u:Value):
  ∃g,A=some ⟨g,0,none⟩∧w1.cell? ⟨g,i,none⟩=xs[i]?∧w1.frozen? ⟨g,i,none⟩=false∧aK e w0 (w1.setCell ⟨g,i,none⟩ u) (U A n c) n (xs.set i u)∧w0.heap.size≤g∧g<w1.heap.size:=by
 have hl:=h.len;rcases h.own.2 with ⟨hv,hn⟩|⟨g,cap,cur,hv,hg,hh,Fo,hm,hs,ht⟩
 ·injection hv with e1 e2 e3
  omega
 ·injection hv with e1 e2 e3
  subst e1;subst e3;have hb:ai w1 g e cur:=hh;have VP:i<cur.size:=by omega
  have hx:cur[i]? =xs[i]?:=by
   rw[←ht,List.getElem?_take,if_pos (by omega)];simp
  refine⟨g,rfl,by rw[hb.cell,hx],hb.frozen i,⟨⟨by rw[List.length_set];exact h.own.1,.inr ⟨g,c,cur.setIfInBounds i u,rfl,hg,hb.set_ i u,Fo,hm,by rw[Array.size_setIfInBounds];exact hs,?_⟩⟩,h.frm.setCell (.inr hg) u⟩,hg,hb.lt⟩;rw[←ht,Array.toList_setIfInBounds,List.take_set]
end
end
theorem Ml:(pQ.info? 175).map (·.size)=some 2:=by kernel_rfl
theorem Ph:liesAt pQ pQ.depth 175 (2/pQ.cellsOf 175) 0 175 1=true:=by kernel_rfl
theorem uO(b:Nat)(w:World)(h0:w.cell? ⟨b,0,none⟩=some (O none))(yH:w.shape? b=some (175,2))(hf:w.frozen? ⟨b,0,none⟩=false):
  Calls pQ 173 #[O (some ⟨b,0,none⟩)] w λe w'=>e=.returned (.tuple #[])∧w'=w.setCell ⟨b,0,none⟩ (O (some ⟨b,0,none⟩)):=by
 obtain⟨j,hj,VQ⟩:=Option.map_eq_some_iff.1 Ml;go_enter Tryz.func173,Tryz.ntmps173;go_wp2;rw[Lib.run_to_unsafe w ⟨b,0,none⟩ Tryz.underlying172 Tryz.underlying218 hj (by rw[VQ];decide) yH (Nat.zero_lt_succ 1)];simp only[Result.andThen];rw[Oper.upon_value];go_wp2;rw[run_callFunc_extern Tryz.func208 (by kernel_rfl) (by kernel_rfl) (by kernel_rfl) (e:=Extern.AbiNoEscape.same) (by kernel_rfl)];rw[Lib.run_noEscape];simp only[Result.andThen];rw[Oper.upon_value];go_wp2;rw[Lib.run_from_unsafe w ⟨b,0,none⟩ Tryz.underlying218 Tryz.underlying172 hj yH Ph];simp only[Result.andThen];rw[Oper.upon_value];go_wp2
 go_end0
 exact⟨rfl,rfl⟩
theorem vF(b:Nat)(w:World)(h0:w.cell? ⟨b,0,none⟩=some (O (some ⟨b,0,none⟩))):
  Calls pQ 173 #[O (some ⟨b,0,none⟩)] w λe w'=>e=.returned (.tuple #[])∧w'=w:=by
 go_enter Tryz.func173,Tryz.ntmps173;obtain⟨j,hj,_⟩:=Option.map_eq_some_iff.1 Ml;go_wp2;rw[Lib.run_neq_ptr_same w _ Tryz.underlying172 hj];go_wp2
 go_end0
 exact⟨rfl,rfl⟩
theorem xO:5≠175:=by decide
def nC(b:Nat):Value:=O (some ⟨b,0,none⟩)
theorem rC(b:Nat)(w:World)(p v:Value)(hp:p=O none∨p=nC b)(hb:ai w b 175 #[p,v]):
  Calls pQ 173 #[O (some ⟨b,0,none⟩)] w λe w'=>e=.returned (.tuple #[])∧ai w' b 175 #[nC b,v]∧aa (λk=>k=b) w w':=by
 rcases hp with rfl|rfl
 ·have hs:w.shape? b=some (175,2):=by
   unfold ai at hb;simp[World.shape?,hb]
  refine(uO b w (hb.cell 0) hs (hb.frozen 0)).mono ?_;rintro e w' ⟨rfl,rfl⟩;exact⟨rfl,hb.set_ 0 _,(aa.refl (λk=>k=b) w).setCell (.inl rfl) _⟩
 ·refine(vF b w (hb.cell 0)).mono ?_
  rintro e w' ⟨rfl,rfl⟩;exact⟨rfl,hb,aa.refl _ _⟩
theorem rD{w0 w:World}{b n:Nat}{p v:Value}{bs:List Value}(hb0:w0.heap.size≤b)(hp:p=O none∨p=nC b)(hb:ai w b 175 #[p,v])(hr:aK 5 w0 w v n bs)(r:Int)(MR: -2147483648≤r)(hr1:r≤2147483647)(hn:n+4≤140737488355328):
  Calls pQ 139 #[O (some ⟨b,0,none⟩),.int .i32 r] w λe w'=>e=.returned (.tuple #[I J (runeCells r).length,.nilIface])∧
   ∃v',ai w' b 175 #[nC b,v']∧aK 5 w0 w' v' (n+(runeCells r).length) (bs++runeCells r)∧aa (λk=>k=b∨v.ownBlock=some k) w w':=by
 have hk4:=runeCells_le r;have HR:=h_ hr;have HB:=h_ hb;obtain⟨A,c,rfl,-,-,hcm,-⟩:=hr.shape;unfold maxLen at hcm;have hne:=hr.ne_blk hb xO;clear hr hb;go_enter Tryz.func139,Tryz.ntmps139;go_wp2_with fail;refine(rC b w p _ hp HB.out).mono ?_;rintro e w1 ⟨rfl,hb1,jg⟩;have xn:aK 5 w0 w1 (U A n c) n bs:=HR.out.far jg (λk hk=>by rw[hk];exact hb0) (λk hk e=>hne (by rw[hk,e]));have c1:=hb1.cell 1;simp at c1;have H1:=h_ (And.intro hb1 (And.intro jg xn));clear hb1 jg xn;go_wp2_with fail;refine(Tryz.utf8_AppendRune_plain w0.heap.size _ n bs r MR hr1 w1 H1.out.2.2.own hn H1.out.2.2.frm.size).mono ?_;rintro e w2 ⟨v',rfl,hown,o,hg⟩;obtain⟨hb1,jg,xn⟩:=H1.out;have hf2:aa (λk=>(Value.slice A n c).ownBlock=some k) w1 w2:=((aa.refl (λk=>(Value.slice A n c).ownBlock=some k) w1).alloc o).grown hg λk hk=>.inl hk
 have hr2:aK 5 w0 w2 v' (n+(runeCells r).length) (bs++runeCells r):=⟨hown,xn.frm.next hf2 λk hk=>.inr (xn.own.lt k hk).1⟩;have hb2:=hb1.frm hf2 hne;obtain⟨A2,c2,rfl,-,-,Pi,-⟩:=hr2.shape;unfold maxLen at Pi;have d1:=hb2.cell 1;have f1:=hb2.frozen 1;simp at d1;have H2:=h_ (And.intro hb2 (And.intro hf2 hr2));clear hb2 hf2 hr2 hown hg hb1 jg xn c1;obtain⟨L,hL⟩:∃L,(runeCells r).length=L:=⟨_,rfl⟩;rw[hL] at hk4 ⊢;have Fr:=h_ hL;clear hL;go_wp2
 go_ret2
 obtain⟨hb2,hf2,hr2⟩:=H2.out;simp only[Fr.out] at hr2 ⊢;have MS:=hr2.ne_blk hb2 xO;have e1:(n:Int)+(L:Int)-(n:Int)=(L:Int):=by omega
 refine⟨by simp[e1],_,hb2.set_ 1 _,hr2.far ((aa.refl (λk=>k=b) w2).setCell (.inl rfl) _) (λk hk=>by rw[hk];exact hb0) (λk hk e=>MS (by rw[hk,e])),?_⟩;refine((H1.out.2.1.mono λk hk=>.inl hk).trans (hf2.mono λk hk=>.inr hk)).trans ((aa.refl (λk=>k=b∨(Value.slice A n c).ownBlock=some k) w2).setCell (.inl (.inl rfl)) _)
theorem nD(w:World)(k:Nat)(s:ByteArray)(pos:Nat):aa (λi=>i=k) w (w.iterAt k s pos):=by
 refine⟨rfl,rfl,rfl,by rw[Lib.iterAt_size];exact Nat.le_refl _,λi _ hn=>Lib.iterAt_other _ _ _ _ _ hn⟩
theorem tR(s:ByteArray)(pos:Nat)(h:pos<s.size):cV ((aX s).drop pos)=(Utf8.decode s pos).1::cV ((aX s).drop (pos+(Utf8.decode s pos).2))∧pos+(Utf8.decode s pos).2≤s.size∧1≤(Utf8.decode s pos).2:=by
 have hne:(aX s).drop pos≠[]:=by
  intro e;have:=congrArg List.length e;rw[List.length_drop,←aT] at this;simp at this;omega
 have e:=decodeL_drop s pos;have hle:=decodeL_le _ hne;have hw:=decodeL_width ((aX s).drop pos);rw[List.length_drop,←aT,e] at hle;rw[e] at hw;refine⟨?_,by omega,hw⟩;rw[qC _ hne,e,List.drop_drop]
theorem xo(l:List Nat)(r:Nat)(acc:List UInt8):acc++enc ((r::l).map fq)=(acc++en (fq r))++enc (l.map fq):=by
 rw[List.map_cons,dn,List.append_assoc]
theorem Fs(s:ByteArray)(w:World)(hs:s.size≤1000000):
  Calls pQ 179 #[V s] w λe w'=>e=.returned (V (fB (m0 (aX s))))∧aa ac w w':=by
 have hb0:=ai.new w 175 #[O none,U none 0 0];go_enter Tryz.func179,Tryz.ntmps179;go_wp2
 go_loopw [] (λwr=>∃(pos:Nat) (acc:List UInt8) (p v:Value),(p=O none∨p=nC w.heap.size)∧ai wr w.heap.size 175 #[p,v]∧aK 5 w wr v acc.length (byteCells acc)∧
  wr.heap[w.heap.size+1]? =some (.stringIter s pos)∧acc++enc ((cV ((aX s).drop pos)).map fq)=m0 (aX s)∧pos≤s.size∧acc.length≤4 * pos) (λwr=>s.size-wr.iterPos (w.heap.size+1))
 case atStart=>
  have nz:aa ac w (w.alloc (.cells #[O none,U none 0 0] 175)):=(fR w).alloc _;refine⟨0,[],O none,U none 0 0,.inl rfl,hb0.alloc _,aK.nil_ _ (nz.alloc _),?_,by simp[m0,jY],Nat.zero_le _,by simp⟩;have:=World.iter_heap (w.alloc (.cells #[O none,U none 0 0] 175)) s 0
  simpa using this
 case round=>
  obtain⟨pos,acc,p,v,hp,hb,hr,hit,Hy,Pj,VR⟩:=hrel;have HB:=h_ hb;have HR:=h_ hr;have HA:=h_ Hy;have HP:=h_ hp;have hfr:=hr.frm;have hbl:=hb.lt;clear hb hr Hy hp
  by_cases hlt:pos<s.size
  ·have EP:∀ty,(Instr.next (O (some ⟨w.heap.size+1,0,none⟩)) true ty).run pQ wr=_:=λty=>Lib.run_next_any_at wr (w.heap.size+1) s pos ty hit hlt
   obtain⟨JX,CE,UG⟩:=tR s pos hlt;have hv:=pz ((aX s).drop pos);rw[decodeL_drop s pos] at hv;have ng:=Lib.iterAt_heap wr (w.heap.size+1) s pos (pos+(Utf8.decode s pos).2) hit;have CG:=nD wr (w.heap.size+1) s (pos+(Utf8.decode s pos).2);have HD:=h_ JX;have Hz:v.ownBlock≠some (w.heap.size+1):=HR.out.ne_obj hit λ_ _ _ h=>by cases h
   clear JX;generalize (Utf8.decode s pos).1=R at *;generalize (Utf8.decode s pos).2=K at *;have kh:Hid (ai (wr.iterAt (w.heap.size+1) s (pos+K)) w.heap.size 175 #[p,v]):=HB.out.frm CG (by omega);have gI:Hid (aK 5 w (wr.iterAt (w.heap.size+1) s (pos+K)) v acc.length (byteCells acc)):=HR.out.far CG (λk hk=>by omega) (λk hk e=>Hz (by rw[hk,e]));generalize wr.iterAt (w.heap.size+1) s (pos+K)=wi at *;have hR:R≤1114111:=by unfold Vr at hv;omega
   have OO:Vr (fq R):=qE hv;have hF:fq R≤1114111:=by unfold Vr at OO;omega
   have KF:=λW=>Fp R W hR
   have KW:=h_ (rD (Nat.le_refl _) HP.out kh.out gI.out (fq R) (by omega) (by omega) (by omega));clear hv OO CG;go_wp2_with (first|(go_at_call 211;refine(KF _).mono ?_;rintro e w' ⟨rfl,rfl⟩)|(go_at_call 139;refine KW.out.mono ?_;rintro e w2 ⟨rfl,v',hb2,hr2,hf2⟩;have HX:=h_ (And.intro hb2 (And.intro hr2 hf2));clear hb2 hr2 hf2));go_roundw
   case rel=>
    obtain⟨hb2,hr2,hf2⟩:=HX.out
    have MT:w2.heap[w.heap.size+1]? =some (.stringIter s (pos+K)):=by
     rw[hf2.block _ (fA ng) (λh=>by
      rcases h with h|h
      ·omega
      ·exact gI.out.ne_obj ng (λ_ _ _ h=>by cases h) h)]
     exact ng
    have hl4:=runeCells_le (fq R:Int);rw[runeCells_length] at hl4;refine⟨pos+K,acc++en (fq R),nC w.heap.size,v',.inr rfl,hb2,?_,MT,?_,CE,?_⟩
    ·have e1:(acc++en (fq R)).length=acc.length+(runeCells (fq R:Int)).length:=by rw[List.length_append,runeCells_length];rfl
     rw[e1,byteCells_append];have e2:byteCells (en (fq R))=runeCells (fq R:Int):=byteCells_encodeRune _;rw[e2];exact hr2
    ·rw[←HA.out,HD.out,xo]
    ·have:(en (fq R)).length=(encodeRune (fq R:Int)).length:=rfl
     rw[List.length_append,this];omega
   case measure=>
    obtain⟨hb2,hr2,hf2⟩:=HX.out
    have MT:w2.heap[w.heap.size+1]? =some (.stringIter s (pos+K)):=by
     rw[hf2.block _ (fA ng) (λh=>by
      rcases h with h|h
      ·omega
      ·exact gI.out.ne_obj ng (λ_ _ _ h=>by cases h) h)]
     exact ng
    simp only[World.iterPos,MT,hit];omega
  ·have EP:∀ty,(Instr.next (O (some ⟨w.heap.size+1,0,none⟩)) true ty).run pQ wr=_:=λty=>Lib.run_next_end_at wr (w.heap.size+1) s pos ty hit hlt
   have hI:Lib.IsBuilder 175 5 w.heap.size w.heap.size (byteCells acc) wr:=by
    have h1:BuilderAt 175 5 w.heap.size w.heap.size p (byteCells acc) wr:=⟨Nat.le_refl _,v,HB.out,by rw[Lib.byteCells_length];exact HR.out.own,HR.out.ne_blk HB.out xO⟩;rcases HP.out with e|e
    ·subst e;exact .inl h1
    ·subst e;exact .inr h1
   have KS:=h_ (Tryz.Builder_String_any w.heap.size w.heap.size acc wr hI (by omega))
   have Fu:Hid (acc=m0 (aX s)):=by
    have h1:(aX s).drop pos=[]:=List.drop_eq_nil_iff.2 (by rw[←aT];omega);have h2:=HA.out;rw[h1,pX,List.map_nil,qX,List.append_nil] at h2;exact h2
   have HF:=h_ hfr;clear hI hfr;go_wp2_with (go_at_call 140;refine KS.out.mono ?_;rintro e w1 ⟨rfl,sM⟩);go_ret;have hs0:=HF.out.size;have hfb:aa (λk=>w.heap.size≤k) wr w1:=⟨sM.os,sM.tape,sM.output,sM.size,λi _ hn=>sM.block i (by omega)⟩;exact⟨by rw[Fu.out];rfl,HF.out.next hfb λi hi=>.inr hi⟩
theorem pA(w:List Nat)(k:Nat):enc (w.take k)++enc (w.drop k)=enc w:=by rw[←eF,List.take_append_drop]
theorem rE(w:List Nat)(k:Nat)(h:k<w.length):enc (w.take (k+1))=enc (w.take k)++en w[k]:=by
 rw[List.take_succ_eq_append_getElem h,eF];simp[enc]
theorem vG(w:List Nat)(hv:∀r∈w,Vr r)(k:Nat)(h:k<w.length):Utf8.decode (fB (enc w)) (enc (w.take k)).length=(w[k],(en w[k]).length)∧(enc (w.take k)).length<(fB (enc w)).size:=by
 have hd:(aX (fB (enc w))).drop (enc (w.take k)).length=en w[k]++enc (w.drop (k+1)):=by
  rw[eU,←pA w k,List.drop_left']
  ·rw[List.drop_eq_getElem_cons h,dn]
  ·rfl
 constructor
 ·rw[←decodeL_drop,hd]
  exact mn _ (hv _ (List.getElem_mem h)) _
 ·rw[aT,eU,←pA w k,List.length_append,List.drop_eq_getElem_cons h,dn,List.length_append]
  have:=nB w[k];omega
theorem Fv(x:List Nat)(hv:∀r∈x,Vr r)(w:World):
  Calls pQ 182 #[V (fB (enc x))] w λe w'=>e=.returned (V (fB (enc (x.take 32))))∧aa ac w w':=by
 go_enter Tryz.func182,Tryz.ntmps182;go_wp2
 go_loopw [3] (λn wr=>∃k:Nat,k≤x.length∧k≤32∧n=I J k∧wr.heap[w.heap.size]? =some (.stringIter (fB (enc x)) (enc (x.take k)).length)∧aa ac w wr) (λn wr=>33-(intOf n).toNat)
 case atStart=>exact⟨0,Nat.zero_le _,by omega,rfl,World.iter_heap w _ 0,(fR w).alloc _⟩
 case round=>
  obtain⟨k,hk,RS,rfl,hit,hfr⟩:=hrel;have HF:=h_ hfr;have hsz:=hfr.size;clear hfr
  by_cases hlt:k<x.length
  ·obtain⟨JX,CE⟩:=vG x hv k hlt
   have EP:∀ty,(Instr.next (O (some ⟨w.heap.size,0,none⟩)) true ty).run pQ wr=_:=λty=>Lib.run_next_any_at wr w.heap.size (fB (enc x)) (enc (x.take k)).length ty hit CE
   rw[JX] at EP;simp only at EP;have xP:=rE x k hlt;have hle:(enc (x.take (k+1))).length=(enc (x.take k)).length+(en x[k]).length:=by rw[xP,List.length_append]
   have ng:=Lib.iterAt_heap wr w.heap.size (fB (enc x)) (enc (x.take k)).length ((enc (x.take k)).length+(en x[k]).length) hit;have HI:Hid ((wr.iterAt w.heap.size (fB (enc x)) ((enc (x.take k)).length+(en x[k]).length)).heap[w.heap.size]? =some (.stringIter (fB (enc x)) (enc (x.take (k+1))).length)):=by rw[hle];exact ng
   have qx:Hid (aa ac w (wr.iterAt w.heap.size (fB (enc x)) ((enc (x.take k)).length+(en x[k]).length))):=HF.out.next (nD wr w.heap.size _ _) λi hi=>.inr (by rw[hi];exact Nat.le_refl _)
   clear ng xP hle JX
   have HX:Hid ((fB (enc x)).extract 0 (enc (x.take k)).length=fB (enc (x.take k))):=by
    apply sK;rw[eU];show ((fB (enc x)).extract 0 (enc (x.take k)).length).data.toList=_
    rw[extract_data];show ((aX (fB (enc x))).drop 0).take _=_
    rw[eU,←pA x k];simp
   generalize (en x[k]).length=K at *;generalize wr.iterAt w.heap.size (fB (enc x)) ((enc (x.take k)).length+K)=wi at *;obtain⟨E,hE⟩:∃E,(enc (x.take k)).length=E:=⟨_,rfl⟩;rw[hE] at CE EP HX;clear hE hit;generalize hS:fB (enc x)=S at *
   by_cases HJ:k=32
   ·subst HJ
    have e1:(0:Int)≤(E:Int):=Int.natCast_nonneg _;go_wp2;go_ret;exact⟨by first|rfl|(rw[HX.out];rfl),qx.out⟩
   ·have VS:decide ((k:Int)=32)=false:=by simp;omega
    have VT:((k:Int)==32)=false:=by simp;omega
    go_wp2;go_roundw
    case rel=>exact⟨k+1,by omega,by omega,by go_num,HI.out,qx.out⟩
    case measure=>simp[intOf];omega
  ·obtain rfl:k=x.length:=by omega
   have hx:x.take x.length=x:=List.take_of_length_le (Nat.le_refl _);rw[hx] at hit;have CE:¬(enc x).length<(fB (enc x)).size:=by rw[aT,eU];omega
   have EP:∀ty,(Instr.next (O (some ⟨w.heap.size,0,none⟩)) true ty).run pQ wr=_:=λty=>Lib.run_next_end_at wr w.heap.size (fB (enc x)) (enc x).length ty hit CE
   have HX:Hid (x.take 32=x):=List.take_of_length_le RS;clear hit CE;generalize hS:fB (enc x)=S at *;go_wp2;go_ret;exact⟨by rw[HX.out,hS];rfl,HF.out⟩
theorem uP(w:World):PredAtRunes pQ 180 #[] (λr=>!d9 r) w:=λW r hr _=>by
 unfold FnGives;go_enter Tryz.func180,Tryz.ntmps180;go_wp2_with (go_at_call 181;refine(Ak r _ hr).mono ?_;rintro e w' ⟨rfl,rfl⟩);go_ret;exact⟨rfl,0,rfl⟩
def uQ(ws:List (List Nat))(k:Nat):List Value:=((ws.take k).map λx=>Value.string (fB (enc (x.take 32))))++(ws.drop k).map λx=>Value.string (fB (enc x))
theorem EQ(ws:List (List Nat))(k:Nat)(h:k<ws.length):(uQ ws k)[k]? =some (V (fB (enc ws[k]))):=by
 unfold uQ;rw[List.getElem?_append_right (by simp;omega)];have:k-((ws.take k).map λx=>Value.string (fB (enc (x.take 32)))).length=0:=by simp;omega
 rw[this,List.drop_eq_getElem_cons h];rfl
theorem H0(ws:List (List Nat))(k:Nat)(h:k<ws.length):(uQ ws k).set k (V (fB (enc (ws[k].take 32))))=uQ ws (k+1):=by
 unfold uQ;have hl:((ws.take k).map λx=>Value.string (fB (enc (x.take 32)))).length=k:=by simp;omega
 rw[List.set_append_right _ _ (by omega),hl,Nat.sub_self,List.drop_eq_getElem_cons h,List.take_succ_eq_append_getElem h,List.map_cons,List.set_cons_zero,List.map_append,List.map_cons,List.map_nil,List.append_assoc,List.singleton_append]
def yI(w:World)(l:List ByteArray)(e:Ending)(w':World):Prop:=
 ∃A c,e=.returned (U A l.length c)∧aK 9 w w' (U A l.length c) l.length (l.map Value.string)
theorem xQ(s:ByteArray):js s=(dl [] (jY (aX s))).map λx=>fB (enc (x.take 32)):=by
 simp[js,tP,vE,List.map_map,Function.comp_def,fB]
theorem xR(s:ByteArray)(w:World)(hs:s.size≤1000000):
  Calls pQ 147 #[V s] w (yI w (js s)):=by
 have zP:=mI (jY (aX s));have hrl:=lq (aX s)
 have hsz:(fB (m0 (aX s))).size≤4000000:=by
  rw[aT,eU];have:(jY (aX s)).length=(cV (aX s)).length:=by simp[jY]
  rw[←aT] at hrl;unfold m0;omega
 have zQ:=CC (jY (aX s)) (pg _);have xd:=xQ s
 have hval:∀x∈dl [] (jY (aX s)),∀r∈x,Vr r:=λx hx r hr=>by
  rcases rN _ _ x hx r hr with h|h
  ·cases h
  ·exact pg _ r h
 have eg:∀args w,(callFunc 180 args).run pQ w=.ok (.enter 180 args) w:=enters_of Tryz.func180 (by kernel_rfl) rfl;have KF:=λW=>Tryz.strings_FieldsFunc_runes 180 #[] eg (λr=>!d9 r) (fB (m0 (aX s))) W (by omega) (uP W)
 rw[show fB (m0 (aX s))=fB (enc (jY (aX s))) from rfl] at KF hsz;rw[zQ] at KF;have KU:=Fs s w hs;rw[show fB (m0 (aX s))=fB (enc (jY (aX s))) from rfl] at KU;generalize dl [] (jY (aX s))=ws at *;have HW:=h_ xd;have HV:=h_ hval;have VU:=h_ KF;have VV:=h_ KU;generalize fB (enc (jY (aX s)))=S at *;clear zP hrl zQ xd hval eg KF KU;go_enter Tryz.func147,Tryz.ntmps147;go_wp2_with fail;refine VV.out.mono ?_;rintro e w1 ⟨rfl,f1⟩;go_wp2_with fail;refine(VU.out w1).mono ?_;rintro e w2 ⟨A,rfl,hA,hown,sM⟩;rw[List.length_map,List.map_map] at hown
 have MR:aK 9 w w2 (U (some ⟨A,0,none⟩) ws.length ws.length) ws.length (uQ ws 0):=(⟨by
  have:uQ ws 0=ws.map (Value.string ∘ λw=>fB (enc w)):=by simp[uQ,Function.comp_def]
  rw[this];exact hown,aa.of_below sM⟩:aK 9 w1 w2 (U (some ⟨A,0,none⟩) ws.length ws.length) ws.length (uQ ws 0)).since f1
 have hm:ws.length≤9223372036854775807:=by
  obtain⟨_,c0,e0,-,h1,h2,-⟩:=MR.shape;unfold maxLen at h2;omega
 have HR:=h_ MR;rw[List.length_map];clear hown sM MR f1;go_wp2
 go_loopw [11] (λi wr=>∃k:Nat,k≤ws.length∧i=I J k∧aK 9 w wr (U (some ⟨A,0,none⟩) ws.length ws.length) ws.length (uQ ws k)) (λi _=>ws.length-(intOf i).toNat)
 case atStart=>exact⟨0,Nat.zero_le _,rfl,HR.out⟩
 case round=>
  obtain⟨k,hk,rfl,hrow⟩:=hrel;have ji:=h_ hrow
  by_cases hlt:k<ws.length
  ·obtain⟨g,hg,hcell,-,-,-,-⟩:=hrow.set_ k hlt undef
   injection hg with hg;injection hg with hg;subst hg;rw[EQ ws k hlt] at hcell;have hx:=HV.out ws[k] (List.getElem_mem hlt);have KS:=h_ (Fv ws[k] hx wr);have rQ:=h_ (H0 ws k hlt);have hk0:(0:Int)≤(k:Int):=Int.natCast_nonneg _;have vH:(k:Int)<(ws.length:Int):=by omega
   clear hrow hx;go_wp2_with fail;refine KS.out.mono ?_;rintro e w3 ⟨rfl,f3⟩;obtain⟨g,hg,MU,VW,hrow3,-,xS⟩:=(ji.out.more f3).set_ k hlt (V (fB (enc (ws[k].take 32))));injection hg with hg;injection hg with hg;subst hg;rw[EQ ws k hlt] at MU;rw[rQ.out] at hrow3;have od:=h_ hrow3;clear hrow3 hcell f3;generalize fB (enc (ws[k].take 32))=T at *;go_wp2;go_roundw
   case rel=>exact⟨k+1,by omega,by go_num,od.out⟩
   case measure=>simp[intOf];omega
  ·obtain rfl:k=ws.length:=by omega
   clear hrow;go_wp2;go_ret;refine⟨some ⟨A,0,none⟩,ws.length,?_,?_⟩
   ·rw[HW.out,List.length_map];rfl
   ·rw[HW.out,List.length_map,List.map_map]
    have:uQ ws ws.length=ws.map (Value.string ∘ λx=>fB (enc (x.take 32))):=by simp[uQ,Function.comp_def]
    rw[←this];exact ji.out
end Go.Proofs.YtaecjmiobllhmaaGreat
