/- Words. -/
import Derived.Test.YtaecjmiobllhmaaGreatGr02
import Derived.Test.YtaecjmiobllhmaaGreatGr03
import Derived.BigCall
set_option linter.unusedVariables false
set_option linter.unusedSimpArgs false
set_option maxRecDepth 100000
set_option maxHeartbeats 16000000
namespace Go.Proofs.YtaecjmiobllhmaaGreat
open Go.Value renaming int→I,string→V,slice→U,pointer→O
open Go.IntKind renaming i64→J
open Tryz renaming prog→pQ
open Go.RowKit Go.Lib
variable {A:Option Addr}{c:Nat}{t:TypeId}{bytes:Nat}
section
structure aJ(e:TypeId)(w0 w1:World)(v:Value)(n:Nat)(xs:List Value):Prop where
 own:w1.ownsRow w0.heap.size e 1 v n xs
 frm:aa ag w0 w1
section
variable {P:Program} {e:TypeId} {w0 w1 w2:World} {v:Value} {n:Nat} {xs:List Value}
theorem aJ.nil_(e:TypeId)(h:aa ag w0 w1):aJ e w0 w1 (U none 0 0) 0 []:=⟨World.ownsRow_nil _ _ _ _,h⟩
theorem aJ.empty(e:TypeId)(h:aa ag w0 w1):aJ e w0 (w1.alloc (.cells #[] e)) (U (some ⟨w1.heap.size,0,none⟩) 0 0) 0 []:=
 ⟨⟨rfl,.inr ⟨_,0,#[],rfl,h.size,heap_alloc_new w1 _,Nat.le_refl _,Nat.zero_le _,rfl,rfl⟩⟩,h.alloc _⟩
theorem aJ.lit(e:TypeId)(h:aa ag w0 w1)(xs:List Value)(hx:xs.length≤maxLen):aJ e w0 (w1.alloc (.cells xs.toArray e)) (U (some ⟨w1.heap.size,0,none⟩) xs.length xs.length) xs.length xs:=
 ⟨⟨by simp,.inr ⟨_,xs.length,xs.toArray,rfl,h.size,heap_alloc_new w1 _,Nat.le_refl _,hx,by simp,by simp⟩⟩,h.alloc _⟩
theorem aJ.more(h:aJ e w0 w1 v n xs)(hf:aa ag w1 w2):aJ e w0 w2 v n xs:=⟨vd h.own hf λ_ _=>id,h.frm.trans hf⟩
theorem aJ.far{F:Nat→Prop}(h:aJ e w0 w1 v n xs)(hf:aa F w1 w2)(hF:∀k,F k→w0.heap.size≤k)(hd:∀k,v.ownBlock=some k→¬F k):aJ e w0 w2 v n xs:=
 ⟨vd h.own hf hd,h.frm.next hf λk hk=>.inr (hF k hk)⟩
theorem aJ.shape(h:aJ e w0 w1 v n xs):∃A c,v=U A n c∧(A=none→c=0)∧n≤c∧c≤maxLen∧(∀a,A=some a→a.off=0∧a.spot=none∧w0.heap.size≤a.block∧a.block<w1.heap.size):=tR h.own
theorem aJ.rd(h:aJ e w0 w1 (U A n c) n xs):Rd w1 (λk=>(Value.slice A n c).ownBlock=some k) 1 A n xs:=Rd.of_own h.own
theorem aJ.len(h:aJ e w0 w1 v n xs):xs.length=n:=by have:=h.own.1;omega
theorem aJ.since{wb:World}(h:aJ e w1 w2 v n xs)(hf:aa ag wb w1):aJ e wb w2 v n xs:=
 ⟨pL h.own λk hk=>by have:=(h.own.lt k hk).1;have:=hf.size;omega,hf.trans h.frm⟩
theorem aJ.ne_obj(h:aJ e w0 w1 v n xs){k:Nat}{o:Obj}(ho:w1.heap[k]? =some o)(hne:∀c t f,o≠.cells c t f):v.ownBlock≠some k:=by
 rcases h.own.2 with ⟨rfl,_⟩|⟨g,cap,cur,rfl,_,hh,_⟩
 ·simp[Value.ownBlock]
 ·intro he
  have:g=k:=by simpa [Value.ownBlock] using he
  subst this;rw[hh] at ho;injection ho with ho;exact hne _ _ _ ho.symm
theorem aJ.ne_blk(h:aJ e w0 w1 v n xs){g:Nat}{cs:Array Value}(hg:aj w1 g t cs)(hne:e≠t):v.ownBlock≠some g:=rX h.own hg hne
structure vG(P:Program)(t e:TypeId)(bytes:Nat):Prop where
 t:P.underlying t=some (.slice e)
 i:∃z:Value,(P.info? e).map (λi=>(i.zero,i.size,i.bytes))=some (some z,1,bytes)∧z.cells.size=1
theorem aJ.app(E:vG P t e bytes)(h:aJ e w0 w1 v n xs){G:Nat→Prop}{m:Nat}{ys:List Value}(c:Nat)(hr:Rd w1 G 1 A m ys)(h1:∀u∈ys,u.oneCell'=true)
  (hn:n+m≤maxLen) (hb:(n+m) * bytes≤140737488355328):
  ∃v' w2,(∀ty,(Builtin.append_ #[t,t] ty #[v,U A m c]).run P w1=.ok v' w2)∧aJ e w0 w2 v' (n+m) (xs++ys)∧aa (λk=>v.ownBlock=some k) w1 w2∧(v'.ownBlock=v.ownBlock∨v'.ownBlock=some w1.heap.size):=by
 obtain⟨z,hi,hzs⟩:=E.i;obtain⟨i0,GK,hz0,hz1,hz2⟩:=info_parts hi;obtain⟨v1,w2,hrun,hown,hg,hat⟩:=qO (P:=P) w1 w0.heap.size t e i0 z 1 bytes E.t GK hz0 hz1 hz2 hzs (by decide) v n xs h.own _ A m c ys hr h1 hn hb h.frm.size;exact⟨v1,w2,hrun,⟨hown,h.frm.grown hg λk hk=>.inr (h.own.lt k hk).1⟩,(aa.refl _ w1).grown hg λk hk=>.inl hk,hat⟩
theorem aJ.push(E:vG P t e bytes)(h:aJ e w0 w1 v n xs)(x:Value)(h1:x.oneCell'=true)(hn:n+1≤maxLen)(hb:(n+1) * bytes≤140737488355328):
  ∃v' w2,(∀ty,(Builtin.append_ #[t,t] ty #[v,U (some ⟨w1.heap.size,0,none⟩) 1 1]).run P (w1.alloc (.cells #[x] e))=.ok v' w2)∧aJ e w0 w2 v' (n+1) (xs++[x])∧aa (λk=>v.ownBlock=some k) (w1.alloc (.cells #[x] e)) w2∧(v'.ownBlock=v.ownBlock∨v'.ownBlock=some (w1.heap.size+1)):=by
 obtain⟨v',w2,r,h2,h3,h4⟩:=(h.more ((fR w1).alloc (.cells #[x] e))).app E (ys:=[x]) 1 (Rd.of_obj (heap_alloc_new w1 (.cells #[x] e)) 1 rfl) (λu hu=>by simp at hu;subst hu;exact h1) hn hb;exact⟨v',w2,r,h2,h3,by simpa using h4⟩
theorem aJ.set_(h:aJ e w0 w1 (U A n c) n xs)(i:Nat)(hi:i<n)(u:Value):
  ∃g,A=some ⟨g,0,none⟩∧w1.cell? ⟨g,i,none⟩=xs[i]?∧w1.frozen? ⟨g,i,none⟩=false∧aJ e w0 (w1.setCell ⟨g,i,none⟩ u) (U A n c) n (xs.set i u)∧w0.heap.size≤g∧g<w1.heap.size:=by
 have hl:=h.len;rcases h.own.2 with ⟨hv,hn⟩|⟨g,cap,cur,hv,hg,hh,Ci,hm,hs,ht⟩
 ·injection hv with e1 e2 e3
  omega
 ·injection hv with e1 e2 e3
  subst e1;subst e3;have hb:aj w1 g e cur:=hh;have SR:i<cur.size:=by omega
  have hx:cur[i]? =xs[i]?:=by
   rw[←ht,List.getElem?_take,if_pos (by omega)];simp
  refine⟨g,rfl,by rw[hb.cell,hx],hb.frozen i,⟨⟨by rw[List.length_set];exact h.own.1,.inr ⟨g,c,cur.setIfInBounds i u,rfl,hg,hb.set_ i u,Ci,hm,by rw[Array.size_setIfInBounds];exact hs,?_⟩⟩,h.frm.setCell (.inr hg) u⟩,hg,hb.lt⟩;rw[←ht,Array.toList_setIfInBounds,List.take_set]
end
end
theorem K9:(pQ.info? 175).map (·.size)=some 2:=by kernel_rfl
theorem NH:liesAt pQ pQ.depth 175 (2/pQ.cellsOf 175) 0 175 1=true:=by kernel_rfl
theorem uP(b:Nat)(w:World)(h0:w.cell? ⟨b,0,none⟩=some (O none))(Ag:w.shape? b=some (175,2))(hf:w.frozen? ⟨b,0,none⟩=false):
  Calls pQ 173 #[O (some ⟨b,0,none⟩)] w λe w'=>e=.returned (.tuple #[])∧w'=w.setCell ⟨b,0,none⟩ (O (some ⟨b,0,none⟩)):=by
 obtain⟨j,hj,SS⟩:=Option.map_eq_some_iff.1 K9;go_enter Tryz.func173,Tryz.ntmps173;go_wp2;rw[Lib.run_to_unsafe w ⟨b,0,none⟩ Tryz.underlying172 Tryz.underlying218 hj (by rw[SS];decide) Ag (Nat.zero_lt_succ 1)];simp only[Result.andThen];rw[Oper.upon_value];go_wp2;rw[run_callFunc_extern Tryz.func208 (by kernel_rfl) (by kernel_rfl) (by kernel_rfl) (e:=Extern.AbiNoEscape.same) (by kernel_rfl)];rw[Lib.run_noEscape];simp only[Result.andThen];rw[Oper.upon_value];go_wp2;rw[Lib.run_from_unsafe w ⟨b,0,none⟩ Tryz.underlying218 Tryz.underlying172 hj Ag NH];simp only[Result.andThen];rw[Oper.upon_value];go_wp2
 go_end0
 exact⟨rfl,rfl⟩
theorem vH(b:Nat)(w:World)(h0:w.cell? ⟨b,0,none⟩=some (O (some ⟨b,0,none⟩))):
  Calls pQ 173 #[O (some ⟨b,0,none⟩)] w λe w'=>e=.returned (.tuple #[])∧w'=w:=by
 go_enter Tryz.func173,Tryz.ntmps173;obtain⟨j,hj,_⟩:=Option.map_eq_some_iff.1 K9;go_wp2;rw[Lib.run_neq_ptr_same w _ Tryz.underlying172 hj];go_wp2
 go_end0
 exact⟨rfl,rfl⟩
theorem xJ:5≠175:=by decide
def nE(b:Nat):Value:=O (some ⟨b,0,none⟩)
theorem rO(b:Nat)(w:World)(p v:Value)(hp:p=O none∨p=nE b)(hb:aj w b 175 #[p,v]):
  Calls pQ 173 #[O (some ⟨b,0,none⟩)] w λe w'=>e=.returned (.tuple #[])∧aj w' b 175 #[nE b,v]∧aa (λk=>k=b) w w':=by
 rcases hp with rfl|rfl
 ·have hs:w.shape? b=some (175,2):=by
   unfold aj at hb;simp[World.shape?,hb]
  refine(uP b w (hb.cell 0) hs (hb.frozen 0)).mono ?_;rintro e w' ⟨rfl,rfl⟩;exact⟨rfl,hb.set_ 0 _,(aa.refl (λk=>k=b) w).setCell (.inl rfl) _⟩
 ·refine(vH b w (hb.cell 0)).mono ?_
  rintro e w' ⟨rfl,rfl⟩;exact⟨rfl,hb,aa.refl _ _⟩
theorem rP{w0 w:World}{b n:Nat}{p v:Value}{bs:List Value}(hb0:w0.heap.size≤b)(hp:p=O none∨p=nE b)(hb:aj w b 175 #[p,v])(hr:aJ 5 w0 w v n bs)(r:Int)(LL: -2147483648≤r)(hr1:r≤2147483647)(hn:n+4≤140737488355328):
  Calls pQ 139 #[O (some ⟨b,0,none⟩),.int .i32 r] w λe w'=>e=.returned (.tuple #[I J (runeCells r).length,.nilIface])∧
   ∃v',aj w' b 175 #[nE b,v']∧aJ 5 w0 w' v' (n+(runeCells r).length) (bs++runeCells r)∧aa (λk=>k=b∨v.ownBlock=some k) w w':=by
 have hk4:=runeCells_le r;have HR:=h_ hr;have HB:=h_ hb;obtain⟨A,c,rfl,-,-,hcm,-⟩:=hr.shape;unfold maxLen at hcm;have hne:=hr.ne_blk hb xJ;clear hr hb;go_enter Tryz.func139,Tryz.ntmps139;go_wp2_with fail;refine(rO b w p _ hp HB.out).mono ?_;rintro e w1 ⟨rfl,hb1,gI⟩;have xf:aJ 5 w0 w1 (U A n c) n bs:=HR.out.far gI (λk hk=>by rw[hk];exact hb0) (λk hk e=>hne (by rw[hk,e]));have c1:=hb1.cell 1;simp at c1;have H1:=h_ (And.intro hb1 (And.intro gI xf));clear hb1 gI xf;go_wp2_with fail;refine(Tryz.utf8_AppendRune_plain w0.heap.size _ n bs r LL hr1 w1 H1.out.2.2.own hn H1.out.2.2.frm.size).mono ?_;rintro e w2 ⟨v',rfl,hown,o,hg⟩;obtain⟨hb1,gI,xf⟩:=H1.out;have hf2:aa (λk=>(Value.slice A n c).ownBlock=some k) w1 w2:=((aa.refl (λk=>(Value.slice A n c).ownBlock=some k) w1).alloc o).grown hg λk hk=>.inl hk
 have hr2:aJ 5 w0 w2 v' (n+(runeCells r).length) (bs++runeCells r):=⟨hown,xf.frm.next hf2 λk hk=>.inr (xf.own.lt k hk).1⟩;have hb2:=hb1.frm hf2 hne;obtain⟨A2,c2,rfl,-,-,NI,-⟩:=hr2.shape;unfold maxLen at NI;have d1:=hb2.cell 1;have f1:=hb2.frozen 1;simp at d1;have H2:=h_ (And.intro hb2 (And.intro hf2 hr2));clear hb2 hf2 hr2 hown hg hb1 gI xf c1;obtain⟨L,hL⟩:∃L,(runeCells r).length=L:=⟨_,rfl⟩;rw[hL] at hk4 ⊢;have Cf:=h_ hL;clear hL;go_wp2
 go_ret2
 obtain⟨hb2,hf2,hr2⟩:=H2.out;simp only[Cf.out] at hr2 ⊢;have LM:=hr2.ne_blk hb2 xJ;have e1:(n:Int)+(L:Int)-(n:Int)=(L:Int):=by omega
 refine⟨by simp[e1],_,hb2.set_ 1 _,hr2.far ((aa.refl (λk=>k=b) w2).setCell (.inl rfl) _) (λk hk=>by rw[hk];exact hb0) (λk hk e=>LM (by rw[hk,e])),?_⟩;refine((H1.out.2.1.mono λk hk=>.inl hk).trans (hf2.mono λk hk=>.inr hk)).trans ((aa.refl (λk=>k=b∨(Value.slice A n c).ownBlock=some k) w2).setCell (.inl (.inl rfl)) _)
theorem qb(w:World)(k:Nat)(s:ByteArray)(pos:Nat):aa (λi=>i=k) w (w.iterAt k s pos):=by
 refine⟨rfl,rfl,rfl,by rw[Lib.iterAt_size];exact Nat.le_refl _,λi _ hn=>Lib.iterAt_other _ _ _ _ _ hn⟩
theorem tW(s:ByteArray)(pos:Nat)(h:pos<s.size):bV ((aU s).drop pos)=(Utf8.decode s pos).1::bV ((aU s).drop (pos+(Utf8.decode s pos).2))∧pos+(Utf8.decode s pos).2≤s.size∧1≤(Utf8.decode s pos).2:=by
 have hne:(aU s).drop pos≠[]:=by
  intro e;have:=congrArg List.length e;rw[List.length_drop,←bg] at this;simp at this;omega
 have e:=decodeL_drop s pos;have hle:=decodeL_le _ hne;have hw:=decodeL_width ((aU s).drop pos);rw[List.length_drop,←bg,e] at hle;rw[e] at hw;refine⟨?_,by omega,hw⟩;rw[qP _ hne,e,List.drop_drop]
theorem xg(l:List Nat)(r:Nat)(acc:List UInt8):acc++enc ((r::l).map d8)=(acc++ku (d8 r))++enc (l.map d8):=by
 rw[List.map_cons,kw,List.append_assoc]
theorem EC(s:ByteArray)(w:World)(hs:s.size≤1000000):
  Calls pQ 179 #[V s] w λe w'=>e=.returned (V (kC (nc (aU s))))∧aa ag w w':=by
 have hb0:=aj.new w 175 #[O none,U none 0 0];go_enter Tryz.func179,Tryz.ntmps179;go_wp2
 go_loopw [] (λwr=>∃(pos:Nat) (acc:List UInt8) (p v:Value),(p=O none∨p=nE w.heap.size)∧aj wr w.heap.size 175 #[p,v]∧aJ 5 w wr v acc.length (byteCells acc)∧
  wr.heap[w.heap.size+1]? =some (.stringIter s pos)∧acc++enc ((bV ((aU s).drop pos)).map d8)=nc (aU s)∧pos≤s.size∧acc.length≤4 * pos) (λwr=>s.size-wr.iterPos (w.heap.size+1))
 case atStart=>
  have nB:aa ag w (w.alloc (.cells #[O none,U none 0 0] 175)):=(fR w).alloc _;refine⟨0,[],O none,U none 0 0,.inl rfl,hb0.alloc _,aJ.nil_ _ (nB.alloc _),?_,by simp[nc,jF],Nat.zero_le _,by simp⟩;have:=World.iter_heap (w.alloc (.cells #[O none,U none 0 0] 175)) s 0
  simpa using this
 case round=>
  obtain⟨pos,acc,p,v,hp,hb,hr,hit,yA,RM,GL⟩:=hrel;have HB:=h_ hb;have HR:=h_ hr;have HA:=h_ yA;have HP:=h_ hp;have hfr:=hr.frm;have hbl:=hb.lt;clear hb hr yA hp
  by_cases hlt:pos<s.size
  ·have ED:∀ty,(Instr.next (O (some ⟨w.heap.size+1,0,none⟩)) true ty).run pQ wr=_:=λty=>Lib.run_next_any_at wr (w.heap.size+1) s pos ty hit hlt
   obtain⟨IY,Cm,RN⟩:=tW s pos hlt;have hv:=pB ((aU s).drop pos);rw[decodeL_drop s pos] at hv;have qc:=Lib.iterAt_heap wr (w.heap.size+1) s pos (pos+(Utf8.decode s pos).2) hit;have IZ:=qb wr (w.heap.size+1) s (pos+(Utf8.decode s pos).2);have HD:=h_ IY;have GM:v.ownBlock≠some (w.heap.size+1):=HR.out.ne_obj hit λ_ _ _ h=>by cases h
   clear IY;generalize (Utf8.decode s pos).1=R at *;generalize (Utf8.decode s pos).2=K at *;have im:Hid (aj (wr.iterAt (w.heap.size+1) s (pos+K)) w.heap.size 175 #[p,v]):=HB.out.frm IZ (by omega);have gF:Hid (aJ 5 w (wr.iterAt (w.heap.size+1) s (pos+K)) v acc.length (byteCells acc)):=HR.out.far IZ (λk hk=>by omega) (λk hk e=>GM (by rw[hk,e]));generalize wr.iterAt (w.heap.size+1) s (pos+K)=wi at *;have hR:R≤1114111:=by unfold Vr at hv;omega
   have Nt:Vr (d8 R):=qQ hv;have hF:d8 R≤1114111:=by unfold Vr at Nt;omega
   have KF:=λW=>EA R W hR
   have KW:=h_ (rP (Nat.le_refl _) HP.out im.out gF.out (d8 R) (by omega) (by omega) (by omega));clear hv Nt IZ;go_wp2_with (first|(go_at_call 211;refine(KF _).mono ?_;rintro e w' ⟨rfl,rfl⟩)|(go_at_call 139;refine KW.out.mono ?_;rintro e w2 ⟨rfl,v',hb2,hr2,hf2⟩;have HX:=h_ (And.intro hb2 (And.intro hr2 hf2));clear hb2 hr2 hf2));go_roundw
   case rel=>
    obtain⟨hb2,hr2,hf2⟩:=HX.out
    have LN:w2.heap[w.heap.size+1]? =some (.stringIter s (pos+K)):=by
     rw[hf2.block _ (ed qc) (λh=>by
      rcases h with h|h
      ·omega
      ·exact gF.out.ne_obj qc (λ_ _ _ h=>by cases h) h)]
     exact qc
    have hl4:=runeCells_le (d8 R:Int);rw[runeCells_length] at hl4;refine⟨pos+K,acc++ku (d8 R),nE w.heap.size,v',.inr rfl,hb2,?_,LN,?_,Cm,?_⟩
    ·have e1:(acc++ku (d8 R)).length=acc.length+(runeCells (d8 R:Int)).length:=by rw[List.length_append,runeCells_length];rfl
     rw[e1,byteCells_append];have e2:byteCells (ku (d8 R))=runeCells (d8 R:Int):=byteCells_encodeRune _;rw[e2];exact hr2
    ·rw[←HA.out,HD.out,xg]
    ·have:(ku (d8 R)).length=(encodeRune (d8 R:Int)).length:=rfl
     rw[List.length_append,this];omega
   case measure=>
    obtain⟨hb2,hr2,hf2⟩:=HX.out
    have LN:w2.heap[w.heap.size+1]? =some (.stringIter s (pos+K)):=by
     rw[hf2.block _ (ed qc) (λh=>by
      rcases h with h|h
      ·omega
      ·exact gF.out.ne_obj qc (λ_ _ _ h=>by cases h) h)]
     exact qc
    simp only[World.iterPos,LN,hit];omega
  ·have ED:∀ty,(Instr.next (O (some ⟨w.heap.size+1,0,none⟩)) true ty).run pQ wr=_:=λty=>Lib.run_next_end_at wr (w.heap.size+1) s pos ty hit hlt
   have hI:Lib.IsBuilder 175 5 w.heap.size w.heap.size (byteCells acc) wr:=by
    have h1:BuilderAt 175 5 w.heap.size w.heap.size p (byteCells acc) wr:=⟨Nat.le_refl _,v,HB.out,by rw[Lib.byteCells_length];exact HR.out.own,HR.out.ne_blk HB.out xJ⟩;rcases HP.out with e|e
    ·subst e;exact .inl h1
    ·subst e;exact .inr h1
   have KS:=h_ (Tryz.Builder_String_any w.heap.size w.heap.size acc wr hI (by omega))
   have EE:Hid (acc=nc (aU s)):=by
    have h1:(aU s).drop pos=[]:=List.drop_eq_nil_iff.2 (by rw[←bg];omega);have h2:=HA.out;rw[h1,p9,List.map_nil,sO,List.append_nil] at h2;exact h2
   have HF:=h_ hfr;clear hI hfr;go_wp2_with (go_at_call 140;refine KS.out.mono ?_;rintro e w1 ⟨rfl,sQ⟩);go_ret;have hs0:=HF.out.size;have hfb:aa (λk=>w.heap.size≤k) wr w1:=⟨sQ.os,sQ.tape,sQ.output,sQ.size,λi _ hn=>sQ.block i (by omega)⟩;exact⟨by rw[EE.out];rfl,HF.out.next hfb λi hi=>.inr hi⟩
theorem pC(w:List Nat)(k:Nat):enc (w.take k)++enc (w.drop k)=enc w:=by rw[←kz,List.take_append_drop]
theorem rQ(w:List Nat)(k:Nat)(h:k<w.length):enc (w.take (k+1))=enc (w.take k)++ku w[k]:=by
 rw[List.take_succ_eq_append_getElem h,kz];simp[enc]
theorem vI(w:List Nat)(hv:∀r∈w,Vr r)(k:Nat)(h:k<w.length):Utf8.decode (kC (enc w)) (enc (w.take k)).length=(w[k],(ku w[k]).length)∧(enc (w.take k)).length<(kC (enc w)).size:=by
 have hd:(aU (kC (enc w))).drop (enc (w.take k)).length=ku w[k]++enc (w.drop (k+1)):=by
  rw[mE,←pC w k,List.drop_left']
  ·rw[List.drop_eq_getElem_cons h,kw]
  ·rfl
 constructor
 ·rw[←decodeL_drop,hd]
  exact rY _ (hv _ (List.getElem_mem h)) _
 ·rw[bg,mE,←pC w k,List.length_append,List.drop_eq_getElem_cons h,kw,List.length_append]
  have:=sP w[k];omega
theorem EF(x:List Nat)(hv:∀r∈x,Vr r)(w:World):
  Calls pQ 182 #[V (kC (enc x))] w λe w'=>e=.returned (V (kC (enc (x.take 32))))∧aa ag w w':=by
 go_enter Tryz.func182,Tryz.ntmps182;go_wp2
 go_loopw [3] (λn wr=>∃k:Nat,k≤x.length∧k≤32∧n=I J k∧wr.heap[w.heap.size]? =some (.stringIter (kC (enc x)) (enc (x.take k)).length)∧aa ag w wr) (λn wr=>33-(intOf n).toNat)
 case atStart=>exact⟨0,Nat.zero_le _,by omega,rfl,World.iter_heap w _ 0,(fR w).alloc _⟩
 case round=>
  obtain⟨k,hk,P0,rfl,hit,hfr⟩:=hrel;have HF:=h_ hfr;have hsz:=hfr.size;clear hfr
  by_cases hlt:k<x.length
  ·obtain⟨IY,Cm⟩:=vI x hv k hlt
   have ED:∀ty,(Instr.next (O (some ⟨w.heap.size,0,none⟩)) true ty).run pQ wr=_:=λty=>Lib.run_next_any_at wr w.heap.size (kC (enc x)) (enc (x.take k)).length ty hit Cm
   rw[IY] at ED;simp only at ED;have Gg:=rQ x k hlt;have hle:(enc (x.take (k+1))).length=(enc (x.take k)).length+(ku x[k]).length:=by rw[Gg,List.length_append]
   have qc:=Lib.iterAt_heap wr w.heap.size (kC (enc x)) (enc (x.take k)).length ((enc (x.take k)).length+(ku x[k]).length) hit;have HI:Hid ((wr.iterAt w.heap.size (kC (enc x)) ((enc (x.take k)).length+(ku x[k]).length)).heap[w.heap.size]? =some (.stringIter (kC (enc x)) (enc (x.take (k+1))).length)):=by rw[hle];exact qc
   have kX:Hid (aa ag w (wr.iterAt w.heap.size (kC (enc x)) ((enc (x.take k)).length+(ku x[k]).length))):=HF.out.next (qb wr w.heap.size _ _) λi hi=>.inr (by rw[hi];exact Nat.le_refl _)
   clear qc Gg hle IY
   have HX:Hid ((kC (enc x)).extract 0 (enc (x.take k)).length=kC (enc (x.take k))):=by
    apply vg;rw[mE];show ((kC (enc x)).extract 0 (enc (x.take k)).length).data.toList=_
    rw[extract_data];show ((aU (kC (enc x))).drop 0).take _=_
    rw[mE,←pC x k];simp
   generalize (ku x[k]).length=K at *;generalize wr.iterAt w.heap.size (kC (enc x)) ((enc (x.take k)).length+K)=wi at *;obtain⟨E,hE⟩:∃E,(enc (x.take k)).length=E:=⟨_,rfl⟩;rw[hE] at Cm ED HX;clear hE hit;generalize hS:kC (enc x)=S at *
   by_cases Jc:k=32
   ·subst Jc
    have e1:(0:Int)≤(E:Int):=Int.natCast_nonneg _;go_wp2;go_ret;exact⟨by first|rfl|(rw[HX.out];rfl),kX.out⟩
   ·have ST:decide ((k:Int)=32)=false:=by simp;omega
    have SU:((k:Int)==32)=false:=by simp;omega
    go_wp2;go_roundw
    case rel=>exact⟨k+1,by omega,by omega,by go_num,HI.out,kX.out⟩
    case measure=>simp[intOf];omega
  ·obtain rfl:k=x.length:=by omega
   have hx:x.take x.length=x:=List.take_of_length_le (Nat.le_refl _);rw[hx] at hit;have Cm:¬(enc x).length<(kC (enc x)).size:=by rw[bg,mE];omega
   have ED:∀ty,(Instr.next (O (some ⟨w.heap.size,0,none⟩)) true ty).run pQ wr=_:=λty=>Lib.run_next_end_at wr w.heap.size (kC (enc x)) (enc x).length ty hit Cm
   have HX:Hid (x.take 32=x):=List.take_of_length_le P0;clear hit Cm;generalize hS:kC (enc x)=S at *;go_wp2;go_ret;exact⟨by rw[HX.out,hS];rfl,HF.out⟩
theorem uQ(w:World):PredAtRunes pQ 180 #[] (λr=>!cJ r) w:=λW r hr _=>by
 unfold FnGives;go_enter Tryz.func180,Tryz.ntmps180;go_wp2_with (go_at_call 181;refine(Ae r _ hr).mono ?_;rintro e w' ⟨rfl,rfl⟩);go_ret;exact⟨rfl,0,rfl⟩
def uR(ws:List (List Nat))(k:Nat):List Value:=((ws.take k).map λx=>Value.string (kC (enc (x.take 32))))++(ws.drop k).map λx=>Value.string (kC (enc x))
theorem Ed(ws:List (List Nat))(k:Nat)(h:k<ws.length):(uR ws k)[k]? =some (V (kC (enc ws[k]))):=by
 unfold uR;rw[List.getElem?_append_right (by simp;omega)];have:k-((ws.take k).map λx=>Value.string (kC (enc (x.take 32)))).length=0:=by simp;omega
 rw[this,List.drop_eq_getElem_cons h];rfl
theorem GN(ws:List (List Nat))(k:Nat)(h:k<ws.length):(uR ws k).set k (V (kC (enc (ws[k].take 32))))=uR ws (k+1):=by
 unfold uR;have hl:((ws.take k).map λx=>Value.string (kC (enc (x.take 32)))).length=k:=by simp;omega
 rw[List.set_append_right _ _ (by omega),hl,Nat.sub_self,List.drop_eq_getElem_cons h,List.take_succ_eq_append_getElem h,List.map_cons,List.set_cons_zero,List.map_append,List.map_cons,List.map_nil,List.append_assoc,List.singleton_append]
def Ee(w:World)(l:List ByteArray)(e:Ending)(w':World):Prop:=
 ∃A c,e=.returned (U A l.length c)∧aJ 9 w w' (U A l.length c) l.length (l.map Value.string)
theorem xK(s:ByteArray):mW s=(bR [] (jF (aU s))).map λx=>kC (enc (x.take 32)):=by
 simp[mW,tU,vF,List.map_map,Function.comp_def,kC]
theorem EG(s:ByteArray)(w:World)(hs:s.size≤1000000):
  Calls pQ 147 #[V s] w (Ee w (mW s)):=by
 have P1:=po (jF (aU s));have hrl:=nD (aU s)
 have hsz:(kC (nc (aU s))).size≤4000000:=by
  rw[bg,mE];have:(jF (aU s)).length=(bV (aU s)).length:=by simp[jF]
  rw[←bg] at hrl;unfold nc;omega
 have zP:=Ck (jF (aU s)) (pp _);have Ah:=xK s
 have hval:∀x∈bR [] (jF (aU s)),∀r∈x,Vr r:=λx hx r hr=>by
  rcases rZ _ _ x hx r hr with h|h
  ·cases h
  ·exact pp _ r h
 have eg:∀args w,(callFunc 180 args).run pQ w=.ok (.enter 180 args) w:=enters_of Tryz.func180 (by kernel_rfl) rfl;have KF:=λW=>Tryz.strings_FieldsFunc_runes 180 #[] eg (λr=>!cJ r) (kC (nc (aU s))) W (by omega) (uQ W)
 rw[show kC (nc (aU s))=kC (enc (jF (aU s))) from rfl] at KF hsz;rw[zP] at KF;have KU:=EC s w hs;rw[show kC (nc (aU s))=kC (enc (jF (aU s))) from rfl] at KU;generalize bR [] (jF (aU s))=ws at *;have HW:=h_ Ah;have HV:=h_ hval;have SV:=h_ KF;have SX:=h_ KU;generalize kC (enc (jF (aU s)))=S at *;clear P1 hrl zP Ah hval eg KF KU;go_enter Tryz.func147,Tryz.ntmps147;go_wp2_with fail;refine SX.out.mono ?_;rintro e w1 ⟨rfl,f1⟩;go_wp2_with fail;refine(SV.out w1).mono ?_;rintro e w2 ⟨A,rfl,hA,hown,sQ⟩;rw[List.length_map,List.map_map] at hown
 have LL:aJ 9 w w2 (U (some ⟨A,0,none⟩) ws.length ws.length) ws.length (uR ws 0):=(⟨by
  have:uR ws 0=ws.map (Value.string ∘ λw=>kC (enc w)):=by simp[uR,Function.comp_def]
  rw[this];exact hown,aa.of_below sQ⟩:aJ 9 w1 w2 (U (some ⟨A,0,none⟩) ws.length ws.length) ws.length (uR ws 0)).since f1
 have hm:ws.length≤9223372036854775807:=by
  obtain⟨_,c0,e0,-,h1,h2,-⟩:=LL.shape;unfold maxLen at h2;omega
 have HR:=h_ LL;rw[List.length_map];clear hown sQ LL f1;go_wp2
 go_loopw [11] (λi wr=>∃k:Nat,k≤ws.length∧i=I J k∧aJ 9 w wr (U (some ⟨A,0,none⟩) ws.length ws.length) ws.length (uR ws k)) (λi _=>ws.length-(intOf i).toNat)
 case atStart=>exact⟨0,Nat.zero_le _,rfl,HR.out⟩
 case round=>
  obtain⟨k,hk,rfl,hrow⟩:=hrel;have eh:=h_ hrow
  by_cases hlt:k<ws.length
  ·obtain⟨g,hg,hcell,-,-,-,-⟩:=hrow.set_ k hlt undef
   injection hg with hg;injection hg with hg;subst hg;rw[Ed ws k hlt] at hcell;have hx:=HV.out ws[k] (List.getElem_mem hlt);have KS:=h_ (EF ws[k] hx wr);have sg:=h_ (GN ws k hlt);have hk0:(0:Int)≤(k:Int):=Int.natCast_nonneg _;have vh:(k:Int)<(ws.length:Int):=by omega
   clear hrow hx;go_wp2_with fail;refine KS.out.mono ?_;rintro e w3 ⟨rfl,f3⟩;obtain⟨g,hg,si,SY,hrow3,-,vJ⟩:=(eh.out.more f3).set_ k hlt (V (kC (enc (ws[k].take 32))));injection hg with hg;injection hg with hg;subst hg;rw[Ed ws k hlt] at si;rw[sg.out] at hrow3;have nG:=h_ hrow3;clear hrow3 hcell f3;generalize kC (enc (ws[k].take 32))=T at *;go_wp2;go_roundw
   case rel=>exact⟨k+1,by omega,by go_num,nG.out⟩
   case measure=>simp[intOf];omega
  ·obtain rfl:k=ws.length:=by omega
   clear hrow;go_wp2;go_ret;refine⟨some ⟨A,0,none⟩,ws.length,?_,?_⟩
   ·rw[HW.out,List.length_map];rfl
   ·rw[HW.out,List.length_map,List.map_map]
    have:uR ws ws.length=ws.map (Value.string ∘ λx=>kC (enc (x.take 32))):=by simp[uR,Function.comp_def]
    rw[←this];exact eh.out
end Go.Proofs.YtaecjmiobllhmaaGreat
