/- Words. -/
import Derived.Test.YtaecjmiobllhmaaGreatGp01
import Derived.Test.YtaecjmiobllhmaaGreatGp02
import Derived.Test.YtaecjmiobllhmaaGreatGp03
import Derived.BigCall
set_option linter.unusedVariables false
set_option linter.unusedSimpArgs false
set_option maxRecDepth 100000
set_option maxHeartbeats 16000000
namespace Go.Proofs.YtaecjmiobllhmaaGreat
open Go.RowKit Go.Lib
section
structure RowIn(e:TypeId)(w0 w1:World)(v:Value)(n:Nat)(xs:List Value):Prop where
 own:w1.ownsRow w0.heap.size e 1 v n xs
 frm:Frm Nix w0 w1
section
variable {P:Program} {e:TypeId} {w0 w1 w2:World} {v:Value} {n:Nat} {xs:List Value}
theorem RowIn.nil_(e:TypeId)(h:Frm Nix w0 w1):RowIn e w0 w1 (.slice none 0 0) 0 []:=⟨World.ownsRow_nil _ _ _ _,h⟩
theorem RowIn.empty(e:TypeId)(h:Frm Nix w0 w1):RowIn e w0 (w1.alloc (.cells #[] e)) (.slice (some ⟨w1.heap.size,0,none⟩) 0 0) 0 []:=
 ⟨⟨rfl,.inr ⟨_,0,#[],rfl,h.size,heap_alloc_new w1 _,Nat.le_refl _,Nat.zero_le _,rfl,rfl⟩⟩,h.alloc _⟩
theorem RowIn.lit(e:TypeId)(h:Frm Nix w0 w1)(xs:List Value)(hx:xs.length≤maxLen):RowIn e w0 (w1.alloc (.cells xs.toArray e)) (.slice (some ⟨w1.heap.size,0,none⟩) xs.length xs.length) xs.length xs:=
 ⟨⟨by simp,.inr ⟨_,xs.length,xs.toArray,rfl,h.size,heap_alloc_new w1 _,Nat.le_refl _,hx,by simp,by simp⟩⟩,h.alloc _⟩
theorem RowIn.more(h:RowIn e w0 w1 v n xs)(hf:Frm Nix w1 w2):RowIn e w0 w2 v n xs:=⟨own_frm h.own hf λ_ _=>id,h.frm.trans hf⟩
theorem RowIn.far{F:Nat→Prop}(h:RowIn e w0 w1 v n xs)(hf:Frm F w1 w2)(hF:∀k,F k→w0.heap.size≤k)(hd:∀k,v.ownBlock=some k→¬F k):RowIn e w0 w2 v n xs:=
 ⟨own_frm h.own hf hd,h.frm.next hf λk hk=>.inr (hF k hk)⟩
theorem RowIn.shape(h:RowIn e w0 w1 v n xs):∃A c,v=.slice A n c∧(A=none→c=0)∧n≤c∧c≤maxLen∧(∀a,A=some a→a.off=0∧a.spot=none∧w0.heap.size≤a.block∧a.block<w1.heap.size):=own_shape h.own
theorem RowIn.rd{A:Option Addr}{c:Nat}(h:RowIn e w0 w1 (.slice A n c) n xs):Rd w1 (λk=>(Value.slice A n c).ownBlock=some k) 1 A n xs:=Rd.of_own h.own
theorem RowIn.len(h:RowIn e w0 w1 v n xs):xs.length=n:=by have:=h.own.1;omega
theorem RowIn.since{wb:World}(h:RowIn e w1 w2 v n xs)(hf:Frm Nix wb w1):RowIn e wb w2 v n xs:=
 ⟨own_base h.own λk hk=>by have:=(h.own.lt k hk).1;have:=hf.size;omega,hf.trans h.frm⟩
theorem RowIn.ne_obj(h:RowIn e w0 w1 v n xs){k:Nat}{o:Obj}(ho:w1.heap[k]? =some o)(hne:∀c t f,o≠.cells c t f):v.ownBlock≠some k:=by
 rcases h.own.2 with ⟨rfl,_⟩ | ⟨g,cap,cur,rfl,_,hh,_⟩
 ·simp[Value.ownBlock]
 ·intro he
  have:g=k:=by simpa [Value.ownBlock] using he
  subst this;rw[hh] at ho;injection ho with ho;exact hne _ _ _ ho.symm
theorem RowIn.ne_blk(h:RowIn e w0 w1 v n xs){g:Nat}{t:TypeId}{cs:Array Value}(hg:Blk w1 g t cs)(hne:e≠t):v.ownBlock≠some g:=own_blk_ne h.own hg hne
structure ElemOk(P:Program)(t e:TypeId)(bytes:Nat):Prop where
 t:P.underlying t=some (.slice e)
 i:∃z:Value,(P.info? e).map (λi=>(i.zero,i.size,i.bytes))=some (some z,1,bytes)∧z.cells.size=1
theorem RowIn.app{t:TypeId}{bytes:Nat}(E:ElemOk P t e bytes)(h:RowIn e w0 w1 v n xs){G:Nat→Prop}{A:Option Addr}{m:Nat}{ys:List Value}(c:Nat)(hr:Rd w1 G 1 A m ys)(h1:∀u∈ys,u.oneCell'=true)
  (hn:n+m≤maxLen) (hb:(n+m) * bytes≤140737488355328):
  ∃v' w2,(∀ty,(Builtin.append_ #[t,t] ty #[v,.slice A m c]).run P w1=.ok v' w2)∧RowIn e w0 w2 v' (n+m) (xs++ys)∧Frm (λk=>v.ownBlock=some k) w1 w2∧(v'.ownBlock=v.ownBlock∨v'.ownBlock=some w1.heap.size):=by
 obtain⟨z,hi,hzs⟩:=E.i;obtain⟨i0,hi0,hz0,hz1,hz2⟩:=info_parts hi;obtain⟨v1,w2,hrun,hown,hg,hat⟩:=run_append_any (P:=P) w1 w0.heap.size t e i0 z 1 bytes E.t hi0 hz0 hz1 hz2 hzs (by decide) v n xs h.own _ A m c ys hr h1 hn hb h.frm.size;exact⟨v1,w2,hrun,⟨hown,h.frm.grown hg λk hk=>.inr (h.own.lt k hk).1⟩,(Frm.refl _ w1).grown hg λk hk=>.inl hk,hat⟩
theorem RowIn.push{t:TypeId}{bytes:Nat}(E:ElemOk P t e bytes)(h:RowIn e w0 w1 v n xs)(x:Value)(h1:x.oneCell'=true)(hn:n+1≤maxLen)(hb:(n+1) * bytes≤140737488355328):
  ∃v' w2,(∀ty,(Builtin.append_ #[t,t] ty #[v,.slice (some ⟨w1.heap.size,0,none⟩) 1 1]).run P (w1.alloc (.cells #[x] e))=.ok v' w2)∧RowIn e w0 w2 v' (n+1) (xs++[x])∧Frm (λk=>v.ownBlock=some k) (w1.alloc (.cells #[x] e)) w2∧(v'.ownBlock=v.ownBlock∨v'.ownBlock=some (w1.heap.size+1)):=by
 obtain⟨v',w2,r,h2,h3,h4⟩:=(h.more ((fR w1).alloc (.cells #[x] e))).app E (ys:=[x]) 1 (Rd.of_obj (heap_alloc_new w1 (.cells #[x] e)) 1 rfl) (λu hu=>by simp at hu;subst hu;exact h1) hn hb;exact⟨v',w2,r,h2,h3,by simpa using h4⟩
theorem RowIn.set_{A:Option Addr}{c:Nat}(h:RowIn e w0 w1 (.slice A n c) n xs)(i:Nat)(hi:i<n)(u:Value):
  ∃g,A=some ⟨g,0,none⟩∧w1.cell? ⟨g,i,none⟩=xs[i]?∧w1.frozen? ⟨g,i,none⟩=false∧RowIn e w0 (w1.setCell ⟨g,i,none⟩ u) (.slice A n c) n (xs.set i u)∧w0.heap.size≤g∧g<w1.heap.size:=by
 have hl:=h.len;rcases h.own.2 with ⟨hv,hn⟩ | ⟨g,cap,cur,hv,hg,hh,hnc,hm,hs,ht⟩
 ·injection hv with e1 e2 e3
  omega
 ·injection hv with e1 e2 e3
  subst e1;subst e3;have hb:Blk w1 g e cur:=hh;have hci:i<cur.size:=by omega
  have hx:cur[i]? =xs[i]?:=by
   rw[←ht,List.getElem?_take,if_pos (by omega)];simp
  refine⟨g,rfl,by rw[hb.cell,hx],hb.frozen i,⟨⟨by rw[List.length_set];exact h.own.1,.inr ⟨g,c,cur.setIfInBounds i u,rfl,hg,hb.set_ i u,hnc,hm,by rw[Array.size_setIfInBounds];exact hs,?_⟩⟩,h.frm.setCell (.inr hg) u⟩,hg,hb.lt⟩;rw[←ht,Array.toList_setIfInBounds,List.take_set]
end
end
theorem sizeB:(Tryz.prog.info? 175).map (·.size)=some 2:=by kernel_rfl
theorem liesB:liesAt Tryz.prog Tryz.prog.depth 175 (2 / Tryz.prog.cellsOf 175) 0 175 1=true:=by kernel_rfl
theorem copyCheck_fresh(b:Nat)(w:World)(h0:w.cell? ⟨b,0,none⟩=some (.pointer none))(hsh:w.shape? b=some (175,2))(hf:w.frozen? ⟨b,0,none⟩=false):
  Calls Tryz.prog 173 #[.pointer (some ⟨b,0,none⟩)] w λe w'=>e=.returned (.tuple #[])∧w'=w.setCell ⟨b,0,none⟩ (.pointer (some ⟨b,0,none⟩)):=by
 obtain⟨j,hj,hjs⟩:=Option.map_eq_some_iff.1 sizeB;go_enter Tryz.func173,Tryz.ntmps173;go_wp2;rw[Lib.run_to_unsafe w ⟨b,0,none⟩ Tryz.underlying172 Tryz.underlying218 hj (by rw[hjs];decide) hsh (Nat.zero_lt_succ 1)];simp only[Result.andThen];rw[Oper.upon_value];go_wp2;rw[run_callFunc_extern Tryz.func208 (by kernel_rfl) (by kernel_rfl) (by kernel_rfl) (e:=Extern.AbiNoEscape.same) (by kernel_rfl)];rw[Lib.run_noEscape];simp only[Result.andThen];rw[Oper.upon_value];go_wp2;rw[Lib.run_from_unsafe w ⟨b,0,none⟩ Tryz.underlying218 Tryz.underlying172 hj hsh liesB];simp only[Result.andThen];rw[Oper.upon_value];go_wp2
 go_end0
 exact⟨rfl,rfl⟩
theorem copyCheck_used(b:Nat)(w:World)(h0:w.cell? ⟨b,0,none⟩=some (.pointer (some ⟨b,0,none⟩))):
  Calls Tryz.prog 173 #[.pointer (some ⟨b,0,none⟩)] w λe w'=>e=.returned (.tuple #[])∧w'=w:=by
 go_enter Tryz.func173,Tryz.ntmps173;obtain⟨j,hj,_⟩:=Option.map_eq_some_iff.1 sizeB;go_wp2;rw[Lib.run_neq_ptr_same w _ Tryz.underlying172 hj];go_wp2
 go_end0
 exact⟨rfl,rfl⟩
theorem ne_ub:5≠175:=by decide
def selfP(b:Nat):Value:=.pointer (some ⟨b,0,none⟩)
theorem copyCheck_any(b:Nat)(w:World)(p v:Value)(hp:p=.pointer none∨p=selfP b)(hb:Blk w b 175 #[p,v]):
  Calls Tryz.prog 173 #[.pointer (some ⟨b,0,none⟩)] w λe w'=>e=.returned (.tuple #[])∧Blk w' b 175 #[selfP b,v]∧Frm (λk=>k=b) w w':=by
 rcases hp with rfl | rfl
 ·have hs:w.shape? b=some (175,2):=by
   unfold Blk at hb;simp[World.shape?,hb]
  refine(copyCheck_fresh b w (hb.cell 0) hs (hb.frozen 0)).mono ?_;rintro e w' ⟨rfl,rfl⟩;exact⟨rfl,hb.set_ 0 _,(Frm.refl (λk=>k=b) w).setCell (.inl rfl) _⟩
 ·refine(copyCheck_used b w (hb.cell 0)).mono ?_
  rintro e w' ⟨rfl,rfl⟩;exact⟨rfl,hb,Frm.refl _ _⟩
theorem WriteRune_any{w0 w:World}{b n:Nat}{p v:Value}{bs:List Value}(hb0:w0.heap.size≤b)(hp:p=.pointer none∨p=selfP b)(hb:Blk w b 175 #[p,v])(hr:RowIn 5 w0 w v n bs)(r:Int)(hr0: -2147483648≤r)(hr1:r≤2147483647)(hn:n+4≤140737488355328):
  Calls Tryz.prog 139 #[.pointer (some ⟨b,0,none⟩),.int .i32 r] w λe w'=>e=.returned (.tuple #[.int .i64 (runeCells r).length,.nilIface])∧
   ∃v',Blk w' b 175 #[selfP b,v']∧RowIn 5 w0 w' v' (n+(runeCells r).length) (bs++runeCells r)∧Frm (λk=>k=b∨v.ownBlock=some k) w w':=by
 have hk4:=runeCells_le r;have HR:=h_ hr;have HB:=h_ hb;obtain⟨A,c,rfl,-,-,hcm,-⟩:=hr.shape;unfold maxLen at hcm;have hne:=hr.ne_blk hb ne_ub;clear hr hb;go_enter Tryz.func139,Tryz.ntmps139;go_wp2_with fail;refine(copyCheck_any b w p _ hp HB.out).mono ?_;rintro e w1 ⟨rfl,hb1,hf1⟩;have hr1':RowIn 5 w0 w1 (.slice A n c) n bs:=HR.out.far hf1 (λk hk=>by rw[hk];exact hb0) (λk hk e=>hne (by rw[hk,e]));have c1:=hb1.cell 1;simp at c1;have H1:=h_ (And.intro hb1 (And.intro hf1 hr1'));clear hb1 hf1 hr1';go_wp2_with fail;refine(Tryz.utf8_AppendRune_plain w0.heap.size _ n bs r hr0 hr1 w1 H1.out.2.2.own hn H1.out.2.2.frm.size).mono ?_;rintro e w2 ⟨v',rfl,hown,o,hg⟩;obtain⟨hb1,hf1,hr1'⟩:=H1.out;have hf2:Frm (λk=>(Value.slice A n c).ownBlock=some k) w1 w2:=((Frm.refl (λk=>(Value.slice A n c).ownBlock=some k) w1).alloc o).grown hg λk hk=>.inl hk
 have hr2:RowIn 5 w0 w2 v' (n+(runeCells r).length) (bs++runeCells r):=⟨hown,hr1'.frm.next hf2 λk hk=>.inr (hr1'.own.lt k hk).1⟩;have hb2:=hb1.frm hf2 hne;obtain⟨A2,c2,rfl,-,-,hcm2,-⟩:=hr2.shape;unfold maxLen at hcm2;have d1:=hb2.cell 1;have f1:=hb2.frozen 1;simp at d1;have H2:=h_ (And.intro hb2 (And.intro hf2 hr2));clear hb2 hf2 hr2 hown hg hb1 hf1 hr1' c1;obtain⟨L,hL⟩:∃L,(runeCells r).length=L:=⟨_,rfl⟩;rw[hL] at hk4 ⊢;have HLn:=h_ hL;clear hL;go_wp2
 go_ret2
 obtain⟨hb2,hf2,hr2⟩:=H2.out;simp only[HLn.out] at hr2 ⊢;have hne2:=hr2.ne_blk hb2 ne_ub;have e1:(n:Int)+(L:Int) - (n:Int)=(L:Int):=by omega
 refine⟨by simp[e1],_,hb2.set_ 1 _,hr2.far ((Frm.refl (λk=>k=b) w2).setCell (.inl rfl) _) (λk hk=>by rw[hk];exact hb0) (λk hk e=>hne2 (by rw[hk,e])),?_⟩;refine((H1.out.2.1.mono λk hk=>.inl hk).trans (hf2.mono λk hk=>.inr hk)).trans ((Frm.refl (λk=>k=b∨(Value.slice A n c).ownBlock=some k) w2).setCell (.inl (.inl rfl)) _)
theorem frm_iterAt(w:World)(k:Nat)(s:ByteArray)(pos:Nat):Frm (λi=>i=k) w (w.iterAt k s pos):=by
 refine⟨rfl,rfl,rfl,by rw[Lib.iterAt_size];exact Nat.le_refl _,λi _ hn=>Lib.iterAt_other _ _ _ _ _ hn⟩
theorem drop_step(s:ByteArray)(pos:Nat)(h:pos<s.size):runesD ((bys s).drop pos)=(Utf8.decode s pos).1::runesD ((bys s).drop (pos+(Utf8.decode s pos).2))∧pos+(Utf8.decode s pos).2≤s.size∧1≤(Utf8.decode s pos).2:=by
 have hne:(bys s).drop pos≠[]:=by
  intro e;have:=congrArg List.length e;rw[List.length_drop,←size_bys] at this;simp at this;omega
 have e:=decodeL_drop s pos;have hle:=decodeL_le _ hne;have hw:=decodeL_width ((bys s).drop pos);rw[List.length_drop,←size_bys,e] at hle;rw[e] at hw;refine⟨?_,by omega,hw⟩;rw[runesD_step _ hne,e,List.drop_drop]
theorem enc_fold_step(l:List Nat)(r:Nat)(acc:List UInt8):acc++enc ((r::l).map foldR)=(acc++encR (foldR r))++enc (l.map foldR):=by
 rw[List.map_cons,enc_cons,List.append_assoc]
theorem uFold_any(s:ByteArray)(w:World)(hs:s.size≤1000000):
  Calls Tryz.prog 179 #[.string s] w λe w'=>e=.returned (.string (ofB (foldS (bys s))))∧Frm Nix w w':=by
 have hb0:=Blk.new w 175 #[.pointer none,.slice none 0 0];go_enter Tryz.func179,Tryz.ntmps179;go_wp2
 go_loopw [] (λwr=>∃(pos:Nat) (acc:List UInt8) (p v:Value),(p=.pointer none∨p=selfP w.heap.size)∧Blk wr w.heap.size 175 #[p,v]∧RowIn 5 w wr v acc.length (byteCells acc)∧
  wr.heap[w.heap.size+1]? =some (.stringIter s pos)∧acc++enc ((runesD ((bys s).drop pos)).map foldR)=foldS (bys s)∧pos≤s.size∧acc.length≤4 * pos) (λwr=>s.size - wr.iterPos (w.heap.size+1))
 case atStart=>
  have hfa:Frm Nix w (w.alloc (.cells #[.pointer none,.slice none 0 0] 175)):=(fR w).alloc _;refine⟨0,[],.pointer none,.slice none 0 0,.inl rfl,hb0.alloc _,RowIn.nil_ _ (hfa.alloc _),?_,by simp[foldS,folds],Nat.zero_le _,by simp⟩;have:=World.iter_heap (w.alloc (.cells #[.pointer none,.slice none 0 0] 175)) s 0
  simpa using this
 case round=>
  obtain⟨pos,acc,p,v,hp,hb,hr,hit,hacc,hps,hal⟩:=hrel;have HB:=h_ hb;have HR:=h_ hr;have HA:=h_ hacc;have HP:=h_ hp;have hfr:=hr.frm;have hbl:=hb.lt;clear hb hr hacc hp
  by_cases hlt:pos<s.size
  ·have hnx:∀ty,(Instr.next (.pointer (some ⟨w.heap.size+1,0,none⟩)) true ty).run Tryz.prog wr=_:=λty=>Lib.run_next_any_at wr (w.heap.size+1) s pos ty hit hlt
   obtain⟨hd1,hd2,hd3⟩:=drop_step s pos hlt;have hv:=decodeL_valid ((bys s).drop pos);rw[decodeL_drop s pos] at hv;have hit2:=Lib.iterAt_heap wr (w.heap.size+1) s pos (pos+(Utf8.decode s pos).2) hit;have hfi:=frm_iterAt wr (w.heap.size+1) s (pos+(Utf8.decode s pos).2);have HD:=h_ hd1;have hni:v.ownBlock≠some (w.heap.size+1):=HR.out.ne_obj hit λ_ _ _ h=>by cases h
   clear hd1;generalize (Utf8.decode s pos).1=R at *;generalize (Utf8.decode s pos).2=K at *;have HB2:Hid (Blk (wr.iterAt (w.heap.size+1) s (pos+K)) w.heap.size 175 #[p,v]):=HB.out.frm hfi (by omega);have HR2:Hid (RowIn 5 w (wr.iterAt (w.heap.size+1) s (pos+K)) v acc.length (byteCells acc)):=HR.out.far hfi (λk hk=>by omega) (λk hk e=>hni (by rw[hk,e]));generalize wr.iterAt (w.heap.size+1) s (pos+K)=wi at *;have hR:R≤1114111:=by unfold Vr at hv;omega
   have hfv:Vr (foldR R):=foldR_valid hv;have hF:foldR R≤1114111:=by unfold Vr at hfv;omega
   have KF:=λW=>ufold_any R W hR
   have KW:=h_ (WriteRune_any (Nat.le_refl _) HP.out HB2.out HR2.out (foldR R) (by omega) (by omega) (by omega));clear hv hfv hfi;go_wp2_with (first | (go_at_call 211;refine(KF _).mono ?_;rintro e w' ⟨rfl,rfl⟩) | (go_at_call 139;refine KW.out.mono ?_;rintro e w2 ⟨rfl,v',hb2,hr2,hf2⟩;have HX:=h_ (And.intro hb2 (And.intro hr2 hf2));clear hb2 hr2 hf2));go_roundw
   case rel=>
    obtain⟨hb2,hr2,hf2⟩:=HX.out
    have hit3:w2.heap[w.heap.size+1]? =some (.stringIter s (pos+K)):=by
     rw[hf2.block _ (lt_of_obj hit2) (λh=>by
      rcases h with h | h
      ·omega
      ·exact HR2.out.ne_obj hit2 (λ_ _ _ h=>by cases h) h)]
     exact hit2
    have hl4:=runeCells_le (foldR R:Int);rw[runeCells_length] at hl4;refine⟨pos+K,acc++encR (foldR R),selfP w.heap.size,v',.inr rfl,hb2,?_,hit3,?_,hd2,?_⟩
    ·have e1:(acc++encR (foldR R)).length=acc.length+(runeCells (foldR R:Int)).length:=by rw[List.length_append,runeCells_length];rfl
     rw[e1,byteCells_append];have e2:byteCells (encR (foldR R))=runeCells (foldR R:Int):=byteCells_encodeRune _;rw[e2];exact hr2
    ·rw[←HA.out,HD.out,enc_fold_step]
    ·have:(encR (foldR R)).length=(encodeRune (foldR R:Int)).length:=rfl
     rw[List.length_append,this];omega
   case measure=>
    obtain⟨hb2,hr2,hf2⟩:=HX.out
    have hit3:w2.heap[w.heap.size+1]? =some (.stringIter s (pos+K)):=by
     rw[hf2.block _ (lt_of_obj hit2) (λh=>by
      rcases h with h | h
      ·omega
      ·exact HR2.out.ne_obj hit2 (λ_ _ _ h=>by cases h) h)]
     exact hit2
    simp only[World.iterPos,hit3,hit];omega
  ·have hnx:∀ty,(Instr.next (.pointer (some ⟨w.heap.size+1,0,none⟩)) true ty).run Tryz.prog wr=_:=λty=>Lib.run_next_end_at wr (w.heap.size+1) s pos ty hit hlt
   have hI:Lib.IsBuilder 175 5 w.heap.size w.heap.size (byteCells acc) wr:=by
    have h1:BuilderAt 175 5 w.heap.size w.heap.size p (byteCells acc) wr:=⟨Nat.le_refl _,v,HB.out,by rw[Lib.byteCells_length];exact HR.out.own,HR.out.ne_blk HB.out ne_ub⟩;rcases HP.out with e | e
    ·subst e;exact .inl h1
    ·subst e;exact .inr h1
   have KS:=h_ (Tryz.Builder_String_any w.heap.size w.heap.size acc wr hI (by omega))
   have HAcc:Hid (acc=foldS (bys s)):=by
    have h1:(bys s).drop pos=[]:=List.drop_eq_nil_iff.2 (by rw[←size_bys];omega);have h2:=HA.out;rw[h1,runesD_nil,List.map_nil,enc_nil,List.append_nil] at h2;exact h2
   have HF:=h_ hfr;clear hI hfr;go_wp2_with (go_at_call 140;refine KS.out.mono ?_;rintro e w1 ⟨rfl,hbel⟩);go_ret;have hs0:=HF.out.size;have hfb:Frm (λk=>w.heap.size≤k) wr w1:=⟨hbel.os,hbel.tape,hbel.output,hbel.size,λi _ hn=>hbel.block i (by omega)⟩;exact⟨by rw[HAcc.out];rfl,HF.out.next hfb λi hi=>.inr hi⟩
theorem enc_take_drop(w:List Nat)(k:Nat):enc (w.take k)++enc (w.drop k)=enc w:=by rw[←enc_append,List.take_append_drop]
theorem enc_take_succ(w:List Nat)(k:Nat)(h:k<w.length):enc (w.take (k+1))=enc (w.take k)++encR w[k]:=by
 rw[List.take_succ_eq_append_getElem h,enc_append];simp[enc]
theorem decode_at_rune(w:List Nat)(hv:∀r∈w,Vr r)(k:Nat)(h:k<w.length):Utf8.decode (ofB (enc w)) (enc (w.take k)).length=(w[k],(encR w[k]).length)∧(enc (w.take k)).length<(ofB (enc w)).size:=by
 have hd:(bys (ofB (enc w))).drop (enc (w.take k)).length=encR w[k]++enc (w.drop (k+1)):=by
  rw[bys_ofB,←enc_take_drop w k,List.drop_left']
  ·rw[List.drop_eq_getElem_cons h,enc_cons]
  ·rfl
 constructor
 ·rw[←decodeL_drop,hd]
  exact decode_enc _ (hv _ (List.getElem_mem h)) _
 ·rw[size_bys,bys_ofB,←enc_take_drop w k,List.length_append,List.drop_eq_getElem_cons h,enc_cons,List.length_append]
  have:=encR_len w[k];omega
theorem short_any(x:List Nat)(hv:∀r∈x,Vr r)(w:World):
  Calls Tryz.prog 182 #[.string (ofB (enc x))] w λe w'=>e=.returned (.string (ofB (enc (x.take 32))))∧Frm Nix w w':=by
 go_enter Tryz.func182,Tryz.ntmps182;go_wp2
 go_loopw [3] (λn wr=>∃k:Nat,k≤x.length∧k≤32∧n=.int .i64 k∧wr.heap[w.heap.size]? =some (.stringIter (ofB (enc x)) (enc (x.take k)).length)∧Frm Nix w wr) (λn wr=>33 - (intOf n).toNat)
 case atStart=>exact⟨0,Nat.zero_le _,by omega,rfl,World.iter_heap w _ 0,(fR w).alloc _⟩
 case round=>
  obtain⟨k,hk,hk32,rfl,hit,hfr⟩:=hrel;have HF:=h_ hfr;have hsz:=hfr.size;clear hfr
  by_cases hlt:k<x.length
  ·obtain⟨hd1,hd2⟩:=decode_at_rune x hv k hlt
   have hnx:∀ty,(Instr.next (.pointer (some ⟨w.heap.size,0,none⟩)) true ty).run Tryz.prog wr=_:=λty=>Lib.run_next_any_at wr w.heap.size (ofB (enc x)) (enc (x.take k)).length ty hit hd2
   rw[hd1] at hnx;simp only at hnx;have hts:=enc_take_succ x k hlt;have hle:(enc (x.take (k+1))).length=(enc (x.take k)).length+(encR x[k]).length:=by rw[hts,List.length_append]
   have hit2:=Lib.iterAt_heap wr w.heap.size (ofB (enc x)) (enc (x.take k)).length ((enc (x.take k)).length+(encR x[k]).length) hit;have HI:Hid ((wr.iterAt w.heap.size (ofB (enc x)) ((enc (x.take k)).length+(encR x[k]).length)).heap[w.heap.size]? =some (.stringIter (ofB (enc x)) (enc (x.take (k+1))).length)):=by rw[hle];exact hit2
   have HF2:Hid (Frm Nix w (wr.iterAt w.heap.size (ofB (enc x)) ((enc (x.take k)).length+(encR x[k]).length))):=HF.out.next (frm_iterAt wr w.heap.size _ _) λi hi=>.inr (by rw[hi];exact Nat.le_refl _)
   clear hit2 hts hle hd1
   have HX:Hid ((ofB (enc x)).extract 0 (enc (x.take k)).length=ofB (enc (x.take k))):=by
    apply bys_inj;rw[bys_ofB];show ((ofB (enc x)).extract 0 (enc (x.take k)).length).data.toList=_
    rw[extract_data];show ((bys (ofB (enc x))).drop 0).take _=_
    rw[bys_ofB,←enc_take_drop x k];simp
   generalize (encR x[k]).length=K at *;generalize wr.iterAt w.heap.size (ofB (enc x)) ((enc (x.take k)).length+K)=wi at *;obtain⟨E,hE⟩:∃E,(enc (x.take k)).length=E:=⟨_,rfl⟩;rw[hE] at hd2 hnx HX;clear hE hit;generalize hS:ofB (enc x)=S at *
   by_cases h32:k=32
   ·subst h32
    have e1:(0:Int)≤(E:Int):=Int.natCast_nonneg _;go_wp2;go_ret;exact⟨by first | rfl | (rw[HX.out];rfl),HF2.out⟩
   ·have hd32:decide ((k:Int)=32)=false:=by simp;omega
    have hb32:((k:Int)==32)=false:=by simp;omega
    go_wp2;go_roundw
    case rel=>exact⟨k+1,by omega,by omega,by go_num,HI.out,HF2.out⟩
    case measure=>simp[intOf];omega
  ·obtain rfl:k=x.length:=by omega
   have hx:x.take x.length=x:=List.take_of_length_le (Nat.le_refl _);rw[hx] at hit;have hd2:¬(enc x).length<(ofB (enc x)).size:=by rw[size_bys,bys_ofB];omega
   have hnx:∀ty,(Instr.next (.pointer (some ⟨w.heap.size,0,none⟩)) true ty).run Tryz.prog wr=_:=λty=>Lib.run_next_end_at wr w.heap.size (ofB (enc x)) (enc x).length ty hit hd2
   have HX:Hid (x.take 32=x):=List.take_of_length_le hk32;clear hit hd2;generalize hS:ofB (enc x)=S at *;go_wp2;go_ret;exact⟨by rw[HX.out,hS];rfl,HF.out⟩
theorem notLetter_runes(w:World):PredAtRunes Tryz.prog 180 #[] (λr=>!letterR r) w:=λW r hr _=>by
 unfold FnGives;go_enter Tryz.func180,Tryz.ntmps180;go_wp2_with (go_at_call 181;refine(wletter_any r _ hr).mono ?_;rintro e w' ⟨rfl,rfl⟩);go_ret;exact⟨rfl,0,rfl⟩
def mixW(ws:List (List Nat))(k:Nat):List Value:=((ws.take k).map λx=>Value.string (ofB (enc (x.take 32))))++(ws.drop k).map λx=>Value.string (ofB (enc x))
theorem mixW_at(ws:List (List Nat))(k:Nat)(h:k<ws.length):(mixW ws k)[k]? =some (.string (ofB (enc ws[k]))):=by
 unfold mixW;rw[List.getElem?_append_right (by simp;omega)];have:k - ((ws.take k).map λx=>Value.string (ofB (enc (x.take 32)))).length=0:=by simp;omega
 rw[this,List.drop_eq_getElem_cons h];rfl
theorem mixW_set(ws:List (List Nat))(k:Nat)(h:k<ws.length):(mixW ws k).set k (.string (ofB (enc (ws[k].take 32))))=mixW ws (k+1):=by
 unfold mixW;have hl:((ws.take k).map λx=>Value.string (ofB (enc (x.take 32)))).length=k:=by simp;omega
 rw[List.set_append_right _ _ (by omega),hl,Nat.sub_self,List.drop_eq_getElem_cons h,List.take_succ_eq_append_getElem h,List.map_cons,List.set_cons_zero,List.map_append,List.map_cons,List.map_nil,List.append_assoc,List.singleton_append]
def StrsOut(w:World)(l:List ByteArray)(e:Ending)(w':World):Prop:=
 ∃A c,e=.returned (.slice A l.length c)∧RowIn 9 w w' (.slice A l.length c) l.length (l.map Value.string)
theorem wordsB_eq(s:ByteArray):wordsB s=(splitW [] (folds (bys s))).map λx=>ofB (enc (x.take 32)):=by
 simp[wordsB,wordsL,wordsR,List.map_map,Function.comp_def,ofB]
theorem Words_any(s:ByteArray)(w:World)(hs:s.size≤1000000):
  Calls Tryz.prog 147 #[.string s] w (StrsOut w (wordsB s)):=by
 have hfl:=enc_len (folds (bys s));have hrl:=runesD_len (bys s)
 have hsz:(ofB (foldS (bys s))).size≤4000000:=by
  rw[size_bys,bys_ofB];have:(folds (bys s)).length=(runesD (bys s)).length:=by simp[folds]
  rw[←size_bys] at hrl;unfold foldS;omega
 have hfe:=fields_enc (folds (bys s)) (folds_valid _);have hwb:=wordsB_eq s
 have hval:∀x∈splitW [] (folds (bys s)),∀r∈x,Vr r:=λx hx r hr=>by
  rcases splitW_mem _ _ x hx r hr with h | h
  ·cases h
  ·exact folds_valid _ r h
 have eg:∀args w,(callFunc 180 args).run Tryz.prog w=.ok (.enter 180 args) w:=enters_of Tryz.func180 (by kernel_rfl) rfl;have KF:=λW=>Tryz.strings_FieldsFunc_runes 180 #[] eg (λr=>!letterR r) (ofB (foldS (bys s))) W (by omega) (notLetter_runes W)
 rw[show ofB (foldS (bys s))=ofB (enc (folds (bys s))) from rfl] at KF hsz;rw[hfe] at KF;have KU:=uFold_any s w hs;rw[show ofB (foldS (bys s))=ofB (enc (folds (bys s))) from rfl] at KU;generalize splitW [] (folds (bys s))=ws at *;have HW:=h_ hwb;have HV:=h_ hval;have HKF:=h_ KF;have HKU:=h_ KU;generalize ofB (enc (folds (bys s)))=S at *;clear hfl hrl hfe hwb hval eg KF KU;go_enter Tryz.func147,Tryz.ntmps147;go_wp2_with fail;refine HKU.out.mono ?_;rintro e w1 ⟨rfl,f1⟩;go_wp2_with fail;refine(HKF.out w1).mono ?_;rintro e w2 ⟨A,rfl,hA,hown,hbel⟩;rw[List.length_map,List.map_map] at hown
 have hr0:RowIn 9 w w2 (.slice (some ⟨A,0,none⟩) ws.length ws.length) ws.length (mixW ws 0):=(⟨by
  have:mixW ws 0=ws.map (Value.string ∘ λw=>ofB (enc w)):=by simp[mixW,Function.comp_def]
  rw[this];exact hown,Frm.of_below hbel⟩:RowIn 9 w1 w2 (.slice (some ⟨A,0,none⟩) ws.length ws.length) ws.length (mixW ws 0)).since f1
 have hm:ws.length≤9223372036854775807:=by
  obtain⟨_,c0,e0,-,h1,h2,-⟩:=hr0.shape;unfold maxLen at h2;omega
 have HR:=h_ hr0;rw[List.length_map];clear hown hbel hr0 f1;go_wp2
 go_loopw [11] (λi wr=>∃k:Nat,k≤ws.length∧i=.int .i64 k∧RowIn 9 w wr (.slice (some ⟨A,0,none⟩) ws.length ws.length) ws.length (mixW ws k)) (λi _=>ws.length - (intOf i).toNat)
 case atStart=>exact⟨0,Nat.zero_le _,rfl,HR.out⟩
 case round=>
  obtain⟨k,hk,rfl,hrow⟩:=hrel;have HRow:=h_ hrow
  by_cases hlt:k<ws.length
  ·obtain⟨g,hg,hcell,-,-,-,-⟩:=hrow.set_ k hlt undef
   injection hg with hg;injection hg with hg;subst hg;rw[mixW_at ws k hlt] at hcell;have hx:=HV.out ws[k] (List.getElem_mem hlt);have KS:=h_ (short_any ws[k] hx wr);have HSet:=h_ (mixW_set ws k hlt);have hk0:(0:Int)≤(k:Int):=Int.natCast_nonneg _;have hk1:(k:Int)<(ws.length:Int):=by omega
   clear hrow hx;go_wp2_with fail;refine KS.out.mono ?_;rintro e w3 ⟨rfl,f3⟩;obtain⟨g,hg,hcell3,hfz3,hrow3,-,hgl⟩:=(HRow.out.more f3).set_ k hlt (.string (ofB (enc (ws[k].take 32))));injection hg with hg;injection hg with hg;subst hg;rw[mixW_at ws k hlt] at hcell3;rw[HSet.out] at hrow3;have HR3:=h_ hrow3;clear hrow3 hcell f3;generalize ofB (enc (ws[k].take 32))=T at *;go_wp2;go_roundw
   case rel=>exact⟨k+1,by omega,by go_num,HR3.out⟩
   case measure=>simp[intOf];omega
  ·obtain rfl:k=ws.length:=by omega
   clear hrow;go_wp2;go_ret;refine⟨some ⟨A,0,none⟩,ws.length,?_,?_⟩
   ·rw[HW.out,List.length_map];rfl
   ·rw[HW.out,List.length_map,List.map_map]
    have:mixW ws ws.length=ws.map (Value.string ∘ λx=>ofB (enc (x.take 32))):=by simp[mixW,Function.comp_def]
    rw[←this];exact HRow.out
end Go.Proofs.YtaecjmiobllhmaaGreat
