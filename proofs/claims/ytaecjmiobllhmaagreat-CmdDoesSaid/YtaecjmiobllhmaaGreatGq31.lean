/- Words. -/
import Derived.Test.YtaecjmiobllhmaaGreatGq29
import Derived.Test.YtaecjmiobllhmaaGreatGq30
set_option linter.unusedVariables false
set_option linter.unusedSimpArgs false
set_option maxRecDepth 100000
set_option maxHeartbeats 16000000
namespace Go.Proofs.YtaecjmiobllhmaaGreat
open Go.Value renaming int→I,string→V,slice→U,pointer→O
open Go.IntKind renaming i64→J
open Tryz renaming prog→pQ
open Go.RowKit Go.Lib
variable {W:World}{G:Nat→Prop}{s:ByteArray}{i:Int}{bo b1 b2:Nat}
theorem NU:rP pQ 94 3 8:=⟨Tryz.underlying94,⟨.int .i64 0,by kernel_rfl,rfl⟩⟩
theorem BO(l:List Int):l.map kI=l.flatMap λi=>[kI i]:=by
 induction l with
 | nil=>rfl
 | cons a l ih=>rw[List.map_cons,ih,List.flatMap_cons];rfl
theorem zA{v:Sl}{l:List Int}(h:aN W G 1 v l.length (l.map kI))(hn:l.length≤100000)(x:Int):
  Calls pQ 98 #[U v.1 l.length v.2,I J x] W λe w'=>e=.returned (.bool (l.contains x))∧w'=W:=by
 rcases Nat.eq_zero_or_pos l.length with h0|h0
 ·have:l=[]:=List.eq_nil_of_length_eq_zero h0
  subst this;exact Tryz.slices_Contains_int_empty v.1 v.2 x W
 ·rw[BO] at h
  obtain⟨b,off,e,-,-,hc⟩:=h.at_ (f:=λi=>[kI i]) (λ_=>rfl) (by decide) h0;rw[e]
  have:=Tryz.slices_Contains_int b off l.length v.2 l x W (Nat.le_refl _) (by omega) (λj hj=>by
   have:=hc j hj 0 _ rfl;rw[Nat.mul_one,Nat.add_zero] at this;rw[this,List.getD_eq_getElem?_getD,List.getElem?_eq_getElem hj];rfl)
  rwa [List.take_length] at this
theorem Tw{w:World}{b off:Nat}{f:bg}(h:∀(j:Nat) (u:Value),f.cells[j]? =some u→w.cell? ⟨b,off+j,none⟩=some u):
  w.cell? ⟨b,off,none⟩=some (I J f.id)∧w.cell? ⟨b,off+1,none⟩=some (I J f.inn)∧w.cell? ⟨b,off+2,none⟩=some (V f.name):=
 ⟨h 0 _ rfl,h 1 _ rfl,h 2 _ rfl⟩
theorem rr{α:Type}(l:List α)(j:Nat)(h:j<l.length)(p:α→Bool):(l.take (j+1)).filter p=(l.take j).filter p++if p l[j]=true then [l[j]] else []:=by
 rw[List.take_succ_eq_append_getElem h,List.filter_append]
 cases hq:p l[j]<;>simp[List.filter,hq]
section
def bm(w:World)(r:List Ev×Int)(e:Ending)(w':World):Prop:=
 ∃v:Sl,e=.returned (.tuple #[U v.1 r.1.length v.2,I J r.2])∧aN w' (λk=>w.heap.size≤k) 7 v r.1.length (r.1.flatMap Ev.cells)∧aa ac w w'
theorem bm.from{w w1 w2:World}{r:List Ev×Int}{e:Ending}(h:bm w1 r e w2)(hf:aa ac w w1):bm w r e w2:=by
 obtain⟨v,h1,h2,h3⟩:=h;exact⟨v,h1,h2.mono λk hk=>Nat.le_trans hf.size hk,hf.trans h3⟩
theorem bm.none_{w w1:World}{n:Int}(hf:aa ac w w1):bm w ([],n) (.returned (.tuple #[U none 0 0,I J n])) w1:=⟨(none,0),rfl,aN.none_ _ _ _,hf⟩
theorem NV{rs:List Nat}(hv:∀r∈rs,Vr r)(hs:aX s=enc rs){k:Nat}(hk:k<rs.length):Utf8.decode s (enc (rs.take k)).length=(rs[k],(en rs[k]).length):=by
 rw[←decodeL_drop];show decodeL (List.drop _ (aX s))=_
 rw[hs,BN,List.drop_eq_getElem_cons hk,dn];exact mn _ (hv _ (List.getElem_mem hk)) _
theorem Ji(s:ByteArray)(rs:List Nat)(hv:∀r∈rs,Vr r)(hs:aX s=enc rs)(hsz:s.size≤4000000)(n:Int)(w:World):
  Calls pQ 86 #[V s,I J n] w λe w'=>e=.returned (V (fB (enc (kH rs n))))∧aa ac w w':=by
 have HS:=h_ hs;have HV:=h_ hv;have uV:Hid (s.size=(enc rs).length):=by unfold Hid;rw[aT,hs]
 clear hs hv;go_enter Tryz.func86,Tryz.ntmps86;go_wp2
 go_loopw [5] (λev wr=>∃(k E P:Nat),k≤rs.length∧ev=I J E∧E=(enc (rs.take (k-1))).length∧P=(enc (rs.take k)).length∧(k-1=0∨(E:Int)≤n)∧wr.heap[w.heap.size]? =some (.stringIter s P)∧aa ac w wr) (λ_ wr=>s.size-wr.iterPos w.heap.size)
 case atStart=>exact⟨0,0,0,by omega,rfl,rfl,rfl,.inl rfl,World.iter_heap w s 0,(fR w).alloc _⟩
 case round=>
  obtain⟨k,E,P,hk,rfl,hE,hP,hn,hit,hfr⟩:=hrel;have HF:=h_ hfr;have HE:=h_ hE;have HP:=h_ hP;have HN:=h_ hn;have XC:(E:Int)≤(s.size:Int):=by rw[hE,uV.out];exact Int.ofNat_le.2 (tj rs _)
  have Y6:P≤s.size:=by rw[hP,uV.out];exact tj rs _
  have XD:(0:Int)≤(E:Int):=Int.natCast_nonneg _;clear hfr hE hn
  by_cases hlt:k<rs.length
  ·have dL:=rK rs k hlt
   have xu:=nB rs[k];have hle:=tj rs (k+1);have Pj:P<s.size:=by rw[uV.out,hP];omega
   have hd:=NV HV.out HS.out hlt;rw[←hP] at hd;have EP:∀ty,(Instr.next (O (some ⟨w.heap.size,0,none⟩)) true ty).run pQ wr=_:=λty=>Lib.run_next_any_at wr w.heap.size s P ty hit Pj
   have ng:=Lib.iterAt_heap wr w.heap.size s P (P+(Utf8.decode s P).2) hit;have CG:=nD wr w.heap.size s (P+(Utf8.decode s P).2);have qx:Hid (aa ac w (wr.iterAt w.heap.size s (P+(Utf8.decode s P).2))):=HF.out.next CG λi hi=>.inr (by rw[hi];exact Nat.le_refl _)
   rw[hd] at EP ng qx;dsimp only at EP ng qx;have O6:Hid (P+(en rs[k]).length=(enc (rs.take (k+1))).length):=by unfold Hid;rw[hP,dL]
   have Qa:=xu.1;clear hd CG dL xu hle;generalize wr.iterAt w.heap.size s (P+(en rs[k]).length)=wi at *
   have Ra:Hid (s.size-wi.iterPos w.heap.size<s.size-wr.iterPos w.heap.size):=by
    unfold Hid;simp only[World.iterPos,hit,ng];omega
   generalize (en rs[k]).length=K at *;generalize rs[k]=R at *;clear hP
   by_cases Qb:n<(P:Int)
   ·have hno:¬(s.size:Int)≤n:=by omega
    have HR:Hid (s.extract 0 E=fB (enc (kH rs n))):=by
     unfold Hid;rw[HE.out];refine pR HS.out n (k-1) (by omega) (by rw[←HE.out];exact HN.out) (.inr ?_);rcases Nat.eq_zero_or_pos k with h0|h0
     ·subst h0
      have:P=0:=by rw[HP.out];rfl
      omega
     ·rw[show k-1+1=k by omega,←HP.out]
      exact Qb
    go_wp2;go_ret;exact⟨by rw[←HR.out]<;>rfl,qx.out⟩
   ·have XE:¬n<(P:Int):=Qb
    go_wp2;go_roundw
    case rel=>exact⟨k+1,P,P+K,by omega,rfl,by rw[HP.out];rfl,O6.out,.inr (by omega),ng,qx.out⟩
    case measure=>exact Ra.out
  ·obtain rfl:k=rs.length:=by omega
   have Vi:P=s.size:=by rw[hP,List.take_length,uV.out]
   have EP:∀ty,(Instr.next (O (some ⟨w.heap.size,0,none⟩)) true ty).run pQ wr=_:=λty=>Lib.run_next_end_at wr w.heap.size s P ty hit (by omega)
   by_cases aR:(s.size:Int)≤n
   ·have HR:Hid (s=fB (enc (kH rs n))):=by
     unfold Hid;have:=pR HS.out n rs.length (Nat.le_refl _) (.inr (by rw[List.take_length,←uV.out];exact aR)) (.inl rfl);rw[List.take_length,←uV.out,ByteArray.extract_zero_size] at this;exact this
    go_wp2;go_ret;exact⟨by rw[←HR.out]<;>rfl,HF.out⟩
   ·have HR:Hid (s.extract 0 E=fB (enc (kH rs n))):=by
     unfold Hid;rw[HE.out];refine pR HS.out n (rs.length-1) (by omega) (by rw[←HE.out];exact HN.out) ?_;rcases Nat.eq_zero_or_pos rs.length with h0|h0
     ·exact .inl (by omega)
     ·refine .inr ?_
      rw[show rs.length-1+1=rs.length by omega,List.take_length,←uV.out];omega
    go_wp2;go_ret;exact⟨by rw[←HR.out]<;>rfl,HF.out⟩
theorem DL:∀(rs:List Nat) (n:Int),(enc (kH rs n)).length≤(enc rs).length
 | [],n=>by simp[kH]
 | c::r,n=>by
   rw[kH];split
   ·rw[dn,dn,List.length_append,List.length_append]
    have:=DL r (n-(en c).length);omega
   ·simp[enc]
theorem mD(s:ByteArray)(hs:s.size≤100000)(m:Int)(w:World):
  Calls pQ 41 #[V s,I J m] w λe w'=>e=.returned (V (ah s m))∧aa ac w w':=by
 obtain⟨rs,Hk⟩:∃rs,bh (cV (aX s)) [] false=rs:=⟨_,rfl⟩;have hv:∀r∈rs,Vr r:=by rw[←Hk];exact jb _ _ _ (kR _) (by simp)
 have hcs:dP (aX s)=enc rs:=by unfold dP;rw[Hk]
 have Qc:∀r∈kH rs m,Vr r:=λr hr=>hv r (td _ _ r hr)
 have h1:rs.length≤2 * s.size:=by
  have h1:=nG (cV (aX s)) [] false;have h2:=lq (aX s);rw[Hk] at h1;rw[←aT] at h2;simp at h1;omega
 have h2:=(mI rs).2;have hsz:(fB (enc rs)).size≤4000000:=by rw[aT,eU];omega
 have h3:(enc (kH rs m)).length≤(enc rs).length:=DL rs m;have F7:(fB (enc (kH rs m))).size≤1000000:=by rw[aT,eU];omega
 obtain⟨r1,hr1⟩:∃r1,fB (enc rs)=r1:=⟨_,rfl⟩;obtain⟨r2,hr2⟩:∃r2,fB (enc (kH rs m))=r2:=⟨_,rfl⟩;obtain⟨r3,hr3⟩:∃r3,ah s m=r3:=⟨_,rfl⟩
 have K1:Hid (∀W,Calls pQ 85 #[V s] W λe w'=>e=.returned (V r1)∧aa ac W w'):=λW=>by
  have q:=rR s W (by omega);rw[hcs,hr1] at q;exact q
 have K2:Hid (∀W,Calls pQ 86 #[V r1,I J m] W λe w'=>e=.returned (V r2)∧aa ac W w'):=λW=>by
  have q:=Ji (fB (enc rs)) rs hv (eU _) hsz m W;rw[hr1,hr2] at q;exact q
 have K3:Hid (∀W,Calls pQ 85 #[V r2] W λe w'=>e=.returned (V r3)∧aa ac W w'):=λW=>by
  have q:=rR (fB (enc (kH rs m))) W F7
  have e3:fB (dP (aX (fB (enc (kH rs m)))))=r3:=by
   rw[eU,wK Qc,←hr3];unfold ah pC;rw[Hk]
  rw[e3,hr2] at q;exact q
 rw[hr3];clear Hk hv hcs Qc h1 h2 hsz h3 F7 hs hr1 hr2 hr3;go_enter Tryz.func41,Tryz.ntmps41
 go_wp2_with (first
  | (go_at_call 85;have _q:=Z2;refine(K3.out _).mono ?_;rintro e w3 ⟨rfl,hf⟩;have Z3:Hid (aa ac w w3):=Z2.out.trans hf;clear hf)
  | (go_at_call 86;have _q:=Z1;refine(K2.out _).mono ?_;rintro e w2 ⟨rfl,hf⟩;have Z2:Hid (aa ac w w2):=Z1.out.trans hf;clear hf)
  | (go_at_call 85;refine(K1.out _).mono ?_;rintro e w1 ⟨rfl,hf⟩;have Z1:=h_ hf;clear hf))
 go_ret;exact⟨rfl,Z3.out⟩
theorem aW(n:Int)(w:World):Calls pQ 43 #[I J n] w λe w'=>e=.returned (.tuple #[U none 0 0,I J n])∧w=w':=by
 go_enter Tryz.func43,Tryz.ntmps43;go_wp2
 go_ret2
 exact⟨rfl,rfl⟩
theorem Jj(e:Ev)(c:Bool)(w:World):Calls pQ 52 #[.agg #[I J e.kind,I J e.a,I J e.b,I J e.n,V e.s,V e.t,V e.u],.bool c] w (bm w (nr e c)):=by
 have f0:aa ac w (w.alloc (.cells #[I J e.kind,I J e.a,I J e.b,I J e.n,V e.s,V e.t,V e.u] 42)):=(fR w).alloc _
 have HR:Hid (aN ((w.alloc (.cells #[I J e.kind,I J e.a,I J e.b,I J e.n,V e.s,V e.t,V e.u] 42)).alloc (.cells #[I J e.kind,I J e.a,I J e.b,I J e.n,V e.s,V e.t,V e.u] 42)) (λk=>w.heap.size≤k) 7 (some ⟨w.heap.size+1,0,none⟩,1) 1 e.cells):=by
  have q:=(aO.lit (s:=7) 42 f0 1 e.cells rfl (by unfold maxLen;omega)).sl;rw[show (w.alloc (.cells #[I J e.kind,I J e.a,I J e.b,I J e.n,V e.s,V e.t,V e.u] 42)).heap.size=w.heap.size+1 by simp] at q;exact q
 have HF:=h_ (f0.alloc (.cells e.cells.toArray 42));have F0:=h_ f0;clear f0
 cases c with
 | false=>
   go_enter Tryz.func52,Tryz.ntmps52;go_wp2
   go_ret2
   exact bm.none_ F0.out
 | true=>
   go_enter Tryz.func52,Tryz.ntmps52;go_wp2
   go_ret2
   have hx:(nr e true).1.flatMap Ev.cells=e.cells:=by simp[nr]
   exact⟨(some ⟨w.heap.size+1,0,none⟩,1),rfl,by rw[hx];exact HR.out,HF.out⟩
section
variable {w:World} {g:Nat} {M:Ms} {x:St}
theorem po(h:aw w g M x)(hi:bj i):Calls pQ 50 #[O (some ⟨g,0,none⟩),I J i] w λe w'=>e=.returned (.bool (eQ x i))∧aa ac w w':=by
 have K:=h_ (qQ h hi);have HB:Hid (eQ x i=(decide (i=0)||aS bg.id i x.fols)):=rfl;clear h hi;generalize aS bg.id i x.fols=bb at *;generalize ep x i=f at *;go_enter Tryz.func50,Tryz.ntmps50;go_wp2_with (go_at_call 93;refine K.out.mono ?_;rintro e w1 ⟨rfl,hf⟩;have Z1:=h_ hf;clear hf)
 all_goals
  go_ret;exact⟨af (by rw[HB.out];simp[*]),Z1.out.alloc _⟩
theorem Lv{x:St}(h:di x){f:bg}(hf:f∈x.fols):bj f.id∧bj f.inn:=h.nums.fols f hf
theorem BP(h:aw w g M x){b u:Int}(hb:bj b){j:Nat}(hj:j≤10)(hc:gq x.fols j b):Calls pQ 134 #[O (some ⟨g,0,none⟩),I J b,I J u] w λe w'=>e=.returned (.bool (decide (xG x.fols j b u=u)))∧aa ac w w':=by
 have H:=h_ h;obtain⟨q,hq⟩:∃q,xG x.fols j b u=q:=⟨_,rfl⟩;have HQ:=h_ hq;have HC:=h_ hc;rw[hq];clear h hq hc;go_enter Tryz.func134,Tryz.ntmps134;go_wp2
 go_loopw [1] (λiv wr=>∃(i:Int) (d:Nat),d≤10∧iv=I J i∧bj i∧gq x.fols d i∧xG x.fols d i u=q∧aa ac w wr) (λiv _=>jk x.fols 10 0 (intOf iv))
 case atStart=>exact⟨b,j,hj,rfl,hb,HC.out,HQ.out,aa.refl _ _⟩
 case round=>
  obtain⟨i,d,hd,rfl,hi,hch,Vj,hf⟩:=hrel;have HU:=h_ Vj;have HI:=h_ hi;have HF:=h_ hf;have Vk:=h_ hch;clear Vj hch hf hi
  by_cases Ru:i=u
  ·have HE:Hid (q=i):=HU.out.symm.trans (sg (.inl Ru) d)
   subst Ru;go_wp2;go_ret;exact⟨af (by rw[HE.out];simp),HF.out⟩
  ·by_cases ux:i=0
   ·have HE:Hid (q=i):=HU.out.symm.trans (sg (.inr ux) d)
    subst ux;go_wp2
    all_goals
     go_ret;exact⟨af (by rw[HE.out];simp[*]),HF.out⟩
   ·obtain⟨d',f,hat,NW,Qd,hdd⟩:∃(d':Nat) (f:bg),eV bg.id i x.fols=some f∧gq x.fols d' f.inn∧xG x.fols d' f.inn u=q∧d=d'+1:=by
     have h1:=Vk.out
     cases d with
     | zero=>exact absurd h1 ux
     | succ d'=>
       obtain⟨-,f,hf,J4⟩:=h1;exact⟨d',f,hf,J4,by rw[←vo Ru ux hf];exact HU.out,rfl⟩
    have K:=h_ (qQ (H.out.nix HF.out) HI.out);have nz:ep x i=f:=by unfold ep;rw[hat];rfl
    rw[nz] at K;have HD:Hid (d'≤10∧gq x.fols d' f.inn∧xG x.fols d' f.inn u=q∧bj f.inn):=⟨by omega,NW,Qd,(Lv H.out.ok (dG hat).1).2⟩
    have HM:Hid (jk x.fols 10 0 f.inn<jk x.fols 10 0 i):=by
     unfold Hid;rw[mO x.fols d' 10 0 f.inn NW (by omega),mO x.fols d 10 0 i Vk.out hd];omega
    clear hat NW Qd hdd nz;generalize aS bg.id i x.fols=bb at *;have n1:(i !=u)=true:=bne_iff_ne.2 Ru;have n2:(i !=0)=true:=bne_iff_ne.2 ux;go_wp2_with (go_at_call 93;refine K.out.mono ?_;rintro e w1 ⟨rfl,hf⟩;have Z1:Hid (aa ac w w1):=HF.out.trans hf;clear hf);go_roundw
    case rel=>exact⟨f.inn,d',HD.out.1,rfl,HD.out.2.2.2,HD.out.2.1,HD.out.2.2.1,Z1.out.alloc _⟩
    case measure=>exact HM.out
end
end
theorem Jk{P:Program}{t e:TypeId}{bytes:Nat}(E:rP P t e bytes){w1:World}{B:Nat}{v:Value}{n:Nat}{xs:List Value}(h:w1.ownsRow B e 1 v n xs)(hB:B≤w1.heap.size)(x:Value)(h1:x.oneCell'=true)(hn:n+1≤maxLen)(hb:(n+1) * bytes≤140737488355328):
  ∃v' w2,(∀ty,(Builtin.append_ #[t,t] ty #[v,U (some ⟨w1.heap.size,0,none⟩) 1 1]).run P (w1.alloc (.cells #[x] e))=.ok v' w2)∧w2.ownsRow B e 1 v' (n+1) (xs++[x])∧aa (λk=>v.ownBlock=some k) (w1.alloc (.cells #[x] e)) w2∧(v'.ownBlock=v.ownBlock∨v'.ownBlock=some (w1.heap.size+1)):=by
 obtain⟨z,hi,hzs⟩:=E.i;obtain⟨i0,ux,hz0,hz1,hz2⟩:=info_parts hi;have hf:aa ac w1 (w1.alloc (.cells #[x] e)):=(fR w1).alloc _
 obtain⟨v1,w2,hrun,hown,hg,hat⟩:=lY (P:=P) (w1.alloc (.cells #[x] e)) B t e i0 z 1 bytes E.t ux hz0 hz1 hz2 hzs (by decide) v n xs (mH h hf λ_ _=>id) _ (some ⟨w1.heap.size,0,none⟩) 1 1 [x]
  (Rd.of_obj (heap_alloc_new w1 (.cells #[x] e)) 1 rfl) (λu hu=>by simp at hu;subst hu;exact h1) hn hb (by simp;omega)
 exact⟨v1,w2,hrun,hown,(aa.refl _ _).grown hg λk hk=>.inl hk,by simpa using hat⟩
structure BQ(w0 w:World)(bo:Nat)(xs:List Int):Prop where
 lt:bo<w0.heap.size
 ex:∃A c,ai w bo 94 #[U A xs.length c]∧w.ownsRow w0.heap.size 3 1 (U A xs.length c) xs.length (xs.map kI)
 frm:aa (·=bo) w0 w
theorem BQ.nix{w0 w w1:World}{xs:List Int}(h:BQ w0 w bo xs)(hf:aa ac w w1):BQ w0 w1 bo xs:=by
 obtain⟨A,c,h1,h2⟩:=h.ex;exact⟨h.lt,⟨A,c,h1.frm hf id,mH h2 hf λ_ _=>id⟩,h.frm.trans (hf.mono λ_ e=>e.elim)⟩
theorem DM{w0 w:World}{xs:List Int}(h:BQ w0 w bo xs)(hx:xs.length≤1000)(f:aP):
  Calls pQ 84 #[.agg #[I J f.id,I J f.inn,V f.url,V f.title],O (some ⟨bo,0,none⟩)] w λe w'=>e=.returned (.tuple #[])∧BQ w0 w' bo (xs++[f.id]):=by
 obtain⟨A,c,hb,ho⟩:=h.ex;obtain⟨w1,hw1⟩:∃w1,w1=w.alloc (.cells #[I J f.id,I J f.inn,V f.url,V f.title] 64):=⟨_,rfl⟩;have f1:aa ac w w1:=by rw[hw1];exact(fR w).alloc _
 have ho1:=mH ho f1 λ_ _=>id
 have hb1:=hb.frm f1 id;obtain⟨v',w2,hrun,hown,hf,-⟩:=Jk NU ho1 (Nat.le_trans h.frm.size f1.size) (I J f.id) rfl (by unfold maxLen;omega) (by omega);have hb2:=(hb1.alloc (.cells #[I J f.id] 3)).frm hf (λe=>mi ho1 hb1 (by decide) e);have q0:=hb.cell 0;simp at q0;have XF:=hb.lt;have g0:=hb2.frozen 0;have q2:=hb2.cell 0;simp at q2;obtain⟨A',c',rfl,-⟩:=nw hown;have hb3:=hb2.set_ 0 (U A' (xs.length+1) c');have hlen:(xs++[f.id]).length=xs.length+1:=by simp
 have hfr:aa (·=bo) w0 w2:=((h.frm.trans (f1.mono λ_ e=>e.elim)).trans (((fR w1).alloc _).mono λ_ e=>e.elim)).next hf λk hk=>.inr (ho1.lt k hk).1
 have HR:Hid (BQ w0 (w2.setCell ⟨bo,0,none⟩ (U A' (xs.length+1) c')) bo (xs++[f.id])):=by
  refine⟨h.lt,⟨A',c',by rw[hlen];exact hb3,?_⟩,hfr.setCell (.inl rfl) _⟩;rw[hlen,List.map_append];exact mH hown ((aa.refl (·=bo) w2).setCell (.inl rfl) _) λk hk e=>mi hown hb2 (by decide) (by rw[e] at hk;exact hk)
 rw[hw1] at hrun;rw[show (w.alloc (.cells #[I J f.id,I J f.inn,V f.url,V f.title] 64)).heap.size=w.heap.size+1 by simp] at hrun;clear hb ho f1 ho1 hb1 hown hf hb2 hb3 hlen hfr hw1 h;generalize xs.length=n at *;go_enter Tryz.func84,Tryz.ntmps84;go_wp2_with (at_builtin;refine aq hrun rfl _ _ rfl rfl rfl ?_)
 go_end0
 exact⟨rfl,HR.out⟩
theorem Tx{w:World}{b off:Nat}{f:aP}(h:∀(j:Nat) (u:Value),f.cells[j]? =some u→w.cell? ⟨b,off+j,none⟩=some u):
  w.cell? ⟨b,off,none⟩=some (I J f.id)∧w.cell? ⟨b,off+1,none⟩=some (I J f.inn)∧w.cell? ⟨b,off+2,none⟩=some (V f.url)∧w.cell? ⟨b,off+3,none⟩=some (V f.title):=
 ⟨h 0 _ rfl,h 1 _ rfl,h 2 _ rfl,h 3 _ rfl⟩
theorem Lx{g:Nat}{t:TypeId}{a0 a1 a2 a3:Value}(h:ai W g t #[a0,a1,a2,a3]):
  W.cell? ⟨g,0,none⟩=some a0∧W.cell? ⟨g,1,none⟩=some a1∧W.cell? ⟨g,2,none⟩=some a2∧W.cell? ⟨g,3,none⟩=some a3:=
 ⟨h.cell 0,h.cell 1,h.cell 2,h.cell 3⟩
theorem Fc{w:World}{g:Nat}{M:Ms}{x:St}(h:aw w g M x):Calls pQ 23 #[O (some ⟨g,0,none⟩)] w λe w'=>∃Ao co Ae ce Ai ci As cs,∃ts:List (Sl×aJ),e=.returned (.agg #[I J x.clock,U Ao x.fols.length co,U Ae x.fees.length ce,U Ai x.itms.length ci,U As x.seas.length cs,I J x.tFol,I J x.tFee,I J x.tItm,I J x.tSea])∧aM w' (λk=>w.heap.size≤k) (Ao,co) (Ae,ce) (Ai,ci) (As,cs) ts x∧aa ac w w':=
 (wD h).mono λe w' ⟨⟨a,b⟩,⟨c,d⟩,⟨p,q⟩,⟨r,s⟩,ts,h1,h2,h3⟩=>⟨a,b,c,d,p,q,r,s,ts,h1,h2,h3⟩
theorem Lz(a0 a1 a2 a3 a4 a5 a6 a7 a8:Value)(w:World):(Instr.field 36 (.agg #[a0,a1,a2,a3,a4,a5,a6,a7,a8]) 1).run pQ w=.ok a1 w:=by kernel_rfl
theorem LA(a0 a1 a2 a3 a4 a5 a6 a7 a8:Value)(w:World):(Instr.field 36 (.agg #[a0,a1,a2,a3,a4,a5,a6,a7,a8]) 2).run pQ w=.ok a2 w:=by kernel_rfl
theorem Fd(a0 a1 a2 a3 a4 a5 a6 a7 a8:Value)(w:World):(Instr.field 36 (.agg #[a0,a1,a2,a3,a4,a5,a6,a7,a8]) 3).run pQ w=.ok a3 w:=by kernel_rfl
theorem NX{x:St}(h:di x){f:aP}(hf:f∈x.fees):eQ x f.inn=true:=(h.eE f hf).2.2
theorem DN{w:World}{g:Nat}{M:Ms}{x:St}(h:aw w g M x)(hi:bj i)(hb:ai w bo 94 #[U none 0 0])(J5:¬SF g M bo):
  Calls pQ 83 #[O (some ⟨g,0,none⟩),I J i,.func (.func 84) #[] #[O (some ⟨bo,0,none⟩)]] w λe w'=>e=.returned (.tuple #[])∧∃A c,ai w' bo 94 #[U A (dF x i).length c]∧aN w' (λk=>w.heap.size≤k) 1 (A,c) (dF x i).length ((dF x i).map kI)∧aa (·=bo) w w':=by
 have KF:=h_ (po h hi);have HS:=h_ h;have HB:=h_ hb;have My:=h_ J5;have HP:=h_ h.ok;have hbl:bo<w.heap.size:=hb.lt
 cases hin:eQ x i with
 | false=>
   rw[hin] at KF;have hu:dF x i=[]:=by unfold dF;rw[hin];rfl
   rw[hu];clear h hb J5 hu hin;go_enter Tryz.func83,Tryz.ntmps83;go_wp2_with (go_at_call 50;refine KF.out.mono ?_;rintro e w1 ⟨rfl,hf⟩;have Z1:=h_ hf;clear hf);refine bodyPost_ret (results_none rfl _ _ _) rfl ?_
   exact⟨rfl,none,0,HB.out.frm Z1.out id,aN.none_ _ _ _,Z1.out.mono λ_ e=>e.elim⟩
 | true=>
   rw[hin] at KF;obtain⟨l,hl⟩:∃l,dF x i=l:=⟨_,rfl⟩
   have HL:Hid ((x.fees.filter λf=>bD x f.inn i).map aP.id=l):=by
    unfold Hid;rw[←hl];unfold dF;rw[hin,if_pos rfl]
   rw[hl];obtain⟨n,hn⟩:∃n,x.fees.length=n:=⟨_,rfl⟩;have HN:=h_ hn;have XG:n≤64:=by rw[←hn];exact h.ok.eL
   have KT:Hid (∀W,aa ac w W→Calls pQ 23 #[O (some ⟨g,0,none⟩)] W λe w'=>∃Ao co Ae ce Ai ci As cs,∃ts:List (Sl×aJ),e=.returned (.agg #[I J x.clock,U Ao x.fols.length co,U Ae n ce,U Ai x.itms.length ci,U As x.seas.length cs,I J x.tFol,I J x.tFee,I J x.tItm,I J x.tSea])∧aM w' (λk=>W.heap.size≤k) (Ao,co) (Ae,ce) (Ai,ci) (As,cs) ts x∧aa ac W w'):=λW hW=>by
    have:=Fc (h.nix hW);rw[hn] at this;exact this
   have Na:=LA;clear h hb J5 hl hn hin;go_enter Tryz.func83,Tryz.ntmps83
   go_wp2_with (first
    | (go_at_call 23;have _q:=Z1;refine(KT.out _ Z1.out).mono ?_;rintro e w2 ⟨Ao,co,Ae,ce,Ai,ci,As,cs,ts,rfl,hd,hf⟩;have HD:=h_ hd;have Z2:Hid (aa ac w w2):=Z1.out.trans hf;have Jl:Hid (w.heap.size≤w1.heap.size):=Z1.out.size;clear hd hf)
    | (go_at_call 50;refine KF.out.mono ?_;rintro e w1 ⟨rfl,hf⟩;have Z1:=h_ hf;clear hf))
   go_loopw [16] (λkv wr=>∃k:Nat,k≤n∧kv=I J k∧BQ w2 wr bo (((x.fees.take k).filter λf=>bD x f.inn i).map aP.id)) (λkv _=>n-(intOf kv).toNat)
   case atStart=>exact⟨0,by omega,rfl,⟨Nat.lt_of_lt_of_le hbl Z2.out.size,⟨none,0,HB.out.frm Z2.out id,World.ownsRow_nil _ _ _ _⟩,aa.refl _ _⟩⟩
   case round=>
    obtain⟨k,hk,rfl,ho⟩:=hrel;have HO:=h_ ho;have mK:Hid (aa (·=bo) w2 wr):=ho.frm;have XH:Hid (aw wr g M x):=(HS.out.nix Z2.out).frm mK.out (λj hj e=>My.out (e ▸ hj)) (λj hj e=>(HB.out.frm Z2.out id).ne_str (by decide) hj e);clear ho
    by_cases hlt:k<n
    ·have dX:k<x.fees.length:=by rw[HN.out];exact hlt
     obtain⟨b,off,hA,-,XI,hcell⟩:=(HD.out.fees.frm mK.out (λj hj e=>by have:=Jl.out;omega)).at_ aP.clen (by decide) (by omega);dsimp only at hA;subst hA;have h4:=Tx (w:=wr) (b:=b) (off:=off+k * 4) (f:=x.fees[k]) (hcell k dX);have hmem:x.fees[k]∈x.fees:=List.getElem_mem dX;have hst:=rr x.fees k dX λf=>bD x f.inn i
     obtain⟨f,hf⟩:∃f,x.fees[k]=f:=⟨_,rfl⟩;rw[hf] at h4 hmem hst;obtain⟨x0,x1,x2,x3⟩:=h4;have HST:=h_ hst;have ry:=NX HP.out hmem;obtain⟨j,hj,hc⟩:=Je HP.out ry;have HW:Hid (bD x f.inn i=(decide (xG x.fols j f.inn i=i)||decide (i=0))):=GD HP.out ry hc (by omega)
     have Qe:(((x.fees.take k).filter λf=>bD x f.inn i).map aP.id).length≤1000:=by
      rw[List.length_map];have:=List.length_filter_le (λf:aP=>bD x f.inn i) (x.fees.take k);rw[List.length_take] at this;omega
     have KI:Hid (∀W,aa ac wr W→Calls pQ 134 #[O (some ⟨g,0,none⟩),I J f.inn,I J i] W λe w'=>e=.returned (.bool (decide (xG x.fols j f.inn i=i)))∧aa ac W w'):=λW hW=>BP (XH.out.nix hW) (HP.out.inS64 ry) (by omega) hc
     have KU:Hid (∀W,aa ac wr W→Calls pQ 84 #[.agg #[I J f.id,I J f.inn,V f.url,V f.title],O (some ⟨bo,0,none⟩)] W λe w'=>e=.returned (.tuple #[])∧BQ w2 w' bo ((((x.fees.take k).filter λf=>bD x f.inn i).map aP.id)++[f.id])):=λW hW=>DM (HO.out.nix hW) Qe f
     clear hcell hf hmem hst ry hc Qe
     by_cases ux:i=0
     ·have hw1:bD x f.inn i=true:=by rw[HW.out,ux];simp
      have HX:Hid ((((x.fees.take k).filter λf=>bD x f.inn i).map aP.id)++[f.id]=(((x.fees.take (k+1)).filter λf=>bD x f.inn i).map aP.id)):=by
       unfold Hid;rw[HST.out,if_pos hw1,List.map_append];rfl
      have Ty:(i==0)=true:=beq_iff_eq.2 ux;clear hw1 ux;go_wp2_with fail;refine(KU.out _ (by repeat' (first|with_reducible exact aa.refl _ _|with_reducible apply aa.alloc))).mono ?_;rintro e w4 ⟨rfl,ho⟩;rw[HX.out] at ho;have Tz:=h_ ho;clear ho;go_wp2;go_roundw
      case rel=>exact⟨k+1,by omega,by go_num,Tz.out⟩
      case measure=>simp[intOf];omega
     ·obtain⟨q,hq⟩:∃q,decide (xG x.fols j f.inn i=i)=q:=⟨_,rfl⟩
      rw[hq] at KI HW;rw[decide_eq_false ux,Bool.or_false] at HW;have Ty:(i==0)=false:=beq_eq_false_iff_ne.2 ux;clear hq ux
      cases q with
      | true=>
        have HX:Hid ((((x.fees.take k).filter λf=>bD x f.inn i).map aP.id)++[f.id]=(((x.fees.take (k+1)).filter λf=>bD x f.inn i).map aP.id)):=by
         unfold Hid;rw[HST.out,if_pos HW.out,List.map_append];rfl
        go_wp2_with (go_at_call 134;refine(KI.out _ ((fR wr).alloc _)).mono ?_;rintro e w3 ⟨rfl,hf⟩;obtain⟨y0,y1,y2,y3⟩:=Lx ((ai.new wr 64 #[I J f.id,I J f.inn,V f.url,V f.title]).frm hf id);have Z3:Hid (aa ac wr w3):=((fR wr).alloc _).trans hf;clear hf);refine(KU.out _ Z3.out).mono ?_;rintro e w4 ⟨rfl,ho⟩;rw[HX.out] at ho;have Tz:=h_ ho;clear ho;go_wp2;go_roundw
        case rel=>exact⟨k+1,by omega,by go_num,Tz.out⟩
        case measure=>simp[intOf];omega
      | false=>
        have HX:Hid ((((x.fees.take k).filter λf=>bD x f.inn i).map aP.id)=(((x.fees.take (k+1)).filter λf=>bD x f.inn i).map aP.id)):=by
         unfold Hid;rw[HST.out,if_neg (by rw[HW.out];decide),List.append_nil]
        go_wp2_with (go_at_call 134;refine(KI.out _ ((fR wr).alloc _)).mono ?_;rintro e w3 ⟨rfl,hf⟩;have Z3:Hid (aa ac wr w3):=((fR wr).alloc _).trans hf;clear hf);go_roundw
        case rel=>exact⟨k+1,by omega,by go_num,by rw[←HX.out];exact HO.out.nix Z3.out⟩
        case measure=>simp[intOf];omega
    ·obtain rfl:k=n:=by omega
     have HE:Hid (((x.fees.take k).filter λf=>bD x f.inn i).map aP.id=l):=by
      unfold Hid;rw[List.take_of_length_le (by rw[HN.out];exact Nat.le_refl _)];exact HL.out
     go_wp2
     go_end0
     rw[HE.out] at HO;obtain⟨A,c,q1,q2⟩:=HO.out.ex
     exact⟨rfl,A,c,q1,by
      obtain⟨A',c',e,e1,e2,e3,-⟩:=nw q2;injection e with ea eb ec;subst ea;subst ec;have hr:=Rd.of_own q2;exact⟨hr.mono λj hj=>Nat.le_trans Z2.out.size (q2.lt j hj).1,e1,e2,e3⟩,(Z2.out.mono λ_ e=>e.elim).trans mK.out⟩
theorem yq{w:World}{g:Nat}{M:Ms}{x:St}(h:aw w g M x)(hi:bj i):
  Calls pQ 40 #[O (some ⟨g,0,none⟩),I J i] w λe w'=>∃A c,e=.returned (U A (dF x i).length c)∧aN w' (λk=>w.heap.size≤k) 1 (A,c) (dF x i).length ((dF x i).map kI)∧aa ac w w':=by
 have K:=h_ (DN (h.nix ((fR w).alloc (.cells #[U none 0 0] 94))) hi (ai.new w 94 #[U none 0 0]) (λhk=>by have:=h.lt _ hk;omega));clear h;generalize dF x i=l at *;go_enter Tryz.func40,Tryz.ntmps40;go_wp2_with (go_at_call 83;refine K.out.mono ?_;rintro e w1 ⟨rfl,A,c,hb,hs,hf⟩;have c0:=hb.cell 0;simp at c0;have Z:Hid (aN w1 (λk=>w.heap.size≤k) 1 (A,c) l.length (l.map kI)∧aa ac w w1):=⟨hs.mono λk hk=>by(have:=hk;simp at this;omega),((fR w).alloc _).next hf λk e=>.inr (by omega)⟩;clear hb hs hf);go_ret;exact⟨A,c,rfl,Z.out.1,Z.out.2⟩
theorem DR{w:World}(f:bg){b:Int}(c1:w.cell? ⟨b1,0,none⟩=some (I J b))(c2:w.cell? ⟨b2,0,none⟩=some (V s)):
  Calls pQ 146 #[.agg #[I J f.id,I J f.inn,V f.name],O (some ⟨b1,0,none⟩),O (some ⟨b2,0,none⟩)] w λe w'=>e=.returned (.bool (decide (f.inn=b∧f.name=s)))∧aa ac w w':=by
 have l1:=World.block_lt_of_cell? w _ c1;have l2:=World.block_lt_of_cell? w _ c2
 by_cases h1:f.inn=b
 ·by_cases h2:f.name=s
  ·subst h1
   subst h2;go_enter Tryz.func146,Tryz.ntmps146;go_wp2;go_ret;exact⟨af (by simp),(fR w).alloc _⟩
  ·subst h1
   have h3:=qG h2;go_enter Tryz.func146,Tryz.ntmps146;go_wp2;go_ret;exact⟨af (by simp[h2]),(fR w).alloc _⟩
 ·go_enter Tryz.func146,Tryz.ntmps146
  go_wp2;go_ret;exact⟨af (by simp[h1]),(fR w).alloc _⟩
theorem BR{w:World}{A:Option Addr}{c:Nat}{l:List bg}(hv:aN w G 3 (A,c) l.length (l.flatMap bg.cells))(hn:l.length≤1000){b:Int}(c1:w.cell? ⟨b1,0,none⟩=some (I J b))(c2:w.cell? ⟨b2,0,none⟩=some (V s)):
  Calls pQ 177 #[U A l.length c,.func (.func 146) #[] #[O (some ⟨b1,0,none⟩),O (some ⟨b2,0,none⟩)]] w λe w'=>∃r:Int,e=.returned (I J r)∧decide (0≤r)=(l.any λf=>decide (f.inn=b∧f.name=s))∧aa ac w w':=by
 have l1:=World.block_lt_of_cell? w _ c1;have l2:=World.block_lt_of_cell? w _ c2;obtain⟨n,lG⟩:∃n,l.length=n:=⟨_,rfl⟩;have HL:=h_ lG;have HV:=h_ hv;have HC:Hid (∀W,aa ac w W→W.cell? ⟨b1,0,none⟩=some (I J b)∧W.cell? ⟨b2,0,none⟩=some (V s)):=λW hW=>⟨(hW.cell (p:=⟨b1,0,none⟩) l1 id).trans c1,(hW.cell (p:=⟨b2,0,none⟩) l2 id).trans c2⟩
 rw[lG] at hn ⊢;clear hv lG c1 c2 l1 l2;go_enter Tryz.func177,Tryz.ntmps177;go_wp2
 go_loopw [8] (λkv wr=>∃k:Nat,k≤n∧kv=I J k∧((l.take k).any λf=>decide (f.inn=b∧f.name=s))=false∧aa ac w wr) (λkv _=>n-(intOf kv).toNat)
 case atStart=>exact⟨0,by omega,rfl,rfl,aa.refl _ _⟩
 case round=>
  obtain⟨k,hk,rfl,ht,hf⟩:=hrel;have HT:=h_ ht;have HF:=h_ hf;clear ht hf
  by_cases hlt:k<n
  ·have dX:k<l.length:=by rw[HL.out];exact hlt
   obtain⟨bb,off,hA,-,hbl,hcell⟩:=(HV.out.nix HF.out).at_ bg.clen (by decide) (by omega);dsimp only at hA;subst hA;obtain⟨x0,x1,x2⟩:=Tw (w:=wr) (b:=bb) (off:=off+k * 3) (f:=l[k]) (hcell k dX);have wF:Hid (decide (l[k].inn=b∧l[k].name=s)=true→(l.any λf=>decide (f.inn=b∧f.name=s))=true):=λh=>List.any_eq_true.2 ⟨_,List.getElem_mem dX,h⟩
   have Cz:Hid (decide (l[k].inn=b∧l[k].name=s)=false→((l.take (k+1)).any λf=>decide (f.inn=b∧f.name=s))=false):=λh=>by
    rw[List.take_succ_eq_append_getElem dX,List.any_append,HT.out,List.any_cons,h];rfl
   obtain⟨f,hf⟩:∃f,l[k]=f:=⟨_,rfl⟩;rw[hf] at x0 x1 x2 wF Cz;obtain⟨q1,q2⟩:=HC.out wr HF.out;have KN:=h_ (DR f q1 q2);clear hcell hf q1 q2;generalize decide (f.inn=b∧f.name=s)=bb2 at *
   cases bb2 with
   | true=>
     have HY:=h_ (wF.out rfl);go_wp2_with fail;refine KN.out.mono ?_;rintro e w1 ⟨rfl,hf⟩;have Z1:Hid (aa ac w w1):=HF.out.trans hf;clear hf;go_wp2;go_ret
     exact⟨k,rfl,by rw[HY.out];simp,Z1.out⟩
   | false=>
     have HY:=h_ (Cz.out rfl);go_wp2_with fail;refine KN.out.mono ?_;rintro e w1 ⟨rfl,hf⟩;have Z1:Hid (aa ac w w1):=HF.out.trans hf;clear hf;go_wp2;go_roundw
     case rel=>exact⟨k+1,by omega,by go_num,HY.out,Z1.out⟩
     case measure=>simp[intOf];omega
  ·obtain rfl:k=n:=by omega
   have xg:Hid ((l.any λf=>decide (f.inn=b∧f.name=s))=false):=by
    have:=HT.out
    rwa [List.take_of_length_le (by rw[HL.out];exact Nat.le_refl _)] at this
   go_wp2;go_ret;exact⟨-1,rfl,by rw[xg.out];rfl,HF.out⟩
theorem GF{w:World}{g:Nat}{M:Ms}{x:St}(h:aw w g M x)(b:Int)(s:ByteArray):
  Calls pQ 92 #[O (some ⟨g,0,none⟩),I J b,V s] w λe w'=>e=.returned (.bool (ey x b s))∧aa ac w w':=by
 have hf0:aa ac w ((w.alloc (.cells #[I J b] 3)).alloc (.cells #[V s] 9)):=((fR w).alloc _).alloc _;have KT:=h_ (Fc (h.nix hf0));have gH:=h_ ((ai.new w 3 #[I J b]).alloc (.cells #[V s] 9));have kh:=h_ (ai.new (w.alloc (.cells #[I J b] 3)) 9 #[V s]);have HN:Hid (ey x b s=x.fols.any λf=>decide (f.inn=b∧f.name=s)):=rfl;have hl:x.fols.length≤1000:=by have:=h.ok.fL;omega
 have KC:Hid (∀W A c G,aN W G 3 (A,c) x.fols.length (x.fols.flatMap bg.cells)→W.cell? ⟨w.heap.size,0,none⟩=some (I J b)→W.cell? ⟨w.heap.size+1,0,none⟩=some (V s)→Calls pQ 177 #[U A x.fols.length c,.func (.func 146) #[] #[O (some ⟨w.heap.size,0,none⟩),O (some ⟨w.heap.size+1,0,none⟩)]] W λe w'=>∃r:Int,e=.returned (I J r)∧decide (0≤r)=(x.fols.any λf=>decide (f.inn=b∧f.name=s))∧aa ac W w'):=λW A c G hv h1 h2=>BR hv hl h1 h2
 have XJ:Hid (∀W A c G,aN W G 3 (A,c) x.fols.length (x.fols.flatMap bg.cells)→W.cell? ⟨w.heap.size,0,none⟩=some (I J b)→W.cell? ⟨w.heap.size+1,0,none⟩=some (V s)→Calls pQ 145 #[U A x.fols.length c,.func (.func 146) #[] #[O (some ⟨w.heap.size,0,none⟩),O (some ⟨w.heap.size+1,0,none⟩)]] W λe w'=>e=.returned (.bool (ey x b s))∧aa ac W w'):=λW A c G hv h1 h2=>by
  have K:=h_ (KC.out W A c G hv h1 h2);clear hv h1 h2 KC gH kh KT hf0 h;rw[HN.out];generalize (x.fols.any λf=>decide (f.inn=b∧f.name=s))=q at *;go_enter Tryz.func145,Tryz.ntmps145;go_wp2_with (go_at_call 177;refine K.out.mono ?_;rintro e w1 ⟨r,rfl,hr,hf⟩;have Z1:=h_ hf;have HR:=h_ hr;clear hf hr);go_ret;exact⟨af HR.out,Z1.out⟩
 have Na:=Lz;clear h KC hf0;generalize ey x b s=q at *;go_enter Tryz.func92,Tryz.ntmps92
 go_wp2_with (first
  | (go_at_call 145;have _q:=Z1;refine(XJ.out _ _ _ _ HD.out (by have:=(gH.out.frm Bq.out id).cell 0;simpa using this) (by have:=(kh.out.frm Bq.out id).cell 0;simpa using this)).mono ?_;rintro e w2 ⟨rfl,hf⟩;have Z2:Hid (aa ac w w2):=Z1.out.trans hf;clear hf)
  | (go_at_call 23;refine KT.out.mono ?_;rintro e w1 ⟨Ao,co,Ae,ce,Ai,ci,As,cs,ts,rfl,hd,hf⟩;have HD:=h_ hd.fols;have Bq:=h_ hf;have Z1:Hid (aa ac w w1):=(((fR w).alloc _).alloc _).trans hf;clear hd hf))
 go_ret;exact⟨rfl,Z2.out⟩
end Go.Proofs.YtaecjmiobllhmaaGreat
