/- Words. -/
import Derived.Test.YtaecjmiobllhmaaGreatGr06
set_option linter.unusedVariables false
set_option linter.unusedSimpArgs false
set_option maxRecDepth 100000
set_option maxHeartbeats 16000000
namespace Go.Proofs.YtaecjmiobllhmaaGreat
open Go.Value renaming int→I,string→V,slice→U,pointer→O
open Go.IntKind renaming i64→J
open Tryz renaming prog→pQ
open Go.Lib Go.RowKit
variable {n:Nat}{w0 w:World}{b:Nat}{p v:Value}{bs:List Value}
def qg:Nat→List UInt8→Bool
 | 0,_=>true
 | n+1,l=>if l=[] then true else if decodeL l=(65533,1) then false else qg n (l.drop (decodeL l).2)
def cV(l:List UInt8):Bool:=qg l.length l
theorem mm:∀n,qg n []=true
 | 0=>rfl
 | _+1=>by simp[qg]
theorem ut:∀(n m:Nat) (l:List UInt8),l.length≤n→l.length≤m→qg n l=qg m l
 | 0,m,l,hn,_=>by
   have:l=[]:=List.eq_nil_of_length_eq_zero (by omega);subst this
   rw[mm,mm]
 | n+1,0,l,_,hm=>by
   have:l=[]:=List.eq_nil_of_length_eq_zero (by omega);subst this
   rw[mm,mm]
 | n+1,m+1,l,hn,hm=>by
   by_cases hne:l=[]
   ·subst hne
    rw[mm,mm]
   ·have hw:=decodeL_width l
    have hl:0<l.length:=List.length_pos_iff.2 hne;simp only[qg,if_neg hne];rw[ut n m _ (by rw[List.length_drop];omega) (by rw[List.length_drop];omega)]
theorem vN:cV []=true:=rfl
theorem vO(l:List UInt8)(h:decodeL l=(65533,1))(hne:l≠[]):cV l=false:=by
 have hl:0<l.length:=List.length_pos_iff.2 hne;unfold cV;obtain⟨n,hn⟩:∃n,l.length=n+1:=⟨l.length-1,by omega⟩;rw[hn];simp[qg,hne,h]
theorem uv(l:List UInt8)(h:decodeL l≠(65533,1))(hne:l≠[]):cV l=cV (l.drop (decodeL l).2):=by
 have hw:=decodeL_width l;have hl:0<l.length:=List.length_pos_iff.2 hne;unfold cV;obtain⟨n,hn⟩:∃n,l.length=n+1:=⟨l.length-1,by omega⟩;rw[hn];simp only[qg,if_neg hne,if_neg h];exact ut _ _ _ (by rw[List.length_drop];omega) (by rw[List.length_drop];exact Nat.le_refl _)
theorem GS{l:List UInt8}(h:2<l.length):∃t,l=l.getD 0 0::l.getD 1 0::l.getD 2 0::t:=by
 match l,h with
 | _::_::_::t,_=>exact⟨t,by simp⟩
theorem ua{x:UInt8}(h:x.toNat=n):x=UInt8.ofNat n:=by
 rw[←h];simp
theorem Cs(l:List UInt8)(h:(decodeL l).1=65533):decodeL l=(65533,1)∨decodeL l=(65533,3)∧∃t,l=239::191::189::t:=by
 rw[decodeL_N] at h ⊢;have k0:=(l.getD 0 0).toNat_lt;have k1:=(l.getD 1 0).toNat_lt;have k2:=(l.getD 2 0).toNat_lt;rcases decodeN_shape l.length (l.getD 0 0).toNat (l.getD 1 0).toNat (l.getD 2 0).toNat (l.getD 3 0).toNat with ⟨c,e⟩|⟨c1,c2,c3,cv,e⟩|⟨c1,c2,c3,c4,cv,cs,e⟩|⟨c1,c2,c3,c4,c5,cv,cw,e⟩|e
 ·rw[e] at h
  simp only at h;omega
 ·rw[e] at h
  simp only at h;omega
 ·rw[e] at h ⊢
  simp only at h
  right
  refine⟨by rw[h],?_⟩;obtain⟨t,ht⟩:=GS c2;have e0:(l.getD 0 0).toNat=239:=by omega
  have e1:(l.getD 1 0).toNat=191:=by omega
  have e2:(l.getD 2 0).toNat=189:=by omega
  refine⟨t,?_⟩;rw[ua e0,ua e1,ua e2] at ht;exact ht
 ·rw[e] at h
  simp only at h;omega
 ·exact .inl e
theorem Ap(t:List UInt8):decodeL (239::191::189::t)≠(65533,1):=by
 rw[decodeL_N];simp[decodeN]
theorem Jg(l:List UInt8)(h:(decodeL l).1=65533):decodeL l=(65533,1)↔¬∃t,l=239::191::189::t:=by
 constructor
 ·rintro h1 ⟨t,rfl⟩
  exact Ap t h1
 ·intro hn
  rcases Cs l h with h1|⟨-,h1⟩
  ·exact h1
  ·exact absurd h1 hn
def qh(c:Nat):Bool:=decide (c=9∨c=10∨c=13∨c=32∨c=160∨c=8232∨c=8233∨c=12288)
def sU(c:Nat):Bool:=decide (c<32∨127≤c∧c≤159)
def ck:List Nat→List Nat→Bool→List Nat
 | [],out,_=>out
 | c::r,out,wt=>if qh c=true then ck r out (!out.isEmpty) else if sU c=true then ck r out wt else ck r ((if wt=true then out++[32] else out)++[c]) false
def iq(l:List UInt8):List UInt8:=enc (ck (bV l) [] false)
theorem Aq(rs:List Nat):(enc rs).isEmpty=rs.isEmpty:=by
 cases rs with
 | nil=>rfl
 | cons a r=>
   have:=(po (a::r)).1
   cases h:enc (a::r) with
   | nil=>rw[h] at this;simp at this
   | cons _ _=>rfl
theorem Ct(c:Nat)(w:World)(hc:c≤1114111):Calls pQ 135 #[.int .i32 c] w λe w'=>e=.returned (.bool (qh c))∧w=w':=by
 go_enter Tryz.func135,Tryz.ntmps135;go_wp2
 all_goals
  go_ret;refine⟨af ?_,rfl⟩
  try simp only[beq_iff_eq,bne_iff_ne,bne_eq_false_iff_eq,beq_eq_false_iff_ne,ne_eq,decide_eq_true_eq,decide_eq_false_iff_not,Bool.or_eq_true,Bool.or_eq_false_iff,Bool.and_eq_true,Bool.and_eq_false_iff] at *
  unfold qh;rw[Bool.eq_iff_iff];simp
  try omega
theorem EN(c:Nat)(w:World)(hc:c≤1114111):Calls pQ 137 #[.int .i32 c] w λe w'=>e=.returned (.bool (sU c))∧w=w':=by
 go_enter Tryz.func137,Tryz.ntmps137;go_wp2
 all_goals
  go_ret;refine⟨af ?_,rfl⟩
  try simp only[beq_iff_eq,bne_iff_ne,bne_eq_false_iff_eq,beq_eq_false_iff_ne,ne_eq,decide_eq_true_eq,decide_eq_false_iff_not,Bool.or_eq_true,Bool.or_eq_false_iff,Bool.and_eq_true,Bool.and_eq_false_iff] at *
  unfold sU;rw[Bool.eq_iff_iff];simp
  try omega
theorem xj(s:ByteArray)(pos:Nat):Lib.hasPrefix (s.extract pos s.size).data.toList ({data:=#[239,191,189]}:ByteArray).data.toList=true↔∃t,(aU s).drop pos=239::191::189::t:=by
 have e:(s.extract pos s.size).data.toList=(aU s).drop pos:=yC s pos;rw[e];show (([239,191,189]:List UInt8).isPrefixOf ((aU s).drop pos))=true↔_
 rw[List.isPrefixOf_iff_prefix];constructor
 ·rintro⟨t,ht⟩
  exact⟨t,ht.symm⟩
 ·rintro⟨t,ht⟩
  exact⟨t,ht.symm⟩
theorem Cu(s:ByteArray)(w:World)(hs:s.size≤1000000):
  Calls pQ 232 #[V s] w λe w'=>e=.returned (.bool (cV (aU s)))∧aa ag w w':=by
 go_enter Tryz.func232,Tryz.ntmps232;go_wp2
 go_loopw [] (λwr=>∃(pos:Nat),wr.heap[w.heap.size]? =some (.stringIter s pos)∧aa ag w wr∧cV ((aU s).drop pos)=cV (aU s)∧pos≤s.size) (λwr=>s.size-wr.iterPos w.heap.size)
 case atStart=>exact⟨0,World.iter_heap w s 0,(fR w).alloc _,by simp,Nat.zero_le _⟩
 case round=>
  obtain⟨pos,hit,hfr,hr,RM⟩:=hrel;have HF:=h_ hfr;have HR:=h_ hr;clear hfr hr
  by_cases hlt:pos<s.size
  ·have ED:∀ty,(Instr.next (O (some ⟨w.heap.size,0,none⟩)) true ty).run pQ wr=_:=λty=>Lib.run_next_any_at wr w.heap.size s pos ty hit hlt
   obtain⟨IY,Cm,RN⟩:=tW s pos hlt;have RU:=decodeL_drop s pos
   have hne:(aU s).drop pos≠[]:=λe=>by
    have:=congrArg List.length e;rw[List.length_drop,←bg] at this;simp at this;omega
   have qc:=Lib.iterAt_heap wr w.heap.size s pos (pos+(Utf8.decode s pos).2) hit;have IZ:=qb wr w.heap.size s (pos+(Utf8.decode s pos).2);have kX:Hid (aa ag w (wr.iterAt w.heap.size s (pos+(Utf8.decode s pos).2))):=HF.out.next IZ λi hi=>.inr (by rw[hi];exact Nat.le_refl _)
   have ou:=h_ (vO ((aU s).drop pos));have bv:=h_ (uv ((aU s).drop pos));have LV:=h_ (Jg ((aU s).drop pos));have NM:=h_ (xj s pos);have rR:=h_ hne;rw[RU] at ou bv LV;rw[List.drop_drop] at bv;clear IY RU IZ hne;have uS:(0:Int)≤(pos:Int):=Int.natCast_nonneg _;have hpl:(pos:Int)≤(s.size:Int):=by omega
   generalize Cp:Utf8.decode s pos=RK at *;obtain⟨R,K⟩:=RK;simp only at *;clear Cp;generalize wr.iterAt w.heap.size s (pos+K)=wi at *
   have RV:Hid (s.size-wi.iterPos w.heap.size<s.size-wr.iterPos w.heap.size):=by
    unfold Hid;simp only[World.iterPos,hit,qc];omega
   by_cases hR:R=65533
   ·subst hR
    have KP:=Tryz.strings_HasPrefix (s.extract pos s.size) {data:=#[239,191,189]}
    cases hpre:Lib.hasPrefix (s.extract pos s.size).data.toList ({data:=#[239,191,189]}:ByteArray).data.toList with
    | true=>
      have hgo:((65533:Nat),K)≠(65533,1):=λe=>(LV.out rfl).1 e (NM.out.1 hpre)
      have HG:Hid (cV ((aU s).drop (pos+K))=cV (aU s)):=(bv.out hgo rR.out).symm.trans HR.out;rw[hpre] at KP;have KP:=h_ KP;clear hpre hgo;go_wp2_with (go_at_call 242;refine(KP.out _).mono ?_;rintro e w' ⟨rfl,rfl⟩);go_roundw
      case rel=>exact⟨pos+K,qc,kX.out,HG.out,Cm⟩
      case measure=>exact RV.out
    | false=>
      have hno:¬∃t,(aU s).drop pos=239::191::189::t:=λh=>by
       rw[NM.out.2 h] at hpre
       cases hpre
      have HG:Hid (cV (aU s)=false):=HR.out.symm.trans (ou.out ((LV.out rfl).2 hno) rR.out);rw[hpre] at KP;have KP:=h_ KP;clear hpre hno;go_wp2_with (go_at_call 242;refine(KP.out _).mono ?_;rintro e w' ⟨rfl,rfl⟩);go_ret;exact⟨by rw[HG.out];rfl,kX.out⟩
   ·have hb:((R:Int)==65533)=false:=by simp;omega
    have hgo:(R,K)≠(65533,1):=λe=>hR (congrArg Prod.fst e)
    have HG:Hid (cV ((aU s).drop (pos+K))=cV (aU s)):=(bv.out hgo rR.out).symm.trans HR.out;clear hgo;go_wp2_with fail;go_roundw
    case rel=>exact⟨pos+K,qc,kX.out,HG.out,Cm⟩
    case measure=>exact RV.out
  ·have ED:∀ty,(Instr.next (O (some ⟨w.heap.size,0,none⟩)) true ty).run pQ wr=_:=λty=>Lib.run_next_end_at wr w.heap.size s pos ty hit hlt
   have HG:Hid (cV (aU s)=true):=by
    have h1:(aU s).drop pos=[]:=List.drop_eq_nil_iff.2 (by rw[←bg];omega);have h2:=HR.out;rw[h1,vN] at h2;exact h2.symm
   go_wp2;go_ret;exact⟨by rw[HG.out];rfl,HF.out⟩
theorem xk(hb0:w0.heap.size≤b)(hp:p=O none∨p=nE b)(hb:aj w b 175 #[p,v])(hr:aJ 5 w0 w v n bs)(r:Int)(hn:n+1≤140737488355328):
  Calls pQ 138 #[O (some ⟨b,0,none⟩),.int .u8 r] w λe w'=>e=.returned .nilIface∧
   ∃v',aj w' b 175 #[nE b,v']∧aJ 5 w0 w' v' (n+1) (bs++[.int .u8 r])∧aa (λk=>k=b∨v.ownBlock=some k) w w':=by
 have HR:=h_ hr;have HB:=h_ hb;obtain⟨A,c,rfl,-,-,hcm,-⟩:=hr.shape;have hne:=hr.ne_blk hb xJ;clear hr hb;go_enter Tryz.func138,Tryz.ntmps138;go_wp2_with fail;refine(rO b w p _ hp HB.out).mono ?_;rintro e w1 ⟨rfl,hb1,gI⟩;have xf:aJ 5 w0 w1 (U A n c) n bs:=HR.out.far gI (λk hk=>by rw[hk];exact hb0) (λk hk e=>hne (by rw[hk,e]));have c1:=hb1.cell 1;simp at c1;have hbl:=hb1.lt;obtain⟨v2,w2,hrun,hrow2,hf2,-⟩:=xf.push (P:=pQ) La (.int .u8 r) rfl (by unfold maxLen;omega) (by omega);obtain⟨A2,c2,rfl,-,-,NI,-⟩:=hrow2.shape;have hb2:aj w2 b 175 #[nE b,U A n c]:=(hb1.alloc (.cells #[.int .u8 r] 5)).frm hf2 hne;have d1:=hb2.cell 1;have f1:=hb2.frozen 1;simp at d1;have H1:=h_ (And.intro hb1 (And.intro gI xf));have H2:=h_ (And.intro hb2 (And.intro hf2 hrow2));clear hb1 gI xf hb2 hf2 hrow2;go_wp2_with (at_builtin;refine aq hrun rfl _ _ rfl rfl rfl ?_);go_ret;obtain⟨hb2,hf2,hr2⟩:=H2.out;have LM:=hr2.ne_blk hb2 xJ;refine⟨rfl,_,hb2.set_ 1 _,hr2.far ((aa.refl (λk=>k=b) w2).setCell (.inl rfl) _) (λk hk=>by rw[hk];exact hb0) (λk hk e=>LM (by rw[hk,e])),?_⟩;exact(((H1.out.2.1.mono λk hk=>.inl hk).alloc _).next (hf2.mono λk hk=>.inr hk) λk hk=>.inl hk).trans ((aa.refl (λk=>k=b∨(Value.slice A n c).ownBlock=some k) w2).setCell (.inl (.inl rfl)) _)
theorem GU(hb:aj w b 175 #[p,v])(hr:aJ 5 w0 w v n bs):
  Calls pQ 136 #[O (some ⟨b,0,none⟩)] w λe w'=>e=.returned (I J n)∧w=w':=by
 obtain⟨A,c,rfl,-,-,hcm,-⟩:=hr.shape;have d1:=hb.cell 1;simp at d1;clear hr hb;go_enter Tryz.func136,Tryz.ntmps136;go_wp2;go_ret;exact⟨rfl,rfl⟩
theorem LW:Lib.byteCells (ku 32)=[.int .u8 32]:=by rfl
theorem EO(l:List Nat):enc (l++[32])=enc l++ku 32:=by rw[kz];simp[enc]
theorem Cv:(ku 32).length=1:=by decide+kernel
structure sV(w wr:World)(s:ByteArray)(p v:Value)(out:List Nat):Prop where
 hp:p=O none∨p=nE w.heap.size
 hb:aj wr w.heap.size 175 #[p,v]
 hr:aJ 5 w wr v (enc out).length (Lib.byteCells (enc out))
 hv:∀r∈out,Vr r
theorem Cw(s:ByteArray)(w:World)(hs:s.size≤1000000):
  Calls pQ 85 #[V s] w λe w'=>e=.returned (V (kC (iq (aU s))))∧aa ag w w':=by
 have hb0:=aj.new w 175 #[O none,U none 0 0];go_enter Tryz.func85,Tryz.ntmps85;go_wp2
 go_loopw [4] (λwv wr=>∃(pos:Nat) (out:List Nat) (wt:Bool) (p v:Value),wv=.bool wt∧sV w wr s p v out∧wr.heap[w.heap.size+1]? =some (.stringIter s pos)∧enc (ck (bV ((aU s).drop pos)) out wt)=iq (aU s)∧pos≤s.size∧out.length≤2 * pos) (λ_ wr=>s.size-wr.iterPos (w.heap.size+1))
 case atStart=>
  have nB:aa ag w (w.alloc (.cells #[O none,U none 0 0] 175)):=(fR w).alloc _;refine⟨0,[],false,O none,U none 0 0,rfl,⟨.inl rfl,hb0.alloc _,aJ.nil_ _ (nB.alloc _),by simp⟩,?_,by simp[iq],Nat.zero_le _,by simp⟩;have:=World.iter_heap (w.alloc (.cells #[O none,U none 0 0] 175)) s 0
  simpa using this
 case round=>
  obtain⟨pos,out,wt,p,v,rfl,Lc,hit,yA,RM,GL⟩:=hrel;have HC:=h_ Lc;have HA:=h_ yA;have hbl:=Lc.hb.lt;clear Lc yA
  by_cases hlt:pos<s.size
  ·have ED:∀ty,(Instr.next (O (some ⟨w.heap.size+1,0,none⟩)) true ty).run pQ wr=_:=λty=>Lib.run_next_any_at wr (w.heap.size+1) s pos ty hit hlt
   obtain⟨IY,Cm,RN⟩:=tW s pos hlt;have hv:=pB ((aU s).drop pos);rw[decodeL_drop s pos] at hv;have qc:=Lib.iterAt_heap wr (w.heap.size+1) s pos (pos+(Utf8.decode s pos).2) hit;have IZ:=qb wr (w.heap.size+1) s (pos+(Utf8.decode s pos).2);have GM:v.ownBlock≠some (w.heap.size+1):=HC.out.hr.ne_obj hit λ_ _ _ h=>by cases h
   generalize Cp:Utf8.decode s pos=RK at *;obtain⟨R,K⟩:=RK;simp only at *;clear Cp;have HD:=h_ IY;clear IY;have uw:Hid (sV w (wr.iterAt (w.heap.size+1) s (pos+K)) s p v out):=⟨HC.out.hp,HC.out.hb.frm IZ (by omega),HC.out.hr.far IZ (λk hk=>by omega) (λk hk e=>GM (by rw[hk,e])),HC.out.hv⟩
   have Gh:∀w2:World,(∀k,k=w.heap.size+1→w2.heap[k]? =(wr.iterAt (w.heap.size+1) s (pos+K)).heap[k]?)→w2.heap[w.heap.size+1]? =some (.stringIter s (pos+K))∧s.size-w2.iterPos (w.heap.size+1)<s.size-wr.iterPos (w.heap.size+1):=by
    intro w2 h2;have h3:=(h2 _ rfl).trans qc;refine⟨h3,?_⟩;simp only[World.iterPos,h3,hit];omega
   generalize wr.iterAt (w.heap.size+1) s (pos+K)=wi at *;have Ld:=h_ Gh;have hR:R≤1114111:=by unfold Vr at hv;omega
   have hel:=po out
   have HN:Hid (ck (bV ((aU s).drop pos)) out wt=if qh R=true then ck (bV ((aU s).drop (pos+K))) out (!out.isEmpty) else if sU R=true then ck (bV ((aU s).drop (pos+K))) out wt else ck (bV ((aU s).drop (pos+K))) ((if wt=true then out++[32] else out)++[R]) false):=by
    unfold Hid;rw[HD.out,ck]
   have KB:=λW=>Ct R W hR
   have KC:=λW=>EN R W hR
   clear Gh IZ GM
   cases tX:qh R with
   | true=>
     have KL:=h_ (GU uw.out.hb uw.out.hr)
     have HE:Hid ((decide (0<((enc out).length:Int)))=!out.isEmpty):=by
      unfold Hid;rw[←Aq]
      cases enc out<;>simp
     have HG:Hid (enc (ck (bV ((aU s).drop (pos+K))) out (!out.isEmpty))=iq (aU s)):=by
      have:=HA.out;rw[HN.out,if_pos tX] at this;exact this
     rw[tX] at KB;clear hv tX hel
     go_wp2_with (first
        | (go_at_call 135;refine(KB _).mono ?_;rintro e w' ⟨rfl,rfl⟩)
        | (go_at_call 136;refine KL.out.mono ?_;rintro e w2 ⟨rfl,rfl⟩))
     go_roundw
     case rel=>exact⟨pos+K,out,!out.isEmpty,p,v,by rw[←HE.out];simp,uw.out,(Ld.out wi λ_ _=>rfl).1,HG.out,Cm,by omega⟩
     case measure=>exact(Ld.out wi λ_ _=>rfl).2
   | false=>
     rw[tX] at KB
     cases xl:sU R with
     | true=>
       have HG:Hid (enc (ck (bV ((aU s).drop (pos+K))) out wt)=iq (aU s)):=by
        have:=HA.out;rw[HN.out,if_neg (by simp[tX]),if_pos xl] at this;exact this
       rw[xl] at KC;clear hv tX xl hel
       go_wp2_with (first
         | (go_at_call 135;refine(KB _).mono ?_;rintro e w' ⟨rfl,rfl⟩)
         | (go_at_call 137;refine(KC _).mono ?_;rintro e w' ⟨rfl,rfl⟩))
       go_roundw
       case rel=>exact⟨pos+K,out,wt,p,v,rfl,uw.out,(Ld.out wi λ_ _=>rfl).1,HG.out,Cm,by omega⟩
       case measure=>exact(Ld.out wi λ_ _=>rfl).2
     | false=>
       have HG:Hid (enc (ck (bV ((aU s).drop (pos+K))) ((if wt=true then out++[32] else out)++[R]) false)=iq (aU s)):=by
        have:=HA.out;rw[HN.out,if_neg (by simp[tX]),if_neg (by simp[xl])] at this;exact this
       rw[xl] at KC;clear tX xl;have Jh:(enc [R]).length≤4:=(po [R]).2
       have HW:Hid (∀(W:World) (p' v':Value) (o:List Nat),sV w W s p' v' o→W.heap[w.heap.size+1]? =some (.stringIter s (pos+K))→o.length≤2 * pos+1→
         Calls pQ 139 #[O (some ⟨w.heap.size,0,none⟩),.int .i32 R] W λe w'=>e=.returned (.tuple #[I J (runeCells R).length,.nilIface])∧∃v2,sV w w' s (nE w.heap.size) v2 (o++[R])∧w'.heap[w.heap.size+1]? =W.heap[w.heap.size+1]?):=by
        intro W p' v' o hc hh ho;have U8:=po o;refine(rP (Nat.le_refl _) hc.hp hc.hb hc.hr (R:Int) (by omega) (by omega) (by omega)).mono ?_;rintro e w2 ⟨rfl,v2,hb2,hr2,hf2⟩;have e1:(enc (o++[R])).length=(enc o).length+(runeCells (R:Int)).length:=by rw[kz,List.length_append,runeCells_length];simp[enc];rfl
        have e2:Lib.byteCells (ku R)=runeCells (R:Int):=byteCells_encodeRune _;have e3:Lib.byteCells (enc (o++[R]))=Lib.byteCells (enc o)++runeCells (R:Int):=by rw[kz,byteCells_append,←e2];simp[enc]
        refine⟨rfl,v2,⟨.inr rfl,hb2,by rw[e1,e3];exact hr2,λr hr=>?_⟩,?_⟩
        ·rcases List.mem_append.1 hr with hr|hr
         ·exact hc.hv r hr
         ·simp at hr
          rw[hr];exact hv
        ·refine hf2.block _ (ed hh) (λh=>?_)
         rcases h with h|h
         ·omega
         ·exact hc.hr.ne_obj hh (λ_ _ _ h=>by cases h) h
       cases wt with
       | false=>
         have KW:=h_ (HW.out wi p v out uw.out qc (by omega));clear hv hel Jh
         go_wp2_with (first
          | (go_at_call 135;refine(KB _).mono ?_;rintro e w' ⟨rfl,rfl⟩)
          | (go_at_call 137;refine(KC _).mono ?_;rintro e w' ⟨rfl,rfl⟩)
          | (go_at_call 139;refine KW.out.mono ?_;rintro e w2 ⟨rfl,v2,hc2,Gi⟩;have HX:=h_ (And.intro hc2 Gi);clear hc2 Gi))
         go_roundw
         case rel=>exact⟨pos+K,out++[R],false,nE w.heap.size,v2,rfl,HX.out.1,(Ld.out w2 λk hk=>by rw[hk];exact HX.out.2).1,HG.out,Cm,by simp;omega⟩
         case measure=>exact(Ld.out w2 λk hk=>by rw[hk];exact HX.out.2).2
       | true=>
         have S6:=h_ (xk (Nat.le_refl _) uw.out.hp uw.out.hb uw.out.hr 32 (by omega))
         have bT:Hid (∀(w2:World) (v1:Value),aj w2 w.heap.size 175 #[nE w.heap.size,v1]→aJ 5 w w2 v1 ((enc out).length+1) (Lib.byteCells (enc out)++[.int .u8 32])→aa (λk=>k=w.heap.size∨v.ownBlock=some k) wi w2→sV w w2 s (nE w.heap.size) v1 (out++[32])∧w2.heap[w.heap.size+1]? =wi.heap[w.heap.size+1]?):=by
          intro w2 v1 h1 h2 h3;refine⟨⟨.inr rfl,h1,by rw[EO,List.length_append,byteCells_append,LW,Cv];exact h2,λr hr=>?_⟩,h3.block _ (ed qc) (λh=>?_)⟩
          ·rcases List.mem_append.1 hr with hr|hr
           ·exact uw.out.hv r hr
           ·simp at hr
            rw[hr];unfold Vr;omega
          ·rcases h with h|h
           ·omega
           ·exact uw.out.hr.ne_obj qc (λ_ _ _ h=>by cases h) h
         clear hv hel Jh
         go_wp2_with (first
          | (go_at_call 135;refine(KB _).mono ?_;rintro e w' ⟨rfl,rfl⟩)
          | (go_at_call 137;refine(KC _).mono ?_;rintro e w' ⟨rfl,rfl⟩)
          | (go_at_call 138;refine S6.out.mono ?_;rintro e w1 ⟨rfl,v1,hc1,hc2,hc3⟩;have HY:=h_ (bT.out w1 v1 hc1 hc2 hc3);clear hc1 hc2 hc3)
          | (go_at_call 139;refine(HW.out w1 _ v1 _ HY.out.1 (HY.out.2.trans qc) (by simp;omega)).mono ?_;rintro e w2 ⟨rfl,v2,hc2,Gi⟩;have HX:=h_ (And.intro hc2 (Gi.trans HY.out.2));clear hc2 Gi))
         go_roundw
         case rel=>exact⟨pos+K,out++[32]++[R],false,nE w.heap.size,v2,rfl,HX.out.1,(Ld.out w2 λk hk=>by rw[hk];exact HX.out.2).1,HG.out,Cm,by simp;omega⟩
         case measure=>exact(Ld.out w2 λk hk=>by rw[hk];exact HX.out.2).2
  ·have ED:∀ty,(Instr.next (O (some ⟨w.heap.size+1,0,none⟩)) true ty).run pQ wr=_:=λty=>Lib.run_next_end_at wr (w.heap.size+1) s pos ty hit hlt
   have hel:=po out
   have hI:Lib.IsBuilder 175 5 w.heap.size w.heap.size (Lib.byteCells (enc out)) wr:=by
    have h1:BuilderAt 175 5 w.heap.size w.heap.size p (Lib.byteCells (enc out)) wr:=⟨Nat.le_refl _,v,HC.out.hb,by rw[Lib.byteCells_length];exact HC.out.hr.own,HC.out.hr.ne_blk HC.out.hb xJ⟩;rcases HC.out.hp with e|e
    ·subst e;exact .inl h1
    ·subst e;exact .inr h1
   have KS:=h_ (Tryz.Builder_String_any w.heap.size w.heap.size (enc out) wr hI (by omega))
   have EE:Hid (enc out=iq (aU s)):=by
    have h1:(aU s).drop pos=[]:=List.drop_eq_nil_iff.2 (by rw[←bg];omega);have h2:=HA.out;rw[h1,p9,ck] at h2;exact h2
   have HF:=h_ HC.out.hr.frm;clear hI hel;go_wp2_with (go_at_call 140;refine KS.out.mono ?_;rintro e w1 ⟨rfl,sQ⟩);go_ret;have hs0:=HF.out.size;have hfb:aa (λk=>w.heap.size≤k) wr w1:=⟨sQ.os,sQ.tape,sQ.output,sQ.size,λi _ hn=>sQ.block i (by omega)⟩;exact⟨by rw[EE.out];rfl,HF.out.next hfb λi hi=>.inr hi⟩
end Go.Proofs.YtaecjmiobllhmaaGreat
