/-
  Plain: each event that a command asks for fits, and changes something, one behind the other; asked for again, what makes nothing asks for nothing.
-/
import Derived.Test.YtdihmpakglakdaaGreatGa34
import Derived.Test.YtdihmpakglakdaaGreatGa10
set_option linter.unusedVariables false
set_option linter.unusedSimpArgs false
namespace Go.Proofs.YtdihmpakglakdaaGreat
section
def Moves:St→List Ev→Prop
 | _,[]=>True
 | x,e::r=>fits x e=true∧doS x e≠x∧Moves (doS x e) r
theorem ch_fits{x:St}{e:Ev}(h:chS x e=true):fits x e=true∧doS x e≠x:=by
 unfold chS at h
 cases hf:fits x e with
 | false=>
   unfold applyS at h
   simp[hf] at h
 | true=>
   rw[ap_fit hf] at h;exact⟨rfl,by simpa using h⟩
theorem moves_one{x:St}{e:Ev}(h:chS x e=true):Moves x [e]:=⟨(ch_fits h).1,(ch_fits h).2,trivial⟩
theorem moves_filt1{x:St}(e:Ev):Moves x ([e].filter (chS x)):=by
 cases h:chS x e with
 | false=>simp[h,Moves]
 | true=>simp only[List.filter,h];exact moves_one h
theorem moves_read:∀ (l:List Itm) {x:St},StP x→(∀ t ∈ l,∃ q ∈ x.itms,q.id=t.id∧q.read=false)→l.Pairwise (fun a b=>a.id≠b.id)→Moves x (l.map fun t=>⟨8,t.id,0,1,eS,eS,eS⟩)
 | [],_,_,_,_=>trivial
 | t::l,x,h,hl,hp=>by
   obtain⟨q,hq,hqi,hqr⟩:=hl t (by simp);have hat:atI Itm.id t.id x.itms=some q:=atI_some h.iR hq hqi;have hc:chS x ⟨8,t.id,0,1,eS,eS,eS⟩=true:=by rw[ch8 h hat (.inr rfl),hqr];rfl
   obtain⟨h1,h2⟩:=ch_fits hc;refine⟨h1,h2,moves_read l (doS_ok h h1) (fun a ha=>?_) (List.pairwise_cons.1 hp).2⟩;obtain⟨r,hr,hri,hrr⟩:=hl a (by simp[ha]);have hne:r.id≠t.id:=by rw[hri];exact fun e=>(List.pairwise_cons.1 hp).1 a ha e.symm
   refine⟨r,?_,hri,hrr⟩;rw[do8 rfl];show r ∈ updI Itm.id t.id _ x.itms
   rw[updI_map _ h.iR];exact List.mem_map.2 ⟨r,hr,if_neg hne⟩
theorem sub_ids{x:St}(h:StP x)(p:Itm→Bool):(x.itms.filter p).Pairwise fun a b=>a.id≠b.id:=
 (h.iR.sublist List.filter_sublist).imp fun hab e=>by omega
section
variable {sh:ByteArray→Int→ByteArray} {tg:ByteArray→ByteArray}
theorem moves_readP{x:St}(h:StP x)(l:List Int):Moves x (readP x l):=by
 unfold readP;refine moves_read _ h (fun t ht=>?_) (sub_ids h _);rw[List.mem_filter] at ht;refine⟨t,ht.1,rfl,?_⟩;have:=ht.2;simp only[Bool.and_eq_true,Bool.not_eq_true'] at this;exact this.1
theorem plan_moves(hsh:∀ s m,0≤m→textOk (sh s m) m=true){x:St}(h:StP x)(c:Cm):Moves x (planP sh tg x c).1:=by
 by_cases k10:c.kind=10∨c.kind=11
 ·obtain⟨k,a,b,n,s,t⟩:=c
  rcases k10 with rfl | rfl
  ·cases hi:isI Fee.id a x.fees with
   | false=>simp[planP,hi,Moves]
   | true=>
     have:(planP sh tg x ⟨10,a,b,n,s,t⟩).1=readP x [a]:=by simp[planP,hi]
     rw[this];exact moves_readP h _
  ·cases hi:inS x a with
   | false=>simp[planP,hi,Moves]
   | true=>
     have:(planP sh tg x ⟨11,a,b,n,s,t⟩).1=readP x (underS x a):=by simp[planP,hi]
     rw[this];exact moves_readP h _
 ·have h1:wrongD sh tg x c=0→(askedD sh tg x c).length=1:=by
   intro h0
   by_cases q1:c.kind=1
   ·simp[askedD,q1]
   by_cases q2:c.kind=2
   ·simp[askedD,q2]
   by_cases q3:c.kind=3
   ·simp[askedD,q3]
   by_cases q4:c.kind=4
   ·simp[askedD,q4]
   by_cases q5:c.kind=5
   ·simp[askedD,q5]
   by_cases q6:c.kind=6
   ·simp[askedD,q6]
   by_cases q7:c.kind=7
   ·simp[askedD,q7]
   by_cases q8:c.kind=8
   ·simp[askedD,q8]
   by_cases q9:c.kind=9
   ·simp[askedD,q9]
   by_cases q12:c.kind=12
   ·simp[askedD,q12]
   by_cases q13:c.kind=13
   ·simp[askedD,q13]
   by_cases q14:c.kind=14
   ·simp[askedD,q14]
   have h10:¬c.kind=10:=fun e=>k10 (.inl e)
   have h11:¬c.kind=11:=fun e=>k10 (.inr e)
   simp[wrongD,q1,q2,q3,q4,q5,q6,q7,q8,q9,q12,q13,q14,h10,h11] at h0
  rw[plan_eq hsh h];unfold planD;have hch:(fun e=>!decide ((applyS x e).1=x))=chS x:=rfl;rw[hch];split
  ·rename_i h0
   obtain⟨e,he⟩:=List.length_eq_one_iff.1 (h1 h0);rw[he];exact moves_filt1 e
  ·trivial
theorem plan_refused(hsh:∀ s m,0≤m→textOk (sh s m) m=true){x:St}(h:StP x)(c:Cm)(hr:(planP sh tg x c).2≠0):(planP sh tg x c).1=[]:=by
 rw[plan_eq hsh h] at hr ⊢;unfold planD at hr ⊢;split
 ·rename_i h0
  rw[if_pos h0] at hr;exact absurd rfl hr
 ·rfl
theorem moves_fold:∀ {l:List Ev} {x:St},Moves x l→∀ {k:Nat} (hk:k<l.length),fits (foldE x (l.take k)) l[k]=true∧foldE x (l.take (k+1))≠foldE x (l.take k)
 | [],_,_,_,hk=>absurd hk (by simp)
 | e::l,x,h,0,_=>by
   refine⟨h.1,?_⟩;show (applyS x e).1≠x
   rw[ap_fit h.1]
   exact h.2.1
 | e::l,x,h,k+1,hk=>by
   have hk':k<l.length:=by simpa using hk
   have:=moves_fold h.2.2 hk'
   have e1:∀ r:List Ev,foldE x (e::r)=foldE (doS x e) r:=fun r=>by
    show foldE (applyS x e).1 r=_
    rw[ap_fit h.1]
   simp only[List.take_succ_cons,e1,List.getElem_cons_succ];exact this
end
end
section
theorem atI_upd{α:Type}{g:α→Int}{id:Int}{f:α→α}{l:List α}(hs:l.Pairwise fun a b=>g a<g b)(hg:∀ a,g (f a)=g a){a:α}(ha:atI g id l=some a):atI g id (updI g id f l)=some (f a):=by
 have hm:=atI_mem ha;refine atI_some ?_ ?_ (by rw[hg,hm.2])
 ·rw[updI_map f hs]
  exact map_sorted hg hs
 ·rw[updI_map f hs]
  exact List.mem_map.2 ⟨a,hm.1,if_pos hm.2⟩
structure SameDirs(x y:St):Prop where
 fols:y.fols=x.fols
 fees:y.fees=x.fees
theorem fold_one1(x:St)(e:Ev):foldE x (one1 e (chS x e)).1=(applyS x e).1:=by
 unfold one1
 cases h:chS x e with
 | true=>rfl
 | false=>
   unfold chS at h;show x=_
   have:(applyS x e).1=x:=by simpa using h
   exact this.symm
theorem tags_again{l:List ByteArray}{t:ByteArray}(w:Bool)(h:l.Pairwise ltB):((tagsS l t w).any fun y=>decide (y=t))=w:=by
 cases w with
 | false=>
   rw[tagsS_without,List.any_eq_false];intro y hy;rw[List.mem_filter] at hy
   simpa using hy.2
 | true=>
   rw[tags_any,tagsS_with h];simp
theorem read_left:∀ (l:List Itm) {x:St},StP x→(∀ t ∈ l,∃ q ∈ x.itms,q.id=t.id)→∀ q ∈ (foldE x (l.map fun t=>⟨8,t.id,0,1,eS,eS,eS⟩)).itms,q.read=false→q ∈ x.itms∧∀ t ∈ l,t.id≠q.id
 | [],_,_,_,q,hq,_=>⟨hq,by simp⟩
 | t::l,x,h,hl,q,hq,hr=>by
   obtain⟨r,hr1,hr2⟩:=hl t (by simp);have hat:atI Itm.id t.id x.itms=some r:=atI_some h.iR hr1 hr2;have hf:fits x ⟨8,t.id,0,1,eS,eS,eS⟩=true:=fit8 h (isI_at hat) (.inr rfl)
   have e1:foldE x ((t::l).map fun t=>(⟨8,t.id,0,1,eS,eS,eS⟩:Ev))=foldE (doS x ⟨8,t.id,0,1,eS,eS,eS⟩) (l.map fun t=>⟨8,t.id,0,1,eS,eS,eS⟩):=by
    show foldE (applyS x _).1 _=_
    rw[ap_fit hf]
   rw[e1] at hq
   have hit:(doS x ⟨8,t.id,0,1,eS,eS,eS⟩).itms=x.itms.map fun y=>if y.id=t.id then {y with read:=true} else y:=by
    rw[do8 rfl];show updI Itm.id t.id _ x.itms=_
    rw[updI_map _ h.iR];rfl
   obtain⟨h1,h2⟩:=read_left l (doS_ok h hf) (fun a ha=>by
    obtain⟨b,hb,hbi⟩:=hl a (by simp[ha]);rw[hit];refine⟨_,List.mem_map.2 ⟨b,hb,rfl⟩,?_⟩
    by_cases hbt:b.id=t.id
    ·rw[if_pos hbt];exact hbi
    ·rw[if_neg hbt];exact hbi) q hq hr
   rw[hit] at h1;obtain⟨b,hb,hbq⟩:=List.mem_map.1 h1
   by_cases hbt:b.id=t.id
   ·rw[if_pos hbt] at hbq
    rw[← hbq] at hr
    cases hr
   ·rw[if_neg hbt] at hbq
    subst hbq;refine⟨hb,fun a ha=>?_⟩;rcases List.mem_cons.1 ha with rfl | ha
    ·exact fun e=>hbt e.symm
    ·exact h2 a ha
theorem read_dirs:∀ (l:List Int) (x:St),SameDirs x (foldE x (l.map fun i=>⟨8,i,0,1,eS,eS,eS⟩))
 | [],x=>⟨rfl,rfl⟩
 | i::l,x=>by
   have h:=read_dirs l (applyS x ⟨8,i,0,1,eS,eS,eS⟩).1
   have h0:(applyS x ⟨8,i,0,1,eS,eS,eS⟩).1.fols=x.fols∧(applyS x ⟨8,i,0,1,eS,eS,eS⟩).1.fees=x.fees:=by
    unfold applyS;split
    ·rw[do8 rfl];exact⟨rfl,rfl⟩
    ·exact⟨rfl,rfl⟩
   exact⟨h.fols.trans h0.1,h.fees.trans h0.2⟩
theorem readP_again{x:St}(h:StP x)(l:List Int):readP (foldE x (readP x l)) l=[]∧SameDirs x (foldE x (readP x l)):=by
 have hd:SameDirs x (foldE x (readP x l)):=by
  have:=read_dirs ((x.itms.filter fun t=>!t.read&&l.any fun i=>i=t.feed).map Itm.id) x;rw[List.map_map] at this;exact this
 refine⟨?_,hd⟩;have hL:=read_left (x.itms.filter fun t=>!t.read&&l.any fun i=>i=t.feed) h (fun t ht=>⟨t,(List.mem_filter.1 ht).1,rfl⟩);rw[show readP (foldE x (readP x l)) l=(((foldE x (readP x l)).itms.filter fun t=>!t.read&&l.any fun i=>i=t.feed).map fun t=>(⟨8,t.id,0,1,eS,eS,eS⟩:Ev)) from rfl,List.map_eq_nil_iff,List.filter_eq_nil_iff];intro q hq hp;simp only[Bool.and_eq_true,Bool.not_eq_true'] at hp;obtain⟨h1,h2⟩:=hL q hq hp.1;exact h2 q (List.mem_filter.2 ⟨h1,by simp only[hp.1,hp.2];rfl⟩) rfl
theorem inS_dirs{x y:St}(h:SameDirs x y)(b:Int):inS y b=inS x b:=by unfold inS;rw[h.fols]
theorem under_dirs{x y:St}(h:SameDirs x y)(b:Int):underS y b=underS x b:=by unfold underS withinS;rw[inS_dirs h,h.fees,h.fols]
section
variable {sh:ByteArray→Int→ByteArray} {tg:ByteArray→ByteArray}
theorem plan_again(hsh:∀ s m,0≤m→textOk (sh s m) m=true){x:St}(h:StP x)(c:Cm)(hk:c.kind=5∨c.kind=6∨c.kind=7∨c.kind=8∨c.kind=9∨c.kind=10∨c.kind=11∨c.kind=14)(hr:(planP sh tg x c).2=0):planP sh tg (foldE x (planP sh tg x c).1) c=([],0):=by
 obtain⟨k,a,b,n,s,t⟩:=c;have u256:titleOk (sh t 256)=true:=hsh t 256 (by decide);rcases hk with rfl | rfl | rfl | rfl | rfl | rfl | rfl | rfl
 ·cases ha:atI Fee.id a x.fees with
  | none=>simp[planP,ha] at hr
  | some f=>
    have e:planP sh tg x ⟨5,a,b,n,s,t⟩=one1 ⟨5,a,0,0,eS,sh t 256,eS⟩ (chS x ⟨5,a,0,0,eS,sh t 256,eS⟩):=by rw[ch5 h ha u256];simp[planP,ha]
    rw[e,fold_one1,ap_fit (fit5 h (isI_at ha) u256),do5 rfl];have:=atI_upd (f:=fun f:Fee=>{f with title:=sh t 256}) h.eR (fun _=>rfl) ha;simp[planP,this,one1]
 ·cases ha:atI Fee.id a x.fees with
  | none=>simp[planP,ha] at hr
  | some f=>
    cases hb:inS x b with
    | false=>simp[planP,ha,hb] at hr
    | true=>
      have e:planP sh tg x ⟨6,a,b,n,s,t⟩=one1 ⟨6,a,b,0,eS,eS,eS⟩ (chS x ⟨6,a,b,0,eS,eS,eS⟩):=by rw[ch6 h ha hb];simp[planP,ha,hb]
      rw[e,fold_one1,ap_fit (fit6 h (isI_at ha) hb),do6 rfl];have:=atI_upd (f:=fun f:Fee=>{f with inn:=b}) h.eR (fun _=>rfl) ha;have hb2:inS {x with fees:=updI Fee.id a (fun f=>{f with inn:=b}) x.fees} b=true:=hb;simp[planP,this,hb2,one1]
 ·cases ha:atI Itm.id a x.itms with
  | none=>by_cases hn:n=0∨n=1<;>simp[planP,ha,hn] at hr
  | some q=>
    by_cases hn:n=0∨n=1
    ·have e:planP sh tg x ⟨7,a,b,n,s,t⟩=one1 ⟨8,a,0,n,eS,eS,eS⟩ (chS x ⟨8,a,0,n,eS,eS,eS⟩):=by rw[ch8 h ha hn];simp only[planP,ha];simp[hn]
     rw[e,fold_one1,ap_fit (fit8 h (isI_at ha) hn),do8 rfl];have:=atI_upd (f:=fun q:Itm=>{q with read:=decide (n=1)}) h.iR (fun _=>rfl) ha;simp only[planP,this];simp[hn,one1]
    ·simp only[planP] at hr
     simp[hn] at hr
 ·cases ha:atI Itm.id a x.itms with
  | none=>by_cases hn:n=0∨n=1<;>simp[planP,ha,hn] at hr
  | some q=>
    by_cases hn:n=0∨n=1
    ·have e:planP sh tg x ⟨8,a,b,n,s,t⟩=one1 ⟨9,a,0,n,eS,eS,eS⟩ (chS x ⟨9,a,0,n,eS,eS,eS⟩):=by rw[ch9 h ha hn];simp only[planP,ha];simp[hn]
     rw[e,fold_one1,ap_fit (fit9 h (isI_at ha) hn),do9 rfl];have:=atI_upd (f:=fun q:Itm=>{q with star:=decide (n=1)}) h.iR (fun _=>rfl) ha;simp only[planP,this];simp[hn,one1]
    ·simp only[planP] at hr
     simp[hn] at hr
 ·by_cases hn:n=0∨n=1
  ·by_cases ht:tg s=eS
   ·simp only[planP] at hr
    simp[hn,ht] at hr
   ·cases ha:atI Itm.id a x.itms with
    | none=>simp only[planP,ha] at hr;simp[hn,ht] at hr
    | some q=>
      cases hf:fits x ⟨10,a,0,n,tg s,eS,eS⟩ with
      | false=>simp only[planP,ha,hf] at hr;simp[hn,ht] at hr
      | true=>
        have e:planP sh tg x ⟨9,a,b,n,s,t⟩=one1 ⟨10,a,0,n,tg s,eS,eS⟩ (chS x ⟨10,a,0,n,tg s,eS,eS⟩):=by rw[ch10 h ha hf];simp only[planP,ha,hf];simp[hn,ht]
        rw[e,fold_one1,ap_fit hf];have hsr:=(tagsRise_iff _).1 (h.iE q (atI_mem ha).1).2.2.2.2;have h2:=atI_upd (f:=fun q:Itm=>{q with tags:=tagsS q.tags (tg s) (decide (n=1))}) h.iR (fun _=>rfl) ha;have h3:=tags_again (t:=tg s) (decide (n=1)) hsr.2;have hat:atI Itm.id a (doS x ⟨10,a,0,n,tg s,eS,eS⟩).itms=some {q with tags:=tagsS q.tags (tg s) (decide (n=1))}:=by rw[do10 rfl];exact h2
        have hf2:fits (doS x ⟨10,a,0,n,tg s,eS,eS⟩) ⟨10,a,0,n,tg s,eS,eS⟩=true:=by
         refine(fits10 rfl (fits_ev hf)).2 ⟨_,hat,?_⟩;rcases hn with rfl | rfl
         ·exact .inl rfl
         ·refine .inr (.inl ?_)
          exact tags_any.1 (h3.trans rfl)
        simp only[planP,hat,hf2];simp[hn,ht,one1,h3]
  ·simp only[planP] at hr
   simp[hn] at hr
 ·cases hi:isI Fee.id a x.fees with
  | false=>simp[planP,hi] at hr
  | true=>
    have e:planP sh tg x ⟨10,a,b,n,s,t⟩=(readP x [a],0):=by simp[planP,hi]
    obtain⟨h1,h2⟩:=readP_again h [a];rw[e];have hi2:isI Fee.id a (foldE x (readP x [a])).fees=true:=by rw[h2.fees];exact hi
    simp[planP,hi2,h1]
 ·cases hi:inS x a with
  | false=>simp[planP,hi] at hr
  | true=>
    have e:planP sh tg x ⟨11,a,b,n,s,t⟩=(readP x (underS x a),0):=by simp[planP,hi]
    obtain⟨h1,h2⟩:=readP_again h (underS x a);rw[e];have hi2:inS (foldE x (readP x (underS x a))) a=true:=by rw[inS_dirs h2];exact hi
    simp[planP,hi2,under_dirs h2,h1]
 ·cases hf:fits x ⟨13,0,0,n,eS,eS,eS⟩ with
  | false=>simp[planP,hf] at hr
  | true=>
    have e:planP sh tg x ⟨14,a,b,n,s,t⟩=one1 ⟨13,0,0,n,eS,eS,eS⟩ (chS x ⟨13,0,0,n,eS,eS,eS⟩):=by rw[ch13 hf];simp[planP,hf]
    rw[e,fold_one1,ap_fit hf,do13 rfl];have hf2:fits {x with clock:=n} ⟨13,0,0,n,eS,eS,eS⟩=true:=(fits13 rfl (fits_ev hf)).2 (Int.le_refl _);simp[planP,hf2,one1]
end
end
section
theorem rise_perm{α:Type}{g:α→Int}{l l':List α}(h:l.Pairwise fun a b=>g a<g b)(h':l'.Pairwise fun a b=>g a<g b)(hp:l.Perm l'):l=l':=
 List.Perm.eq_of_pairwise (le:=fun a b=>g a<g b) (fun a b _ _ h1 h2=>absurd (Int.lt_trans h1 h2) (Int.lt_irrefl _)) h h' hp
theorem del_perm{α:Type}{g:α→Int}{l:List α}(h:l.Pairwise fun a b=>g a<g b){a:α}(ha:a ∈ l):(a::delI g (g a) l).Perm l:=by
 unfold delI;obtain⟨A,B,rfl⟩:=List.append_of_mem ha
 have hA:∀ y ∈ A,¬(decide (g y=g a))=true:=fun y hy e=>by
  have:=(List.pairwise_append.1 h).2.2 y hy a (by simp);have:=of_decide_eq_true e;omega
 rw[List.eraseP_append_right _ hA];simp only[List.eraseP_cons,decide_true,if_true];exact(List.perm_middle (a:=a) (l₁:=A) (l₂:=B)).symm
theorem ins_del{α:Type}{g:α→Int}{l:List α}(h:l.Pairwise fun a b=>g a<g b){a:α}(ha:a ∈ l):insI g a (delI g (g a) l)=l:=by
 have hd:(delI g (g a) l).Pairwise fun a b=>g a<g b:=h.sublist List.eraseP_sublist
 have hn:∀ y ∈ delI g (g a) l,g y≠g a:=fun y hy=>by
  rw[delI_filter h] at hy
  simpa using (List.mem_filter.1 hy).2
 exact rise_perm (insI_sorted hd hn) h ((insI_perm g a _).trans (del_perm h ha))
theorem del_ins{α:Type}{g:α→Int}{l:List α}(h:l.Pairwise fun a b=>g a<g b){a:α}(hn:∀ y ∈ l,g y≠g a):delI g (g a) (insI g a l)=l:=by
 have hs:=insI_sorted h hn;have h1:a ∈ insI g a l:=mem_insI.2 (.inl rfl);have h2:=del_perm hs h1;exact rise_perm (hs.sublist List.eraseP_sublist) h ((List.perm_cons a).1 (h2.trans (insI_perm g a l)))
theorem upd_back{α:Type}{g:α→Int}{id:Int}{f k:α→α}{l:List α}(h:l.Pairwise fun a b=>g a<g b)(hf:∀ a,g (f a)=g a){a:α}(ha:atI g id l=some a)(hk:k (f a)=a):updI g id k (updI g id f l)=l:=by
 have hs:(updI g id f l).Pairwise fun a b=>g a<g b:=by rw[updI_map f h];exact map_sorted hf h
 rw[updI_map k hs,updI_map f h,List.map_map]
 conv=>rhs;rw[← List.map_id l]
 refine List.map_congr_left fun b hb=>?_
 have hm:=atI_mem ha;simp only[Function.comp]
 by_cases hg:g b=id
 ·have hba:=ids_inj h hb hm.1 (by rw[hg,hm.2])
  subst hba;rw[if_pos hg,hf,if_pos hg,hk];rfl
 ·rw[if_neg hg,if_neg hg]
  rfl
def bareS(x:St):St:={x with tFol:=0,tFee:=0,tItm:=0,tSea:=0}
def Backs(x y:St)(l:List Ev):Prop:=∃ z,Leads y l z∧bareS z=bareS x
theorem backs_one{x y:St}{e:Ev}(hf:fits y e=true)(h:bareS (doS y e)=bareS x):Backs x y [e]:=⟨_,⟨hf,rfl⟩,h⟩
section
variable {x:St}
theorem back5(h:StP x){a:Int}{t:ByteArray}{f:Fee}(ha:atI Fee.id a x.fees=some f)(ht:titleOk t=true):Backs x (doS x ⟨5,a,0,0,eS,t,eS⟩) [⟨5,a,0,0,eS,f.title,eS⟩]:=by
 have hf:=fit5 h (isI_at ha) ht;have hy:=doS_ok h hf
 have hto:titleOk f.title=true:=by
  have:=(h.eE f (atI_mem ha).1).1;rw[ev3] at this;simp only[Bool.and_eq_true] at this;exact this.2
 have hi:isI Fee.id a (doS x ⟨5,a,0,0,eS,t,eS⟩).fees=true:=by
  rw[do5 rfl];exact isI_at (atI_upd (f:=fun f:Fee=>{f with title:=t}) h.eR (fun _=>rfl) ha)
 refine backs_one (fit5 hy hi hto) ?_;rw[do5 rfl,do5 rfl];unfold bareS;simp only;rw[upd_back (f:=fun f:Fee=>{f with title:=t}) (k:=fun g:Fee=>{g with title:=f.title}) h.eR (fun _=>rfl) ha (by cases f;rfl)]
theorem back6(h:StP x){a b:Int}{f:Fee}(ha:atI Fee.id a x.fees=some f)(hb:inS x b=true):Backs x (doS x ⟨6,a,b,0,eS,eS,eS⟩) [⟨6,a,f.inn,0,eS,eS,eS⟩]:=by
 have hf:=fit6 h (isI_at ha) hb;have hy:=doS_ok h hf
 have hin:inS (doS x ⟨6,a,b,0,eS,eS,eS⟩) f.inn=true:=by
  rw[do6 rfl];exact(h.eE f (atI_mem ha).1).2.2
 have hi:isI Fee.id a (doS x ⟨6,a,b,0,eS,eS,eS⟩).fees=true:=by
  rw[do6 rfl];exact isI_at (atI_upd (f:=fun f:Fee=>{f with inn:=b}) h.eR (fun _=>rfl) ha)
 refine backs_one (fit6 hy hi hin) ?_;rw[do6 rfl,do6 rfl];unfold bareS;simp only;rw[upd_back (f:=fun f:Fee=>{f with inn:=b}) (k:=fun g:Fee=>{g with inn:=f.inn}) h.eR (fun _=>rfl) ha (by cases f;rfl)]
theorem back8(h:StP x){a n:Int}{q:Itm}(ha:atI Itm.id a x.itms=some q)(hn:n=0∨n=1)(hc:¬q.read=decide (n=1)):Backs x (doS x ⟨8,a,0,n,eS,eS,eS⟩) [⟨8,a,0,1 - n,eS,eS,eS⟩]:=by
 have hf:=fit8 h (isI_at ha) hn;have hy:=doS_ok h hf
 have hi:isI Itm.id a (doS x ⟨8,a,0,n,eS,eS,eS⟩).itms=true:=by
  rw[do8 rfl];exact isI_at (atI_upd (f:=fun q:Itm=>{q with read:=decide (n=1)}) h.iR (fun _=>rfl) ha)
 refine backs_one (fit8 hy hi (by omega)) ?_;rw[do8 rfl,do8 rfl];unfold bareS;simp only;have hq:q.read=decide (1 - n=1):=by rcases hn with rfl | rfl<;>(cases hr:q.read<;>simp_all)
 rw[upd_back (f:=fun q:Itm=>{q with read:=decide (n=1)}) (k:=fun g:Itm=>{g with read:=decide (1 - n=1)}) h.iR (fun _=>rfl) ha (by cases q;simp only at hq;rw[hq])]
theorem back9(h:StP x){a n:Int}{q:Itm}(ha:atI Itm.id a x.itms=some q)(hn:n=0∨n=1)(hc:¬q.star=decide (n=1)):Backs x (doS x ⟨9,a,0,n,eS,eS,eS⟩) [⟨9,a,0,1 - n,eS,eS,eS⟩]:=by
 have hf:=fit9 h (isI_at ha) hn;have hy:=doS_ok h hf
 have hi:isI Itm.id a (doS x ⟨9,a,0,n,eS,eS,eS⟩).itms=true:=by
  rw[do9 rfl];exact isI_at (atI_upd (f:=fun q:Itm=>{q with star:=decide (n=1)}) h.iR (fun _=>rfl) ha)
 refine backs_one (fit9 hy hi (by omega)) ?_;rw[do9 rfl,do9 rfl];unfold bareS;simp only;have hq:q.star=decide (1 - n=1):=by rcases hn with rfl | rfl<;>(cases hr:q.star<;>simp_all)
 rw[upd_back (f:=fun q:Itm=>{q with star:=decide (n=1)}) (k:=fun g:Itm=>{g with star:=decide (1 - n=1)}) h.iR (fun _=>rfl) ha (by cases q;simp only at hq;rw[hq])]
end
end
section
theorem riseB_ext{l l':List ByteArray}(h:l.Pairwise ltB)(h':l'.Pairwise ltB)(hm:∀ y,y ∈ l↔y ∈ l'):l=l':=by
 have hd:l.Nodup:=h.imp fun hab=>ltB_ne hab
 have hd':l'.Nodup:=h'.imp fun hab=>ltB_ne hab
 exact List.Perm.eq_of_pairwise (le:=ltB) (fun a b _ _ h1 h2=>absurd (ltB_trans h1 h2) (ltB_irr a)) h h' ((List.perm_ext_iff_of_nodup hd hd').2 hm)
theorem mem_with{l:List ByteArray}{t y:ByteArray}(h:l.Pairwise ltB):y ∈ tagsS l t true↔y=t∨y ∈ l:=by
 refine⟨tagsS_mem true h,fun hy=>?_⟩
 by_cases e:y=t
 ·subst e
  rw[tagsS_with h];simp
 ·have hl:y ∈ l:=hy.resolve_left e
  rw[tagsS_with h];rw[← List.takeWhile_append_dropWhile (p:=fun x=>decide (ltB x t)) (l:=l),List.mem_append] at hl;rcases hl with hl | hl
  ·exact List.mem_append.2 (.inl hl)
  ·exact List.mem_append.2 (.inr (List.mem_cons.2 (.inr (List.mem_filter.2 ⟨hl,by simpa using e⟩))))
theorem mem_without{l:List ByteArray}{t y:ByteArray}:y ∈ tagsS l t false↔y ∈ l∧y≠t:=by
 rw[tagsS_without,List.mem_filter];simp
theorem tags_back{l:List ByteArray}{t:ByteArray}(w:Bool)(h:l.Pairwise ltB)(hw:(l.any fun y=>decide (y=t))=!w):tagsS (tagsS l t w) t (!w)=l:=by
 refine riseB_ext (tagsS_sorted _ (tagsS_sorted _ h)) h fun y=>?_
 cases w with
 | true=>
   have hn:t ∉ l:=fun hm=>by
    rw[tags_any.2 hm] at hw
    cases hw
   show y ∈ tagsS _ t false↔_
   rw[mem_without,mem_with h];constructor
   ·rintro⟨h1 | h1,h2⟩
    ·exact absurd h1 h2
    ·exact h1
   ·exact fun hy=>⟨.inr hy,fun e=>hn (e ▸ hy)⟩
 | false=>
   have hm:=tags_any.1 hw;show y ∈ tagsS _ t true↔_
   rw[mem_with (tagsS_sorted _ h),mem_without];constructor
   ·rintro(rfl | h1)
    ·exact hm
    ·exact h1.1
   ·intro hy
    by_cases e:y=t
    ·exact .inl e
    ·exact .inr ⟨hy,e⟩
section
variable {x:St}
theorem back10(h:StP x){a n:Int}{s:ByteArray}{q:Itm}(ha:atI Itm.id a x.itms=some q)(hf:fits x ⟨10,a,0,n,s,eS,eS⟩=true)(hc:¬(q.tags.any fun y=>decide (y=s))=decide (n=1)):Backs x (doS x ⟨10,a,0,n,s,eS,eS⟩) [⟨10,a,0,1 - n,s,eS,eS⟩]:=by
 have hn:n=0∨n=1:=(flag_of (e:=⟨10,a,0,n,s,eS,eS⟩) rfl (fits_ev hf)).1;have htg:tagOk s=true:=(flag_of (e:=⟨10,a,0,n,s,eS,eS⟩) rfl (fits_ev hf)).2;have hq:=h.iE q (atI_mem ha).1;have hsr:=((tagsRise_iff _).1 hq.2.2.2.2).2
 have hid:idOk a=true:=by
  have:=fits_ev hf;rw[ev10] at this;simp only[Bool.and_eq_true] at this;exact this.1.1
 have hat:atI Itm.id a (doS x ⟨10,a,0,n,s,eS,eS⟩).itms=some {q with tags:=tagsS q.tags s (decide (n=1))}:=by
  rw[do10 rfl];exact atI_upd (f:=fun q:Itm=>{q with tags:=tagsS q.tags s (decide (n=1))}) h.iR (fun _=>rfl) ha
 have hw:(q.tags.any fun y=>decide (y=s))=!decide (n=1):=by
  cases h1:(q.tags.any fun y=>decide (y=s))<;>cases h2:decide (n=1)<;>simp_all
 have hne:(!decide (n=1))=decide (1 - n=1):=by rcases hn with rfl | rfl<;>rfl
 have ho:evOk ⟨10,a,0,1 - n,s,eS,eS⟩=true:=by
  rw[ev10,hid,htg];have:flagOk (1 - n)=true:=by rcases hn with rfl | rfl<;>rfl
  rw[this];rfl
 refine backs_one ((fits10 rfl ho).2 ⟨_,hat,?_⟩) ?_
 ·rcases hn with rfl | rfl
  ·refine .inr (.inr ?_)
   have hm:s ∈ q.tags:=tags_any.1 hw;show (tagsS q.tags s false).length<8
   rw[tagsS_without];have h1:(q.tags.filter fun y=>decide (y≠s)).length<q.tags.length:=List.length_filter_lt_length_iff_exists.2 ⟨s,hm,by simp⟩;have h2:=hq.2.2.2.1;omega
  ·exact .inl rfl
 ·rw[do10 rfl,do10 rfl]
  unfold bareS;simp only;rw[← hne]
  rw[upd_back (f:=fun q:Itm=>{q with tags:=tagsS q.tags s (decide (n=1))}) (k:=fun g:Itm=>{g with tags:=tagsS g.tags s (!decide (n=1))}) h.iR (fun _=>rfl) ha (by
   show ({q with tags:=tagsS (tagsS q.tags s (decide (n=1))) s (!decide (n=1))}:Itm)=q
   rw[tags_back _ hsr hw])]
theorem chain_pos2{l:List Fol}{j:Nat}{id:Int}(h:chainF l j id)(h0:id≠0):∃ f ∈ l,f.id=id:=by
 cases j with
 | zero=>exact absurd h h0
 | succ j=>
   obtain⟨-,f,hf,-⟩:=h;exact⟨f,atI_mem hf⟩
theorem fol_inn(h:StP x){f:Fol}(hf:f ∈ x.fols):f.inn=0∨∃ g ∈ x.fols,g.id=f.inn:=by
 obtain⟨j,-,hc⟩:=h.fD f hf
 cases j with
 | zero=>exact absurd hc (by have:=h.fId hf;intro e;have e:f.id=0:=e;omega)
 | succ j=>
   obtain⟨-,g,hg,hc⟩:=hc;have:g=f:=ids_inj h.fR (atI_mem hg).1 hf (atI_mem hg).2;subst this
   by_cases h0:g.inn=0
   ·exact .inl h0
   ·exact .inr (chain_pos2 hc h0)
theorem back1(h:StP x){b:Int}{s:ByteArray}(hf:fits x ⟨1,x.tFol+1,b,0,s,eS,eS⟩=true):Backs x (doS x ⟨1,x.tFol+1,b,0,s,eS,eS⟩) [⟨2,x.tFol+1,0,0,eS,eS,eS⟩]:=by
 have ho:=fits_ev hf
 have hid:idOk (x.tFol+1)=true:=by
  rw[ev1] at ho;simp only[Bool.and_eq_true] at ho;exact ho.1.1
 have hI:=idOk_iff.1 hid;obtain⟨f1,-,f3,-⟩:=(fits1 rfl ho).1 hf
 have hin:∀ i,inS x i=true→i≠x.tFol+1:=fun i hi e=>by
  rcases inS_iff.1 hi with h0 | ⟨g,hg,he⟩
  ·omega
  ·have:=(h.fE g hg).2;omega
 refine backs_one ((fits2 rfl (by rw[ev2];exact hid)).2 ⟨⟨⟨x.tFol+1,b,s⟩,?_,rfl⟩,?_,?_⟩) ?_
 ·rw[do1 rfl]
  exact mem_insI.2 (.inl rfl)
 ·intro f hm
  rw[do1 rfl] at hm;rcases mem_insI.1 hm with rfl | hm
  ·exact hin b f3
  ·exact hin f.inn (inS_iff.2 (fol_inn h hm))
 ·intro f hm
  rw[do1 rfl] at hm;exact hin f.inn (h.eE f hm).2.2
 ·rw[do2 rfl,do1 rfl]
  unfold bareS;simp only;have:=del_ins (g:=Fol.id) (a:=⟨x.tFol+1,b,s⟩) h.fR f1;simp only at this;rw[this]
theorem back3(h:StP x){b:Int}{s t:ByteArray}(hf:fits x ⟨3,x.tFee+1,b,0,s,t,eS⟩=true):Backs x (doS x ⟨3,x.tFee+1,b,0,s,t,eS⟩) [⟨4,x.tFee+1,0,0,eS,eS,eS⟩]:=by
 have ho:=fits_ev hf
 have hid:idOk (x.tFee+1)=true:=by
  rw[ev3] at ho;simp only[Bool.and_eq_true] at ho;exact ho.1.1.1
 obtain⟨f1,-⟩:=(fits3 rfl ho).1 hf;refine backs_one ((fits45 (.inl rfl) (by rw[ev4];exact hid)).2 ⟨⟨x.tFee+1,b,s,t⟩,?_,rfl⟩) ?_
 ·rw[do3 rfl]
  exact mem_insI.2 (.inl rfl)
 ·rw[do4 rfl,do3 rfl]
  unfold bareS;simp only;have:=del_ins (g:=Fee.id) (a:=⟨x.tFee+1,b,s,t⟩) h.eR f1;simp only at this;rw[this]
  have h2:(x.itms.filter fun q=>decide (q.feed≠x.tFee+1))=x.itms:=List.filter_eq_self.2 fun q hq=>by
   obtain⟨g,hg,he⟩:=isI_iff.1 (h.iE q hq).2.2.1;have:=(h.eE g hg).2.1;simp;omega
  rw[h2]
theorem back11(h:StP x){s t:ByteArray}(hf:fits x ⟨11,x.tSea+1,0,0,s,t,eS⟩=true):Backs x (doS x ⟨11,x.tSea+1,0,0,s,t,eS⟩) [⟨12,x.tSea+1,0,0,eS,eS,eS⟩]:=by
 have ho:=fits_ev hf
 have hid:idOk (x.tSea+1)=true:=by
  rw[ev11] at ho;simp only[Bool.and_eq_true] at ho;exact ho.1.1
 obtain⟨f1,-⟩:=(fits11 rfl ho).1 hf;refine backs_one ((fits12 rfl (by rw[ev12];exact hid)).2 ⟨⟨x.tSea+1,s,t⟩,?_,rfl⟩) ?_
 ·rw[do11 rfl]
  exact mem_insI.2 (.inl rfl)
 ·rw[do12 rfl,do11 rfl]
  unfold bareS;simp only;have:=del_ins (g:=Sea.id) (a:=⟨x.tSea+1,s,t⟩) h.sR f1;simp only at this;rw[this]
theorem back12(h:StP x){a:Int}{q:Sea}(ha:atI Sea.id a x.seas=some q):Backs x (doS x ⟨12,a,0,0,eS,eS,eS⟩) [⟨11,a,0,0,q.name,q.query,eS⟩]:=by
 have hm:=atI_mem ha;obtain⟨hm,rfl⟩:=hm;have hl:=(del_perm h.sR hm).length_eq;have hL:=h.sL;refine backs_one ((fits11 rfl (h.sE q hm).1).2 ⟨?_,?_⟩) ?_
 ·intro t ht
  rw[do12 rfl] at ht;have ht':t ∈ delI Sea.id q.id x.seas:=ht;rw[delI_filter h.sR] at ht'
  simpa using (List.mem_filter.1 ht').2
 ·rw[do12 rfl]
  show (delI Sea.id q.id x.seas).length<32
  simp at hl;omega
 ·rw[do11 rfl,do12 rfl]
  unfold bareS;simp only;have:=ins_del (g:=Sea.id) h.sR hm;rw[this]
end
end
end Go.Proofs.YtdihmpakglakdaaGreat
