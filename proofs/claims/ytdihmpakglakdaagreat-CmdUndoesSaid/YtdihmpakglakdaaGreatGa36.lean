/-
  Plain: what was done is undone: a folder that went; items that were read.
-/
import Derived.Test.YtdihmpakglakdaaGreatGa35
set_option linter.unusedVariables false
set_option linter.unusedSimpArgs false
namespace Go.Proofs.YtdihmpakglakdaaGreat
section
section
variable {x:St}
theorem back2(h:StP x){f:Fol}(hm:f ∈ x.fols)(hf:fits x ⟨2,f.id,0,0,eS,eS,eS⟩=true):Backs x (doS x ⟨2,f.id,0,0,eS,eS,eS⟩) [⟨1,f.id,f.inn,0,f.name,eS,eS⟩]:=by
 have hy:=doS_ok h hf;obtain⟨-,f2,-⟩:=(fits2 rfl (fits_ev hf)).1 hf;have hI:=h.fId hm;have hfo:(doS x ⟨2,f.id,0,0,eS,eS,eS⟩).fols=delI Fol.id f.id x.fols:=by rw[do2 rfl]
 have hp:=del_perm h.fR hm;have hfil:=delI_filter (id:=f.id) h.fR;have hinn:f.inn≠f.id:=f2 f hm;obtain⟨j,hj,hc⟩:=h.fD f hm
 have hk:∃ j',j'≤6∧chainF x.fols j' f.inn:=by
  cases j with
  | zero=>exact absurd hc (by intro e;have e:f.id=0:=e;omega)
  | succ j=>
    obtain⟨-,g,hg,hc⟩:=hc;have:g=f:=ids_inj h.fR (atI_mem hg).1 hm (atI_mem hg).2;subst this;exact⟨j,by omega,hc⟩
 obtain⟨j',hj',hc'⟩:=hk
 have hkeep:∀ i g,i≠f.id→atI Fol.id i x.fols=some g→atI Fol.id i (delI Fol.id f.id x.fols)=some g:=fun i g hi hq=>by
  rw[hfil];exact atI_filter h.fR hq (by have:=(atI_mem hq).2;simp;omega)
 have hcy:chainF (delI Fol.id f.id x.fols) j' f.inn:=chain_del (a:=f.id) (by omega) f2 hkeep j' f.inn hinn hc'
 have hin:inS (doS x ⟨2,f.id,0,0,eS,eS,eS⟩) f.inn=true:=by
  rcases fol_inn h hm with h0 | ⟨g,hg,he⟩
  ·exact inS_iff.2 (.inl h0)
  ·refine inS_iff.2 (.inr ⟨g,?_,he⟩)
   rw[hfo,hfil];exact List.mem_filter.2 ⟨hg,by simp;omega⟩
 refine backs_one ((fits1 rfl (h.fE f hm).1).2 ⟨?_,?_,hin,?_,?_⟩) ?_
 ·intro g hg
  rw[hfo,hfil] at hg
  simpa using (List.mem_filter.1 hg).2
 ·rw[hfo]
  have h1:=hp.length_eq;have h2:=h.fL;simp at h1;omega
 ·obtain⟨i,-,hi,hd⟩:=hy.deep f.inn hin
  show deepS (doS x ⟨2,f.id,0,0,eS,eS,eS⟩) f.inn<7
  rw[hd];rw[hfo] at hi;have:=chain_uniq _ i j' f.inn hi hcy;omega
 ·intro g hg
  rw[hfo] at hg;have hpw:=pw_perm (fun a b hab hba=>hab ⟨hba.1.symm,hba.2.symm⟩) hp.symm h.fN;have:=(List.pairwise_cons.1 hpw).1 g hg;exact fun e=>this ⟨e.1.symm,e.2.symm⟩
 ·rw[do1 rfl,do2 rfl]
  unfold bareS;simp only;have:=ins_del (g:=Fol.id) h.fR hm;rw[this]
def setR(ids:Int→Bool)(b:Bool)(q:Itm):Itm:=if ids q.id=true then {q with read:=b} else q
theorem setR_id(ids:Int→Bool)(b:Bool)(q:Itm):(setR ids b q).id=q.id:=by unfold setR;split<;>rfl
theorem setR_two(ids:Int→Bool)(b:Bool)(i:Int)(q:Itm):setR ids b (if q.id=i then {q with read:=b} else q)=setR (fun j=>decide (i=j)||ids j) b q:=by
 unfold setR
 by_cases h1:q.id=i
 ·simp[h1]
 ·have h2:¬i=q.id:=fun e=>h1 e.symm
  simp[h1,h2]
theorem setR_back(ids:Int→Bool){b:Bool}{q:Itm}(h:ids q.id=true→q.read=b):setR ids b (setR ids (!b) q)=q:=by
 unfold setR
 by_cases h1:ids q.id=true
 ·have:=h h1
  simp[h1]
  cases q
  simp only at this;rw[this]
 ·simp[h1]
theorem leads_set{n:Int}(hn:n=0∨n=1):∀ (l:List Itm) {x:St},StP x→(∀ t ∈ l,isI Itm.id t.id x.itms=true)→
  Leads x (l.map fun t=>⟨8,t.id,0,n,eS,eS,eS⟩) {x with itms:=x.itms.map (setR (fun i=>l.any fun t=>decide (t.id=i)) (decide (n=1)))}
 | [],x,_,_=>by
   have:x.itms.map (setR (fun i=>([]:List Itm).any fun t=>decide (t.id=i)) (decide (n=1)))=x.itms:=by
    conv=>rhs;rw[← List.map_id x.itms]
    exact List.map_congr_left fun q _=>rfl
   rw[this]
   exact rfl
 | t::l,x,h,hl=>by
   have hf:fits x ⟨8,t.id,0,n,eS,eS,eS⟩=true:=fit8 h (hl t (by simp)) hn;have hy:=doS_ok h hf
   have e:doS x ⟨8,t.id,0,n,eS,eS,eS⟩={x with itms:=x.itms.map fun q=>if q.id=t.id then {q with read:=decide (n=1)} else q}:=by
    rw[do8 rfl,← updI_map _ h.iR]
   have hl':∀ a ∈ l,isI Itm.id a.id (doS x ⟨8,t.id,0,n,eS,eS,eS⟩).itms=true:=fun a ha=>by
    obtain⟨b,hb,hbi⟩:=isI_iff.1 (hl a (by simp[ha]));rw[e];refine isI_iff.2 ⟨_,List.mem_map.2 ⟨b,hb,rfl⟩,?_⟩
    by_cases hbt:b.id=t.id
    ·rw[if_pos hbt];exact hbi
    ·rw[if_neg hbt];exact hbi
   refine⟨hf,?_⟩;have:=leads_set hn l hy hl';rw[e] at this ⊢
   have e2:((x.itms.map fun q=>if q.id=t.id then {q with read:=decide (n=1)} else q).map (setR (fun i=>l.any fun t=>decide (t.id=i)) (decide (n=1))))=x.itms.map (setR (fun i=>(t::l).any fun t=>decide (t.id=i)) (decide (n=1))):=by
    rw[List.map_map];exact List.map_congr_left fun q _=>setR_two _ _ _ _
   simp only at this;rw[e2] at this;exact this
theorem back_reads(h:StP x)(p:Itm→Bool)(hp:∀ t ∈ x.itms,p t=true→t.read=false):
  Backs x (foldE x ((x.itms.filter p).map fun t=>⟨8,t.id,0,1,eS,eS,eS⟩)) ((x.itms.filter p).map fun t=>⟨8,t.id,0,0,eS,eS,eS⟩):=by
 have hl:∀ t ∈ x.itms.filter p,isI Itm.id t.id x.itms=true:=fun t ht=>isI_iff.2 ⟨t,(List.mem_filter.1 ht).1,rfl⟩
 have h1:=leads_set (n:=1) (.inr rfl) (x.itms.filter p) h hl;have hy:=Leads.ok h h1;rw[Leads.fold h1]
 have h2:=leads_set (n:=0) (.inl rfl) (x.itms.filter p) hy (fun t ht=>by
  obtain⟨b,hb,hbi⟩:=isI_iff.1 (hl t ht);exact isI_iff.2 ⟨_,List.mem_map.2 ⟨b,hb,rfl⟩,(setR_id _ _ _).trans hbi⟩)
 refine⟨_,h2,?_⟩
 have:(x.itms.map (setR (fun i=>(x.itms.filter p).any fun t=>decide (t.id=i)) (decide ((1:Int)=1)))).map (setR (fun i=>(x.itms.filter p).any fun t=>decide (t.id=i)) (decide ((0:Int)=1)))=x.itms:=by
  rw[List.map_map]
  conv=>rhs;rw[← List.map_id x.itms]
  refine List.map_congr_left fun q hq=>setR_back (b:=false) _ fun ha=>?_
  obtain⟨t,ht,hti⟩:=List.any_eq_true.1 ha;have ht2:=List.mem_filter.1 ht;have:t=q:=ids_inj h.iR ht2.1 hq (of_decide_eq_true hti);subst this;exact hp t ht2.1 ht2.2
 dsimp only;rw[this]
end
end
section
theorem upd_ins{α:Type}{g:α→Int}{F:α→α}{u:α}{l:List α}(hs:l.Pairwise fun a b=>g a<g b)(hn:∀ y ∈ l,g y≠g u)(hF:∀ a,g (F a)=g a):updI g (g u) F (insI g u l)=insI g (F u) l:=by
 rw[updI_map F (insI_sorted hs hn)];unfold insI;rw[hF u,List.map_append,List.map_cons,if_pos rfl]
 have h1:∀ l':List α,(∀ y ∈ l',y ∈ l)→(l'.map fun y=>if g y=g u then F y else y)=l':=fun l' hl=>by
  conv=>rhs;rw[← List.map_id l']
  exact List.map_congr_left fun y hy=>if_neg (hn y (hl y hy))
 rw[h1 _ fun y hy=>(List.takeWhile_sublist _).subset hy,h1 _ fun y hy=>(List.dropWhile_sublist _).subset hy]
def plusI(y:St)(m:Int)(u:Itm):St:={y with itms:=insI Itm.id u y.itms,tItm:=m}
section
variable {y:St} {m:Int}
theorem plus_upd(h:StP y){u:Itm}(hn:∀ q ∈ y.itms,q.id≠u.id)(F:Itm→Itm)(hF:∀ a,(F a).id=a.id):{plusI y m u with itms:=updI Itm.id u.id F (plusI y m u).itms}=plusI y m (F u):=by
 unfold plusI;simp only;rw[upd_ins h.iR hn hF]
theorem plus_at(h:StP y){u:Itm}(hn:∀ q ∈ y.itms,q.id≠u.id):atI Itm.id u.id (plusI y m u).itms=some u:=atI_some (insI_sorted h.iR hn) (mem_insI.2 (.inl rfl)) rfl
theorem plus_tags(h:StP y)(t:Itm)(hn:∀ q ∈ y.itms,q.id≠t.id)(hid:idOk t.id=true)(h8:t.tags.length≤8)(hr:tagsRise t.tags=true):∀ (todo done:List ByteArray),t.tags=done++todo→
  Leads (plusI y m {t with tags:=done}) (todo.map fun g=>(⟨10,t.id,0,1,g,eS,eS⟩:Ev)) (plusI y m t)
 | [],done,e=>by
   simp at e;subst e
   exact rfl
 | g::r,done,e=>by
   obtain⟨t1,t2⟩:=(tagsRise_iff _).1 hr;have t3:=h8;rw[e] at t1 t2 t3;have hgo:=t1 g (by simp);have hE:evOk ⟨10,t.id,0,1,g,eS,eS⟩=true:=by rw[ev10,hid,hgo];rfl
   have hat:=plus_at (m:=m) h (u:={t with tags:=done}) hn
   have hfit:fits (plusI y m {t with tags:=done}) ⟨10,t.id,0,1,g,eS,eS⟩=true:=by
    refine(fits10 rfl hE).2 ⟨_,hat,.inr (.inr ?_)⟩;simp at t3;show done.length<8
    omega
   refine⟨hfit,?_⟩;have hds:done.Pairwise ltB:=(List.pairwise_append.1 t2).1
   have hds2:(done++[g]).Pairwise ltB:=by
    have e':done++g::r=(done++[g])++r:=by simp
    rw[e'] at t2;exact(List.pairwise_append.1 t2).1
   have htg:tagsS done g true=done++[g]:=riseB_ext (tagsS_sorted _ hds) hds2 fun z=>by
    rw[mem_with hds];simp[or_comm]
   have hdo:doS (plusI y m {t with tags:=done}) ⟨10,t.id,0,1,g,eS,eS⟩=plusI y m {t with tags:=done++[g]}:=by
    rw[do10 rfl];have:=plus_upd (m:=m) h (u:={t with tags:=done}) hn (fun u=>{u with tags:=tagsS u.tags g (decide ((1:Int)=1))}) (fun _=>rfl);simp only[decide_true,htg] at this;exact this
   rw[hdo];exact plus_tags h t hn hid h8 hr r (done++[g]) (by rw[e];simp)
theorem plus_itm(h:StP y)(t:Itm)(hE:evOk (itmEv t)=true)(h8:t.tags.length≤8)(hr:tagsRise t.tags=true)(hf:fits y (itmEv t)=true):Leads y (itmEvs t) (plusI y (max y.tItm t.id) t):=by
 have f7:=(fits7 (e:=itmEv t) rfl hE).1 hf;have hn:∀ q ∈ y.itms,q.id≠t.id:=f7.1
 have hid:idOk t.id=true:=by
  have:=hE;unfold itmEv at this;rw[ev7] at this;simp only[Bool.and_eq_true] at this;exact this.1.1.1.1.1
 have hdo:doS y (itmEv t)=plusI y (max y.tItm t.id) {t with read:=false,star:=false,tags:=[]}:=by
  rw[do7 (e:=itmEv t) rfl];rfl
 refine⟨hf,?_⟩;rw[hdo];have one:∀ {u v:Itm} {e:Ev},fits (plusI y (max y.tItm t.id) u) e=true→doS (plusI y (max y.tItm t.id) u) e=plusI y (max y.tItm t.id) v→Leads (plusI y (max y.tItm t.id) u) [e] (plusI y (max y.tItm t.id) v):=fun h1 h2=>⟨h1,h2⟩
 have hread:Leads (plusI y (max y.tItm t.id) {t with read:=false,star:=false,tags:=[]}) (if t.read=true then [⟨8,t.id,0,1,eS,eS,eS⟩] else []) (plusI y (max y.tItm t.id) {t with star:=false,tags:=[]}):=by
  cases hr:t.read with
  | false=>
    exact rfl
  | true=>
    refine one ((fits89 (.inl rfl) (by rw[ev8,hid];rfl)).2 ⟨_,(atI_mem (plus_at (m:=max y.tItm t.id) h (u:={t with read:=false,star:=false,tags:=[]}) hn)).1,rfl⟩) ?_;rw[do8 rfl];have:=plus_upd (m:=max y.tItm t.id) h (u:={t with read:=false,star:=false,tags:=[]}) hn (fun u=>{u with read:=decide ((1:Int)=1)}) (fun _=>rfl);exact this
 have hstar:Leads (plusI y (max y.tItm t.id) {t with star:=false,tags:=[]}) (if t.star=true then [⟨9,t.id,0,1,eS,eS,eS⟩] else []) (plusI y (max y.tItm t.id) {t with tags:=[]}):=by
  cases hr:t.star with
  | false=>
    exact rfl
  | true=>
    refine one ((fits89 (.inr rfl) (by rw[ev9,hid];rfl)).2 ⟨_,(atI_mem (plus_at (m:=max y.tItm t.id) h (u:={t with star:=false,tags:=[]}) hn)).1,rfl⟩) ?_;rw[do9 rfl];have:=plus_upd (m:=max y.tItm t.id) h (u:={t with star:=false,tags:=[]}) hn (fun u=>{u with star:=decide ((1:Int)=1)}) (fun _=>rfl);exact this
 exact(hread.app hstar).app (plus_tags h t hn hid h8 hr t.tags [] rfl)
end
theorem plus_itms:∀ (l:List Itm) {y:St},StP y→(∀ t ∈ l,evOk (itmEv t)=true∧t.tags.length≤8∧tagsRise t.tags=true∧isI Fee.id t.feed y.fees=true∧∀ q ∈ y.itms,q.id≠t.id∧¬(q.feed=t.feed∧q.guid=t.guid))→(l.Pairwise fun a b=>a.id≠b.id∧¬(a.feed=b.feed∧a.guid=b.guid))→y.itms.length+l.length≤1024→
  ∃ Z T,Leads y (l.flatMap itmEvs) {y with itms:=Z,tItm:=T}∧Z.Perm (l++y.itms)
 | [],y,_,_,_,_=>⟨y.itms,y.tItm,rfl,List.Perm.refl _⟩
 | t::l,y,h,hl,hp,hn=>by
   obtain⟨h1,h2,h3,h4,h5⟩:=hl t (by simp)
   have hf:fits y (itmEv t)=true:=by
    refine(fits7 (e:=itmEv t) rfl h1).2 ⟨fun q hq=>(h5 q hq).1,?_,isI_iff.1 h4,(guid_iff h _ _).2 fun q hq=>(h5 q hq).2⟩;simp at hn;omega
   have hL:=plus_itm h t h1 h2 h3 hf;have hy:=Leads.ok h hL;have hp2:=List.pairwise_cons.1 hp
   obtain⟨Z,T,hZ,hperm⟩:=plus_itms l hy (fun a ha=>by
    obtain⟨a1,a2,a3,a4,a5⟩:=hl a (by simp[ha]);refine⟨a1,a2,a3,a4,fun q hq=>?_⟩;rcases mem_insI.1 hq with rfl | hq
    ·exact hp2.1 a ha
    ·exact a5 q hq) hp2.2 (by
    show (insI Itm.id t y.itms).length+l.length≤1024
    rw[insI_len];simp at hn;omega)
   refine⟨Z,T,?_,?_⟩
   ·rw[List.flatMap_cons]
    exact hL.app hZ
   ·refine hperm.trans ?_
    show (l++insI Itm.id t y.itms).Perm (t::l++y.itms)
    exact((insI_perm Itm.id t y.itms).append_left l).trans List.perm_middle
def fedS(x:St)(f:Fee):List Ev:=feeEv f::(x.itms.filter fun t=>decide (t.feed=f.id)).flatMap itmEvs
theorem back4{x:St}(h:StP x){f:Fee}(hm:f ∈ x.fees):Backs x (doS x ⟨4,f.id,0,0,eS,eS,eS⟩) (fedS x f):=by
 have hf0:=fit4 h (isI_iff.2 ⟨f,hm,rfl⟩);have hy:=doS_ok h hf0;have hdo:doS x ⟨4,f.id,0,0,eS,eS,eS⟩={x with fees:=delI Fee.id f.id x.fees,itms:=x.itms.filter fun t=>t.feed≠f.id}:=by rw[do4 rfl]
 have hp:=del_perm h.eR hm;have hfil:=delI_filter (id:=f.id) h.eR;have hE:=h.eE f hm;have hpw:=pw_perm (fun a b hab hba=>hab hba.symm) hp.symm h.eN
 have hf:fits (doS x ⟨4,f.id,0,0,eS,eS,eS⟩) (feeEv f)=true:=by
  refine(fits3 (e:=feeEv f) rfl hE.1).2 ⟨fun g hg=>?_,?_,?_,(place_iff hy _).2 fun g hg e=>?_⟩
  ·rw[hdo] at hg
   have hg':g ∈ delI Fee.id f.id x.fees:=hg;rw[hfil] at hg';show g.id≠f.id
   simpa using (List.mem_filter.1 hg').2
  ·rw[hdo]
   have h1:=hp.length_eq;have h2:=h.eL;show (delI Fee.id f.id x.fees).length<64
   simp at h1;omega
  ·rw[hdo]
   exact hE.2.2
  ·rw[hdo] at hg
   exact(List.pairwise_cons.1 hpw).1 g hg e.symm
 have hy2:=doS_ok hy hf
 have hdo2:doS (doS x ⟨4,f.id,0,0,eS,eS,eS⟩) (feeEv f)={x with fees:=x.fees,itms:=x.itms.filter fun t=>t.feed≠f.id,tFee:=max x.tFee f.id}:=by
  rw[do3 (e:=feeEv f) rfl,hdo];have:=ins_del (g:=Fee.id) h.eR hm;show ({x with fees:=insI Fee.id f (delI Fee.id f.id x.fees),itms:=x.itms.filter fun t=>t.feed≠f.id,tFee:=max x.tFee f.id}:St)=_
  rw[this]
 rw[hdo2] at hy2
 have hpq:((x.itms.filter fun t=>decide (t.feed=f.id))++x.itms.filter fun t=>decide (t.feed≠f.id)).Perm x.itms:=by
  have:=List.filter_append_perm (fun t:Itm=>decide (t.feed=f.id)) x.itms;have e:(x.itms.filter fun t=>decide (t.feed≠f.id))=x.itms.filter fun t=>!decide (t.feed=f.id):=List.filter_congr fun t _=>by simp
  rw[e];exact this
 have hlen:=hpq.length_eq;rw[List.length_append] at hlen;have hN:=h.iN;have hR:=h.iR
 obtain⟨Z,T,hZ,hperm⟩:=plus_itms (x.itms.filter fun t=>decide (t.feed=f.id)) hy2 (fun t ht=>by
   have ht2:=List.mem_filter.1 ht;have hi:=h.iE t ht2.1;refine⟨hi.1,hi.2.2.2.1,hi.2.2.2.2,hi.2.2.1,fun q hq=>?_⟩;have hq2:=List.mem_filter.1 hq
   have hne:q.feed≠t.feed:=by
    have h1:=of_decide_eq_true ht2.2;have h2:=of_decide_eq_true hq2.2;rw[h1];exact h2
   refine⟨fun e=>hne (by rw[ids_inj h.iR hq2.1 ht2.1 e]),fun e=>hne e.1⟩)
  (((hR.and hN).sublist List.filter_sublist).imp fun hab=>⟨by have:=hab.1;omega,hab.2⟩)
  (by have:=h.iL;show (x.itms.filter fun t=>decide (t.feed≠f.id)).length+_≤1024;omega)
 have hZx:Z=x.itms:=by
  have hz:=Leads.ok hy2 hZ;exact rise_perm hz.iR h.iR (hperm.trans hpq)
 subst hZx;refine⟨{x with fees:=x.fees,tFee:=max x.tFee f.id,tItm:=T},⟨hf,?_⟩,rfl⟩;rw[hdo2];exact hZ
end
section
def backP(x:St)(e:Ev):List Ev:=
 if e.kind=1 then [⟨2,e.a,0,0,eS,eS,eS⟩]
 else if e.kind=2 then [match atI Fol.id e.a x.fols with | none=>⟨1,e.a,0,0,eS,eS,eS⟩ | some f=>⟨1,e.a,f.inn,0,f.name,eS,eS⟩]
 else if e.kind=3 then [⟨4,e.a,0,0,eS,eS,eS⟩]
 else if e.kind=4 then (match atI Fee.id e.a x.fees with | none=>⟨3,e.a,0,0,eS,eS,eS⟩ | some f=>⟨3,e.a,f.inn,0,f.url,f.title,eS⟩)::(x.itms.filter fun t=>decide (t.feed=e.a)).flatMap itmEvs
 else if e.kind=5 then [match atI Fee.id e.a x.fees with | none=>⟨5,e.a,0,0,eS,eS,eS⟩ | some f=>⟨5,e.a,0,0,eS,f.title,eS⟩]
 else if e.kind=6 then [match atI Fee.id e.a x.fees with | none=>⟨6,e.a,0,0,eS,eS,eS⟩ | some f=>⟨6,e.a,f.inn,0,eS,eS,eS⟩]
 else if e.kind=11 then [⟨12,e.a,0,0,eS,eS,eS⟩]
 else if e.kind=12 then [match atI Sea.id e.a x.seas with | none=>⟨11,e.a,0,0,eS,eS,eS⟩ | some q=>⟨11,e.a,0,0,q.name,q.query,eS⟩]
 else [{e with n:=1 - e.n}]
theorem backs_nil(x:St):Backs x x []:=⟨x,rfl,rfl⟩
theorem fold_fit{x:St}{e:Ev}(hf:fits x e=true):foldE x [e]=doS x e:=ap_fit hf
theorem undo_one1{x:St}{e:Ev}(hb:fits x e=true→doS x e≠x→Backs x (doS x e) (backP x e)):Backs x (foldE x (one1 e (chS x e)).1) ((one1 e (chS x e)).1.flatMap (backP x)):=by
 unfold one1
 cases h:chS x e with
 | false=>exact backs_nil x
 | true=>
   obtain⟨h1,h2⟩:=ch_fits h;show Backs x (foldE x [e]) ([e].flatMap (backP x))
   rw[fold_fit h1,List.flatMap_cons,List.flatMap_nil,List.append_nil];exact hb h1 h2
theorem makes_undo{x:St}{e:Ev}{has:Bool}(hr:(makesP x e has).2=0)(hb:fits x {e with a:=topK x e.kind+1}=true→Backs x (doS x {e with a:=topK x e.kind+1}) (backP x {e with a:=topK x e.kind+1})):Backs x (foldE x (makesP x e has).1) ((makesP x e has).1.flatMap (backP x)):=by
 unfold makesP at hr ⊢;split
 ·exact backs_nil x
 ·split
  ·exact backs_nil x
  ·split
   ·exact backs_nil x
   ·split
    ·exact backs_nil x
    ·rename_i hn
     have hf:fits x {e with a:=topK x e.kind+1}=true:=by
      cases h:fits x {e with a:=topK x e.kind+1} with
      | true=>rfl
      | false=>exact absurd (.inr h) hn
     show Backs x (foldE x [_]) ([_].flatMap (backP x))
     rw[fold_fit hf,List.flatMap_cons,List.flatMap_nil,List.append_nil];exact hb hf
theorem undo_read{x:St}(h:StP x)(l:List Int):Backs x (foldE x (readP x l)) ((readP x l).flatMap (backP x)):=by
 have:=back_reads h (fun t=>!t.read&&l.any fun i=>i=t.feed) (fun t _ hp=>by
  simp only[Bool.and_eq_true,Bool.not_eq_true'] at hp;exact hp.1)
 have e:(readP x l).flatMap (backP x)=(x.itms.filter fun t=>!t.read&&l.any fun i=>i=t.feed).map fun t=>(⟨8,t.id,0,0,eS,eS,eS⟩:Ev):=by
  unfold readP;rw[List.flatMap_map];rw[← List.flatMap_singleton' (l:=(x.itms.filter fun t=>!t.read&&l.any fun i=>i=t.feed).map fun t=>(⟨8,t.id,0,0,eS,eS,eS⟩:Ev)),List.flatMap_map];rfl
 rw[e];exact this
section
variable {sh:ByteArray→Int→ByteArray} {tg:ByteArray→ByteArray}
theorem plan_undo(hsh:∀ s m,0≤m→textOk (sh s m) m=true){x:St}(h:StP x)(c:Cm)(hk:c.kind≠14)(hr:(planP sh tg x c).2=0):Backs x (foldE x (planP sh tg x c).1) ((planP sh tg x c).1.flatMap (backP x)):=by
 obtain⟨k,a,b,n,s,t⟩:=c;have u256:titleOk (sh t 256)=true:=hsh t 256 (by decide)
 by_cases k1:k=1
 ·subst k1
  exact makes_undo (e:=⟨1,0,b,0,sh s 64,eS,eS⟩) hr fun hf=>back1 h hf
 by_cases k2:k=2
 ·subst k2
  cases hi:isI Fol.id a x.fols with
  | false=>simp[planP,hi] at hr
  | true=>
    cases hf:fits x ⟨2,a,0,0,eS,eS,eS⟩ with
    | false=>simp[planP,hi,hf] at hr
    | true=>
      have e:planP sh tg x ⟨2,a,b,n,s,t⟩=([⟨2,a,0,0,eS,eS,eS⟩],0):=by simp[planP,hi,hf]
      rw[e];obtain⟨f,hm,rfl⟩:=isI_iff.1 hi;show Backs x (foldE x [_]) ([_].flatMap (backP x))
      rw[fold_fit hf,List.flatMap_cons,List.flatMap_nil,List.append_nil];have:=back2 h hm hf;have hb:backP x ⟨2,f.id,0,0,eS,eS,eS⟩=[⟨1,f.id,f.inn,0,f.name,eS,eS⟩]:=by simp[backP,atI_some h.fR hm rfl]
      rw[hb];exact this
 by_cases k3:k=3
 ·subst k3
  exact makes_undo (e:=⟨3,0,b,0,sh s 512,sh t 256,eS⟩) hr fun hf=>back3 h hf
 by_cases k456:k=4∨k=5∨k=6
 ·cases ha:atI Fee.id a x.fees with
  | none=>rcases k456 with rfl | rfl | rfl<;>simp[planP,ha] at hr
  | some f=>
    rcases k456 with rfl | rfl | rfl
    ·have e:planP sh tg x ⟨4,a,b,n,s,t⟩=([⟨4,a,0,0,eS,eS,eS⟩],0):=by simp[planP,ha]
     rw[e];have hm:=atI_mem ha;obtain⟨hm,rfl⟩:=hm;show Backs x (foldE x [_]) ([_].flatMap (backP x))
     rw[fold_fit (fit4 h (isI_at ha)),List.flatMap_cons,List.flatMap_nil,List.append_nil];have:=back4 h hm;have hb:backP x ⟨4,f.id,0,0,eS,eS,eS⟩=fedS x f:=by simp[backP,ha,fedS,feeEv]
     rw[hb];exact this
    ·have e:planP sh tg x ⟨5,a,b,n,s,t⟩=one1 ⟨5,a,0,0,eS,sh t 256,eS⟩ (chS x ⟨5,a,0,0,eS,sh t 256,eS⟩):=by rw[ch5 h ha u256];simp[planP,ha]
     rw[e]
     exact undo_one1 fun _ _=>by
      have hb:backP x ⟨5,a,0,0,eS,sh t 256,eS⟩=[⟨5,a,0,0,eS,f.title,eS⟩]:=by simp[backP,ha]
      rw[hb];exact back5 h ha u256
    ·cases hbb:inS x b with
     | false=>simp[planP,ha,hbb] at hr
     | true=>
       have e:planP sh tg x ⟨6,a,b,n,s,t⟩=one1 ⟨6,a,b,0,eS,eS,eS⟩ (chS x ⟨6,a,b,0,eS,eS,eS⟩):=by rw[ch6 h ha hbb];simp[planP,ha,hbb]
       rw[e]
       exact undo_one1 fun _ _=>by
        have hb:backP x ⟨6,a,b,0,eS,eS,eS⟩=[⟨6,a,f.inn,0,eS,eS,eS⟩]:=by simp[backP,ha]
        rw[hb];exact back6 h ha hbb
 by_cases k789:k=7∨k=8∨k=9
 ·by_cases hn:n=0∨n=1
  ·cases ha:atI Itm.id a x.itms with
   | none=>
     rcases k789 with rfl | rfl | rfl
     ·simp only[planP,ha] at hr;simp[hn] at hr
     ·simp only[planP,ha] at hr;simp[hn] at hr
     ·by_cases ht:tg s=eS<;>simp only[planP,ha] at hr<;>simp[hn,ht] at hr
   | some q=>
     rcases k789 with rfl | rfl | rfl
     ·have e:planP sh tg x ⟨7,a,b,n,s,t⟩=one1 ⟨8,a,0,n,eS,eS,eS⟩ (chS x ⟨8,a,0,n,eS,eS,eS⟩):=by rw[ch8 h ha hn];simp only[planP,ha];simp[hn]
      rw[e];refine undo_one1 fun hf hne=>back8 h ha hn fun hc=>hne ?_
      have:=ch8 h ha hn;rw[decide_eq_true hc] at this;unfold chS at this;rw[ap_fit hf] at this
      simpa using this
     ·have e:planP sh tg x ⟨8,a,b,n,s,t⟩=one1 ⟨9,a,0,n,eS,eS,eS⟩ (chS x ⟨9,a,0,n,eS,eS,eS⟩):=by rw[ch9 h ha hn];simp only[planP,ha];simp[hn]
      rw[e];refine undo_one1 fun hf hne=>back9 h ha hn fun hc=>hne ?_
      have:=ch9 h ha hn;rw[decide_eq_true hc] at this;unfold chS at this;rw[ap_fit hf] at this
      simpa using this
     ·by_cases ht:tg s=eS
      ·simp only[planP] at hr;simp[hn,ht] at hr
      ·cases hf:fits x ⟨10,a,0,n,tg s,eS,eS⟩ with
       | false=>simp only[planP,ha,hf] at hr;simp[hn,ht] at hr
       | true=>
         have e:planP sh tg x ⟨9,a,b,n,s,t⟩=one1 ⟨10,a,0,n,tg s,eS,eS⟩ (chS x ⟨10,a,0,n,tg s,eS,eS⟩):=by rw[ch10 h ha hf];simp only[planP,ha,hf];simp[hn,ht]
         rw[e];refine undo_one1 fun _ hne=>back10 h ha hf fun hc=>hne ?_
         have:=ch10 h ha hf;rw[decide_eq_true hc] at this;unfold chS at this;rw[ap_fit hf] at this
         simpa using this
  ·rcases k789 with rfl | rfl | rfl<;>simp only[planP] at hr<;>simp[hn] at hr
 by_cases k10:k=10
 ·subst k10
  cases hi:isI Fee.id a x.fees with
  | false=>simp[planP,hi] at hr
  | true=>
    have e:planP sh tg x ⟨10,a,b,n,s,t⟩=(readP x [a],0):=by simp[planP,hi]
    rw[e];exact undo_read h _
 by_cases k11:k=11
 ·subst k11
  cases hi:inS x a with
  | false=>simp[planP,hi] at hr
  | true=>
    have e:planP sh tg x ⟨11,a,b,n,s,t⟩=(readP x (underS x a),0):=by simp[planP,hi]
    rw[e];exact undo_read h _
 by_cases k12:k=12
 ·subst k12
  exact makes_undo (e:=⟨11,0,0,0,sh s 64,sh t 512,eS⟩) hr fun hf=>back11 h hf
 by_cases k13:k=13
 ·subst k13
  cases ha:atI Sea.id a x.seas with
  | none=>simp[planP,isI_no ha] at hr
  | some q=>
    have e:planP sh tg x ⟨13,a,b,n,s,t⟩=([⟨12,a,0,0,eS,eS,eS⟩],0):=by simp[planP,isI_at ha]
    rw[e];show Backs x (foldE x [_]) ([_].flatMap (backP x))
    rw[fold_fit (fit12 h (isI_at ha)),List.flatMap_cons,List.flatMap_nil,List.append_nil];have hb:backP x ⟨12,a,0,0,eS,eS,eS⟩=[⟨11,a,0,0,q.name,q.query,eS⟩]:=by simp[backP,ha]
    rw[hb];exact back12 h ha
 have k456':¬k=4∧¬k=5∧¬k=6:=⟨fun h=>k456 (.inl h),fun h=>k456 (.inr (.inl h)),fun h=>k456 (.inr (.inr h))⟩;have k789':¬k=7∧¬k=8∧¬k=9:=⟨fun h=>k789 (.inl h),fun h=>k789 (.inr (.inl h)),fun h=>k789 (.inr (.inr h))⟩;have k14:¬k=14:=hk;simp[planP,k1,k2,k3,k12,k10,k11,k13,k14,k456',k789'] at hr
end
end
section
theorem up_end{l:List Fol}{id u:Int}(h:id=u∨id=0):∀ k,upG l k id u=id
 | 0=>rfl
 | k+1=>by
   unfold upG;rw[if_neg];rintro⟨h1,h2⟩;rcases h with h | h
   ·exact h1 h
   ·exact h2 h
theorem up_step{l:List Fol}{id u:Int}{f:Fol}(h1:id≠u)(h2:id≠0)(hf:atI Fol.id id l=some f)(k:Nat):upG l (k+1) id u=upG l k f.inn u:=by
 conv=>lhs;unfold upG
 rw[if_pos ⟨h1,h2⟩,hf]
theorem up_fuel{l:List Fol}{u:Int}:∀ (j k:Nat) (id:Int),chainF l j id→j≤k→upG l k id u=upG l j id u
 | 0,k,id,h,_=>by
   have h0:id=0:=h
   rw[up_end (.inr h0),up_end (.inr h0)]
 | j+1,0,_,_,hk=>by omega
 | j+1,k+1,id,h,hk=>by
   obtain⟨h0,f,hf,hc⟩:=h
   by_cases h1:id=u
   ·rw[up_end (.inl h1),up_end (.inl h1)]
   ·rw[up_step h1 h0 hf,up_step h1 h0 hf]
    exact up_fuel j k f.inn hc (by omega)
theorem up_ends{l:List Fol}{u:Int}:∀ (j:Nat) (id:Int),chainF l j id→upG l j id u=u∨upG l j id u=0
 | 0,id,h=>.inr h
 | j+1,id,h=>by
   obtain⟨h0,f,hf,hc⟩:=h
   by_cases h1:id=u
   ·rw[up_end (.inl h1)]
    exact .inl h1
   ·rw[up_step h1 h0 hf]
    exact up_ends j f.inn hc
theorem in_chain{x:St}(h:StP x){b:Int}(hb:inS x b=true):∃ j,j≤7∧chainF x.fols j b:=by
 obtain⟨j,h1,h2,-⟩:=h.deep b hb;exact⟨j,h1,h2⟩
theorem within_at{x:St}(h:StP x){b u:Int}(hb:inS x b=true){j:Nat}(hc:chainF x.fols j b)(hj:j≤10):withinS x b u=(decide (upG x.fols j b u=u)||decide (u=0)):=by
 unfold withinS;rw[up_fuel j 10 b hc hj]
section
variable (sh:ByteArray→Int→ByteArray) (tg:ByteArray→ByteArray)
def doC(x:St)(c:Cm):St:=foldE x (planP sh tg x c).1
theorem doC_ok{x:St}(h:StP x)(c:Cm):StP (doC sh tg x c):=foldE_ok _ h
end
end
end Go.Proofs.YtdihmpakglakdaaGreat
