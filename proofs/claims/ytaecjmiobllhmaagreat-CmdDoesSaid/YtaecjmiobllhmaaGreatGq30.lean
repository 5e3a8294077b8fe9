/- Words. -/
import Derived.Test.YtaecjmiobllhmaaGreatGq10
set_option linter.unusedVariables false
set_option linter.unusedSimpArgs false
namespace Go.Proofs.YtaecjmiobllhmaaGreat
open Go.Lib
variable {e:Ev}{id i:Int}{s:ByteArray}{j:Nat}{u:Int}{out rs:List Nat}
section
structure Cm where
 kind:Int
 a:Int
 b:Int
 n:Int
 s:ByteArray
 t:ByteArray
def xG(l:List bg):Nat→Int→Int→Int
 | 0,id,_=>id
 | k+1,id,u=>if id≠u∧id≠0 then xG l k (match eV bg.id id l with|none=>0|some f=>f.inn) u else id
def bD(x:St)(id u:Int):Bool:=decide (xG x.fols 10 id u=u)||decide (u=0)
def dF(x:St)(id:Int):List Int:=if eQ x id=true then (x.fees.filter λf=>bD x f.inn id).map aP.id else []
def rz(x:St)(k:Int):Int:=if k=1 then x.tFol else if k=3 then x.tFee else if k=7 then x.tItm else if k=11 then x.tSea else 0
def nr(e:Ev)(c:Bool):List Ev×Int:=if c=true then ([e],0) else ([],0)
section
variable (sh:ByteArray→Int→ByteArray) (tg:ByteArray→ByteArray)
def lI(x:St)(e:Ev)(has:Bool):List Ev×Int:=
 if e.s=eS∨(e.kind=11∧e.t=eS) then ([],1)
 else if eQ x e.b=false then ([],4)
 else if has=true then ([],5)
 else if rz x e.kind≥1048576∨av x {e with a:=rz x e.kind+1}=false then ([],2)
 else ([{e with a:=rz x e.kind+1}],0)
def jo(x:St)(l:List Int):List Ev:=(x.itms.filter λt=>!t.read&&l.any λi=>i=t.feed).map λt=>⟨8,t.id,0,1,eS,eS,eS⟩
def aB(x:St)(c:Cm):List Ev×Int:=
 if c.kind=1 then lI x ⟨1,0,c.b,0,sh c.s 64,eS,eS⟩ (ey x c.b (sh c.s 64))
 else if c.kind=2 then
  if aS bg.id c.a x.fols=false then ([],4) else if av x ⟨2,c.a,0,0,eS,eS,eS⟩=false then ([],220) else ([⟨2,c.a,0,0,eS,eS,eS⟩],0)
 else if c.kind=3 then lI x ⟨3,0,c.b,0,sh c.s 512,sh c.t 256,eS⟩ (!decide (cH x (sh c.s 512)=0))
 else if c.kind=4∨c.kind=5∨c.kind=6 then
  match eV aP.id c.a x.fees with
  | none=>([],4)
  | some f=>
    if c.kind=6∧eQ x c.b=false then ([],4)
    else if c.kind=4 then ([⟨4,c.a,0,0,eS,eS,eS⟩],0)
    else if c.kind=5 then nr ⟨5,c.a,0,0,eS,sh c.t 256,eS⟩ (!decide (sh c.t 256=f.title))
    else nr ⟨6,c.a,c.b,0,eS,eS,eS⟩ (!decide (c.b=f.inn))
 else if c.kind=7∨c.kind=8∨c.kind=9 then
  if ¬(c.n=0∨c.n=1) then ([],1)
  else if c.kind=9 then
   if tg c.s=eS then ([],1)
   else match eV aJ.id c.a x.itms with
    | none=>([],4)
    | some t=>if av x ⟨10,c.a,0,c.n,tg c.s,eS,eS⟩=false then ([],2) else nr ⟨10,c.a,0,c.n,tg c.s,eS,eS⟩ (!decide ((t.tags.any λy=>y=tg c.s)=decide (c.n=1)))
  else match eV aJ.id c.a x.itms with
   | none=>([],4)
   | some t=>if c.kind=7 then nr ⟨8,c.a,0,c.n,eS,eS,eS⟩ (!decide (t.read=decide (c.n=1))) else nr ⟨9,c.a,0,c.n,eS,eS,eS⟩ (!decide (t.star=decide (c.n=1)))
 else if c.kind=10 then if aS aP.id c.a x.fees=false then ([],4) else (jo x [c.a],0)
 else if c.kind=11 then if eQ x c.a=false then ([],4) else (jo x (dF x c.a),0)
 else if c.kind=12 then lI x ⟨11,0,0,0,sh c.s 64,sh c.t 512,eS⟩ false
 else if c.kind=13 then if aS dE.id c.a x.seas=false then ([],4) else ([⟨12,c.a,0,0,eS,eS,eS⟩],0)
 else if c.kind=14 then if av x ⟨13,0,0,c.n,eS,eS,eS⟩=false then ([],1) else nr ⟨13,0,0,c.n,eS,eS,eS⟩ (!decide (c.n=x.clock))
 else ([],1)
def iV(x:St)(k:Int)(b:Int)(s:ByteArray):Int:=
 if s=eS then 1
 else if k≠12∧eQ x b=false then 4
 else if (if k=1 then ey x b s else if k=3 then decide (0<cH x s) else false)=true then 5
 else if (if k=1 then x.tFol else if k=3 then x.tFee else x.tSea)=1048576∨av x (if k=1 then ⟨1,1048576,b,0,s,eS,eS⟩ else if k=3 then ⟨3,1048576,b,0,s,⟨#[116]⟩,eS⟩ else ⟨11,1048576,0,0,s,⟨#[116]⟩,eS⟩)=false then 2
 else 0
def aF(x:St)(c:Cm):Int:=
 if c.kind=1 then iV x 1 c.b (sh c.s 64)
 else if c.kind=3 then iV x 3 c.b (sh c.s 512)
 else if c.kind=12 then if sh c.t 512=eS then 1 else iV x 12 c.b (sh c.s 64)
 else if c.kind=2 then if aS bg.id c.a x.fols=false then 4 else if av x ⟨2,c.a,0,0,eS,eS,eS⟩=false then 220 else 0
 else if c.kind=4∨c.kind=5∨c.kind=10∨c.kind=6 then if aS aP.id c.a x.fees=false∨(c.kind=6∧eQ x c.b=false) then 4 else 0
 else if c.kind=11 then if eQ x c.a=false then 4 else 0
 else if c.kind=13 then if aS dE.id c.a x.seas=false then 4 else 0
 else if c.kind=7∨c.kind=8∨c.kind=9 then
  if ¬(c.n=0∨c.n=1)∨(c.kind=9∧tg c.s=eS) then 1
  else if aS aJ.id c.a x.itms=false then 4
  else if c.kind=9∧av x ⟨10,c.a,0,c.n,tg c.s,eS,eS⟩=false then 2 else 0
 else if c.kind=14 then if dR c.n=false∨c.n<x.clock then 1 else 0
 else 1
def aL(x:St)(c:Cm):List Ev:=
 if c.kind=1 then [⟨1,x.tFol+1,c.b,0,sh c.s 64,eS,eS⟩]
 else if c.kind=2 then [⟨2,c.a,0,0,eS,eS,eS⟩]
 else if c.kind=3 then [⟨3,x.tFee+1,c.b,0,sh c.s 512,sh c.t 256,eS⟩]
 else if c.kind=4 then [⟨4,c.a,0,0,eS,eS,eS⟩]
 else if c.kind=5 then [⟨5,c.a,0,0,eS,sh c.t 256,eS⟩]
 else if c.kind=6 then [⟨6,c.a,c.b,0,eS,eS,eS⟩]
 else if c.kind=7 then [⟨8,c.a,0,c.n,eS,eS,eS⟩]
 else if c.kind=8 then [⟨9,c.a,0,c.n,eS,eS,eS⟩]
 else if c.kind=9 then [⟨10,c.a,0,c.n,tg c.s,eS,eS⟩]
 else if c.kind=12 then [⟨11,x.tSea+1,0,0,sh c.s 64,sh c.t 512,eS⟩]
 else if c.kind=13 then [⟨12,c.a,0,0,eS,eS,eS⟩]
 else if c.kind=14 then [⟨13,0,0,c.n,eS,eS,eS⟩]
 else if c.kind=10 then (x.itms.filter λt=>decide (t.feed=c.a)).map λt=>⟨8,t.id,0,1,eS,eS,eS⟩
 else (x.itms.filter λt=>match eV aP.id t.feed x.fees with|none=>false|some f=>bD x f.inn c.a).map λt=>⟨8,t.id,0,1,eS,eS,eS⟩
def s9(x:St)(c:Cm):List Ev×Int:=
 if aF sh tg x c=0 then ((aL sh tg x c).filter λe=>!decide ((bB x e).1=x),0) else ([],aF sh tg x c)
end
theorem DI{x:St}(h:av x e=true):(bB x e).1=iB x e:=by unfold bB;rw[if_pos h]
theorem pP{α:Type}{g:α→Int}{f:α→α}{l:List α}(hs:l.Pairwise λa b=>g a<g b){a:α}(ha:eV g id l=some a):gM g id f l=l↔f a=a:=by
 rw[sQ f hs];have hm:=dG ha;constructor
 ·intro h
  obtain⟨k,hk,e⟩:=List.mem_iff_getElem.1 hm.1;have h1:(l.map λy=>if g y=id then f y else y)[k]'(by simpa using hk)=l[k]:=by simp only[h]
  rw[List.getElem_map,e,if_pos hm.2] at h1;exact h1
 ·intro h
  conv=>rhs;rw[←List.map_id l]
  refine List.map_congr_left λb hb=>?_
  by_cases hg:g b=id
  ·rw[if_pos hg,ri hs hb hm.1 (by rw[hg,hm.2]),h]
   rfl
  ·rw[if_neg hg]
   rfl
theorem zu{α:Type}{g:α→Int}{a:α}{l:List α}:dK g a l≠l:=λh=>by have:=qJ g a l;rw[h] at this;omega
theorem zv{α:Type}{g:α→Int}{l:List α}(hs:l.Pairwise λa b=>g a<g b)(h:aS g id l=true):dZ g id l≠l:=by
 obtain⟨y,hy,he⟩:=dg.1 h;intro h1;rw[mN hs] at h1;rw[←h1] at hy;simp[he] at hy
theorem BI{l:List ByteArray}{t:ByteArray}:(l.any λy=>decide (y=t))=true↔t∈l:=by simp
theorem I9{l:List ByteArray}{t:ByteArray}(w:Bool)(h:l.Pairwise lg):ei l t w=l↔(l.any λy=>decide (y=t))=w:=by
 cases w with
 | false=>
   rw[ir];constructor
   ·intro h1
    rw[List.any_eq_false];intro y hy Ve;rw[←h1] at hy;simp at hy Ve;exact hy.2 Ve
   ·intro h1
    rw[List.any_eq_false] at h1;refine List.filter_eq_self.2 λy hy=>?_
    have:=h1 y hy
    simpa using this
 | true=>
   constructor
   ·intro h1
    rw[BI,←h1,lu h];simp
   ·intro h1
    rw[BI] at h1;obtain⟨s1,s2⟩:=rY t l h;rw[lu h]
    conv=>rhs;rw[←List.takeWhile_append_dropWhile (p:=λx=>decide (lg x t)) (l:=l)]
    congr 1
    have hmem:t∈l.dropWhile λx=>decide (lg x t):=by
     rw[←List.takeWhile_append_dropWhile (p:=λx=>decide (lg x t)) (l:=l),List.mem_append] at h1;rcases h1 with h1|h1
     ·exact absurd (s1 t h1) (kT t)
     ·exact h1
    have hd:(l.dropWhile λx=>decide (lg x t)).Pairwise lg:=h.sublist (List.dropWhile_sublist _)
    cases hl:l.dropWhile (λx=>decide (lg x t)) with
    | nil=>rw[hl] at hmem;simp at hmem
    | cons y r=>
      rw[hl] at hmem hd s2
      have hy:y=t:=by
       rcases List.mem_cons.1 hmem with h2|h2
       ·exact h2.symm
       ·have h3:=(List.pairwise_cons.1 hd).1 t h2
        exact absurd h3 (by have:=s2 y (by simp);exact this)
      subst hy
      have hr:∀z∈r,z≠y:=λz hz e=>by
       have h3:=(List.pairwise_cons.1 hd).1 z hz;rw[e] at h3;exact kT _ h3
      rw[List.filter_cons];simp only[ne_eq,not_true_eq_false,decide_false,Bool.false_eq_true,if_false];rw[List.filter_eq_self.2 λz hz=>by simpa using hr z hz]
end
section
def tM(x:St)(e:Ev):Bool:=!decide ((bB x e).1=x)
theorem rq{x:St}(hf:av x e=true)(h:iB x e≠x):tM x e=true:=by
 unfold tM;rw[DI hf,decide_eq_false h];rfl
theorem ug{x:St}(hf:av x e=true){p:Prop} [Decidable p] (h:iB x e=x↔p):tM x e=!decide p:=by
 unfold tM;rw[DI hf]
 congr 1
 exact decide_eq_decide.2 h
theorem yn(e:Ev)(b:Bool)(p:Ev→Bool)(h:p e=b):([e].filter p,(0:Int))=nr e b:=by
 unfold nr
 cases b<;>simp[h]
section
variable {x:St}
theorem Xn(a:Int):aQ ⟨4,a,0,0,eS,eS,eS⟩=li a:=by simp[aQ,aA,aU]
theorem Xo(a:Int)(t:ByteArray):aQ ⟨5,a,0,0,eS,t,eS⟩=(li a&&gK t):=by simp[aQ,aA,aU]
theorem Xp(a b:Int):aQ ⟨6,a,b,0,eS,eS,eS⟩=(li a&&aI b):=by simp[aQ,aA,aU]
theorem Xq(a n:Int):aQ ⟨8,a,0,n,eS,eS,eS⟩=(li a&&aZ n):=by simp[aQ,aA,aU]
theorem Xr(a n:Int):aQ ⟨9,a,0,n,eS,eS,eS⟩=(li a&&aZ n):=by simp[aQ,aA,aU]
theorem Te(a:Int):aQ ⟨12,a,0,0,eS,eS,eS⟩=li a:=by simp[aQ,aA,aU]
theorem NM(n:Int):aQ ⟨13,0,0,n,eS,eS,eS⟩=dR n:=by simp[aQ,aA,aU]
theorem nU(h:di x){b:Int}(hb:eQ x b=true):aI b=true:=by
 rcases lZ.1 hb with rfl|⟨f,hf,rfl⟩
 ·rfl
 ·have:=h.fId hf
  simp[aI,li,this]
theorem qp{α:Type}{g:α→Int}{l:List α}{f:α}(ha:eV g i l=some f):aS g i l=true:=by rw[←mJ,ha];rfl
theorem uh{α:Type}{g:α→Int}{l:List α}(ha:eV g i l=none):aS g i l=false:=by rw[←mJ,ha];rfl
theorem Tf(h:di x){a:Int}(ha:aS aP.id a x.fees=true):av x ⟨4,a,0,0,eS,eS,eS⟩=true:=by
 obtain⟨f,hf,rfl⟩:=dg.1 ha;exact(yV (.inl rfl) (by rw[Xn];exact dy.2 (h.eId hf))).2 ⟨f,hf,rfl⟩
theorem Tg(h:di x){a:Int}{t:ByteArray}(ha:aS aP.id a x.fees=true)(ht:gK t=true):av x ⟨5,a,0,0,eS,t,eS⟩=true:=by
 obtain⟨f,hf,rfl⟩:=dg.1 ha;exact(yV (.inr rfl) (by rw[Xo,ht,dy.2 (h.eId hf)];rfl)).2 ⟨f,hf,rfl⟩
theorem Th(h:di x){a b:Int}(ha:aS aP.id a x.fees=true)(hb:eQ x b=true):av x ⟨6,a,b,0,eS,eS,eS⟩=true:=by
 obtain⟨f,hf,rfl⟩:=dg.1 ha;exact(Ii rfl (by rw[Xp,nU h hb,dy.2 (h.eId hf)];rfl)).2 ⟨⟨f,hf,rfl⟩,hb⟩
theorem Ti(h:di x){a n:Int}(ha:aS aJ.id a x.itms=true)(hn:n=0∨n=1):av x ⟨8,a,0,n,eS,eS,eS⟩=true:=by
 obtain⟨f,hf,rfl⟩:=dg.1 ha;exact(yX (.inl rfl) (by rw[Xq,dy.2 (h.iId hf).1];simp[aZ,hn])).2 ⟨f,hf,rfl⟩
theorem Tj(h:di x){a n:Int}(ha:aS aJ.id a x.itms=true)(hn:n=0∨n=1):av x ⟨9,a,0,n,eS,eS,eS⟩=true:=by
 obtain⟨f,hf,rfl⟩:=dg.1 ha;exact(yX (.inr rfl) (by rw[Xr,dy.2 (h.iId hf).1];simp[aZ,hn])).2 ⟨f,hf,rfl⟩
theorem P1(h:di x){a:Int}(ha:aS dE.id a x.seas=true):av x ⟨12,a,0,0,eS,eS,eS⟩=true:=by
 obtain⟨f,hf,rfl⟩:=dg.1 ha;exact(Ik rfl (by rw[Te];exact dy.2 (h.sId hf))).2 ⟨f,hf,rfl⟩
theorem yo{x:St}{l:List aP}:{x with fees:=l}=x↔l=x.fees:=⟨λh=>congrArg St.fees h,λh=>by rw[h]⟩
theorem ui{x:St}{l:List aJ}:{x with itms:=l}=x↔l=x.itms:=⟨λh=>congrArg St.itms h,λh=>by rw[h]⟩
theorem Xs{a:Int}(h:di x)(hf:av x ⟨2,a,0,0,eS,eS,eS⟩=true):tM x ⟨2,a,0,0,eS,eS,eS⟩=true:=by
 refine rq hf λe=>?_
 rw[Rc rfl] at e;obtain⟨⟨f,h1,h2⟩,-⟩:=(Ih rfl (dx hf)).1 hf;exact zv h.fR (dg.2 ⟨f,h1,h2⟩) (congrArg St.fols e)
theorem Xt{a:Int}(h:di x)(ha:aS aP.id a x.fees=true):tM x ⟨4,a,0,0,eS,eS,eS⟩=true:=by
 refine rq (Tf h ha) λe=>?_
 rw[Re rfl] at e;exact zv h.eR ha (congrArg St.fees e)
theorem Tk{a:Int}(h:di x)(ha:aS dE.id a x.seas=true):tM x ⟨12,a,0,0,eS,eS,eS⟩=true:=by
 refine rq (P1 h ha) λe=>?_
 rw[Kt rfl] at e;exact zv h.sR ha (congrArg St.seas e)
theorem Xu{a:Int}{t:ByteArray}{f:aP}(h:di x)(ha:eV aP.id a x.fees=some f)(ht:gK t=true):tM x ⟨5,a,0,0,eS,t,eS⟩=!decide (t=f.title):=by
 refine ug (Tg h (qp ha) ht) ?_;rw[Rf rfl,yo,pP h.eR ha];exact⟨λe=>congrArg aP.title e,λe=>by simp only[e]⟩
theorem Xv{a b:Int}{f:aP}(h:di x)(ha:eV aP.id a x.fees=some f)(hb:eQ x b=true):tM x ⟨6,a,b,0,eS,eS,eS⟩=!decide (b=f.inn):=by
 refine ug (Th h (qp ha) hb) ?_;rw[Rg rfl,yo,pP h.eR ha];exact⟨λe=>congrArg aP.inn e,λe=>by simp only[e]⟩
theorem Tl{a n:Int}{t:aJ}(h:di x)(ha:eV aJ.id a x.itms=some t)(hn:n=0∨n=1):tM x ⟨8,a,0,n,eS,eS,eS⟩=!decide (t.read=decide (n=1)):=by
 refine ug (Ti h (qp ha) hn) ?_;rw[Pt rfl,ui,pP h.iR ha];exact⟨λe=>(congrArg aJ.read e).symm,λe=>by simp only[←e]⟩
theorem Xw{a n:Int}{t:aJ}(h:di x)(ha:eV aJ.id a x.itms=some t)(hn:n=0∨n=1):tM x ⟨9,a,0,n,eS,eS,eS⟩=!decide (t.star=decide (n=1)):=by
 refine ug (Tj h (qp ha) hn) ?_;rw[Ri rfl,ui,pP h.iR ha];exact⟨λe=>(congrArg aJ.star e).symm,λe=>by simp only[←e]⟩
theorem Tm{a n:Int}{t:aJ}(h:di x)(ha:eV aJ.id a x.itms=some t)(hf:av x ⟨10,a,0,n,s,eS,eS⟩=true):tM x ⟨10,a,0,n,s,eS,eS⟩=!decide ((t.tags.any λy=>y=s)=decide (n=1)):=by
 refine ug hf ?_;rw[Ks rfl,ui,pP h.iR ha];have hs:=(kU _).1 (h.iE t (dG ha).1).2.2.2.2;rw[←I9 (decide (n=1)) hs.2];exact⟨λe=>by have:=congrArg aJ.tags e;exact this,λe=>by simp only[e]⟩
theorem Tn{n:Int}(hf:av x ⟨13,0,0,n,eS,eS,eS⟩=true):tM x ⟨13,0,0,n,eS,eS,eS⟩=!decide (n=x.clock):=by
 refine ug hf ?_;rw[M6 rfl];exact⟨λh=>congrArg St.clock h,λh=>by simp only[h]⟩
theorem Xx(hk:e.kind=1)(hf:av x e=true):tM x e=true:=by
 refine rq hf λh=>?_
 rw[Pr hk] at h;exact zu (congrArg St.fols h)
theorem Xy(hk:e.kind=3)(hf:av x e=true):tM x e=true:=by
 refine rq hf λh=>?_
 rw[Ps hk] at h;exact zu (congrArg St.fees h)
theorem Tp(hk:e.kind=11)(hf:av x e=true):tM x e=true:=by
 refine rq hf λh=>?_
 rw[Il hk] at h;exact zu (congrArg St.seas h)
end
end
section
section
variable {x:St}
def tT:ByteArray:=⟨#[116]⟩
theorem Ja:gK tT=true:=by decide+kernel
theorem Jb:gL tT=true:=by decide+kernel
theorem Jc(h:di x)(s:ByteArray):0≤cH x s:=by
 unfold cH;split
 ·have:=h.eId (List.mem_of_find?_eq_some (by assumption));omega
 ·exact Int.le_refl _
theorem NN(h:di x){b:Int}(hb:eQ x b=true)(hs:df s=true)(ht:x.tFol<1048576):av x ⟨1,x.tFol+1,b,0,s,eS,eS⟩=av x ⟨1,1048576,b,0,s,eS,eS⟩:=by
 have h0:=h.fT;have o1:aQ ⟨1,x.tFol+1,b,0,s,eS,eS⟩=true:=by rw[Km,nU h hb,hs,dy.2 (by omega)];rfl
 have o2:aQ ⟨1,1048576,b,0,s,eS,eS⟩=true:=by rw[Km,nU h hb,hs];rfl
 rw[Bool.eq_iff_iff,ES rfl o1,ES rfl o2];have e:(∀f∈x.fols,f.id≠x.tFol+1)↔∀f∈x.fols,f.id≠1048576:=⟨λ_ f hf=>by have:=(h.fE f hf).2;omega,λ_ f hf=>by have:=(h.fE f hf).2;omega⟩;simp only[e]
theorem NP(h:di x){b:Int}{s t t':ByteArray}(hb:eQ x b=true)(hs:iD s=true)(h1:gK t=true)(h2:gK t'=true)(ht:x.tFee<1048576):av x ⟨3,x.tFee+1,b,0,s,t,eS⟩=av x ⟨3,1048576,b,0,s,t',eS⟩:=by
 have h0:=h.eT;have o1:aQ ⟨3,x.tFee+1,b,0,s,t,eS⟩=true:=by rw[JY,nU h hb,hs,h1,dy.2 (by omega)];rfl
 have o2:aQ ⟨3,1048576,b,0,s,t',eS⟩=true:=by rw[JY,nU h hb,hs,h2];rfl
 rw[Bool.eq_iff_iff,ET rfl o1,ET rfl o2];have e:(∀f∈x.fees,f.id≠x.tFee+1)↔∀f∈x.fees,f.id≠1048576:=⟨λ_ f hf=>by have:=(h.eE f hf).2.1;omega,λ_ f hf=>by have:=(h.eE f hf).2.1;omega⟩;simp only[e]
theorem Lr(h:di x){s t t':ByteArray}(hs:df s=true)(h1:gL t=true)(h2:gL t'=true)(ht:x.tSea<1048576):av x ⟨11,x.tSea+1,0,0,s,t,eS⟩=av x ⟨11,1048576,0,0,s,t',eS⟩:=by
 have h0:=h.sT;have o1:aQ ⟨11,x.tSea+1,0,0,s,t,eS⟩=true:=by rw[Kn,hs,h1,dy.2 (by omega)];rfl
 have o2:aQ ⟨11,1048576,0,0,s,t',eS⟩=true:=by rw[Kn,hs,h2];rfl
 rw[Bool.eq_iff_iff,yY rfl o1,yY rfl o2];have e:(∀f∈x.seas,f.id≠x.tSea+1)↔∀f∈x.seas,f.id≠1048576:=⟨λ_ f hf=>by have:=(h.sE f hf).2;omega,λ_ f hf=>by have:=(h.sE f hf).2;omega⟩;simp only[e]
theorem NQ:eQ x 0=true:=rfl
theorem P2(h:di x)(b:Int)(hs:dQ s 64=true):
  lI x ⟨1,0,b,0,s,eS,eS⟩ (ey x b s)=if iV x 1 b s=0 then ([(⟨1,x.tFol+1,b,0,s,eS,eS⟩:Ev)].filter (tM x),0) else ([],iV x 1 b s):=by
 have h0:=h.fT;unfold lI iV
 by_cases mU:s=eS
 ·simp[mU]
 ·have hl:df s=true:=by simp[df,mU,hs]
  cases hb:eQ x b with
  | false=>simp[mU,hb]
  | true=>
    cases hn:ey x b s with
    | true=>simp[mU,hb,hn]
    | false=>
      by_cases ht:x.tFol=1048576
      ·simp[mU,hb,hn,rz,ht]
      ·have hf:=NN h hb hl (by omega)
       have IW:¬1048576≤x.tFol:=by omega
       cases hf2:av x ⟨1,1048576,b,0,s,eS,eS⟩ with
       | false=>
         rw[hf2] at hf
         simp[mU,hb,hn,rz,ht,hf,hf2]
       | true=>
         rw[hf2] at hf;have hc:=Xx (e:=⟨1,x.tFol+1,b,0,s,eS,eS⟩) rfl hf;simp[mU,hb,hn,rz,ht,IW,hf,hf2,hc]
theorem P5(h:di x)(b:Int){s t:ByteArray}(hs:dQ s 512=true)(Xz:gK t=true):
  lI x ⟨3,0,b,0,s,t,eS⟩ (!decide (cH x s=0))=if iV x 3 b s=0 then ([(⟨3,x.tFee+1,b,0,s,t,eS⟩:Ev)].filter (tM x),0) else ([],iV x 3 b s):=by
 have h0:=h.eT
 have hp:(!decide (cH x s=0))=decide (0<cH x s):=by
  have:=Jc h s;rw[Bool.eq_iff_iff];simp;omega
 rw[hp];unfold lI iV
 by_cases mU:s=eS
 ·simp[mU]
 ·have hl:iD s=true:=by simp[iD,nH,mU,hs]
  cases hb:eQ x b with
  | false=>simp[mU,hb]
  | true=>
    cases hn:decide (0<cH x s) with
    | true=>
      have hn':=of_decide_eq_true hn
      simp[mU,hb,hn']
    | false=>
      have hn':=of_decide_eq_false hn
      by_cases ht:x.tFee=1048576
      ·simp[mU,hb,hn',rz,ht]
      ·have hf:=NP h hb hl Xz Ja (by omega)
       have IW:¬1048576≤x.tFee:=by omega
       cases hf2:av x ⟨3,1048576,b,0,s,tT,eS⟩ with
       | false=>
         rw[hf2] at hf;unfold tT at hf2
         simp[mU,hb,hn',rz,ht,hf,hf2]
       | true=>
         rw[hf2] at hf;unfold tT at hf2;have hc:=Xy (e:=⟨3,x.tFee+1,b,0,s,t,eS⟩) rfl hf;simp[mU,hb,hn',rz,ht,IW,hf,hf2,hc]
theorem NR(h:di x)(b:Int){s t:ByteArray}(hs:dQ s 64=true)(hq:dQ t 512=true):
  lI x ⟨11,0,0,0,s,t,eS⟩ false=if (if t=eS then 1 else iV x 12 b s)=0 then ([(⟨11,x.tSea+1,0,0,s,t,eS⟩:Ev)].filter (tM x),0) else ([],if t=eS then 1 else iV x 12 b s):=by
 have h0:=h.sT;unfold lI iV
 by_cases O5:t=eS
 ·simp[O5]
 ·by_cases mU:s=eS
  ·simp[mU,O5]
  ·have hl:df s=true:=by simp[df,mU,hs]
   have hl2:gL t=true:=by simp[gL,O5,hq]
   by_cases ht:x.tSea=1048576
   ·simp[mU,O5,rz,ht,NQ]
   ·have hf:=Lr h hl hl2 Jb (by omega)
    have IW:¬1048576≤x.tSea:=by omega
    cases hf2:av x ⟨11,1048576,0,0,s,tT,eS⟩ with
    | false=>
      rw[hf2] at hf;unfold tT at hf2
      simp[mU,O5,rz,ht,hf,hf2,NQ]
    | true=>
      rw[hf2] at hf;unfold tT at hf2;have hc:=Tp (e:=⟨11,x.tSea+1,0,0,s,t,eS⟩) rfl hf;simp[mU,O5,rz,ht,IW,hf,hf2,hc,NQ]
theorem E8(h:di x)(l:List Int)(p:aJ→Bool)(hp:∀t∈x.itms,(l.any λi=>decide (i=t.feed))=p t):
  jo x l=((x.itms.filter p).map λt=>(⟨8,t.id,0,1,eS,eS,eS⟩:Ev)).filter (tM x):=by
 unfold jo;rw[List.filter_map,List.filter_filter]
 congr 1
 refine List.filter_congr λt ht=>?_
 have hc:=Tl (n:=1) h (jl h.iR ht rfl) (.inr rfl);rw[hp t ht];simp only[Function.comp,hc]
 cases t.read<;>simp
theorem Gx(h:di x){a:Int}(ha:eQ x a=true){t:aJ}(ht:t∈x.itms):((dF x a).any λi=>decide (i=t.feed))=match eV aP.id t.feed x.fees with|none=>false|some f=>bD x f.inn a:=by
 unfold dF;rw[if_pos ha]
 cases hf:eV aP.id t.feed x.fees with
 | none=>
   have:=(h.iE t ht).2.2.1;rw[uh hf] at this
   cases this
 | some f=>
   have hm:=dG hf;rw[Bool.eq_iff_iff];simp only[List.any_map,List.any_eq_true,List.mem_filter,Function.comp,decide_eq_true_eq];constructor
   ·rintro⟨g,⟨hg,hw⟩,hi⟩
    rw[ri h.eR hm.1 hg (by rw[hm.2,hi])];exact hw
   ·exact λhw=>⟨f,⟨hm.1,hw⟩,hm.2⟩
end
section
variable {sh:ByteArray→Int→ByteArray} {tg:ByteArray→ByteArray}
theorem Fa(yH:∀s m,0≤m→dQ (sh s m) m=true){x:St}(h:di x)(c:Cm):aB sh tg x c=s9 sh tg x c:=by
 have hch:(λe=>!decide ((bB x e).1=x))=tM x:=rfl;unfold s9;rw[hch];obtain⟨k,a,b,n,s,t⟩:=c;have t64:=yH s 64 (by decide);have Tq:=yH s 512 (by decide);have P6:gK (sh t 256)=true:=yH t 256 (by decide);have Tr:=yH t 512 (by decide)
 by_cases k1:k=1
 ·subst k1
  simp only[aB,aF,aL];exact P2 h b t64
 by_cases k3:k=3
 ·subst k3
  simp only[aB,aF,aL];exact P5 h b Tq P6
 by_cases Ts:k=12
 ·subst Ts
  have:=NR h b t64 Tr;simp only[aB,aF,aL];exact this
 by_cases k2:k=2
 ·subst k2
  simp only[aB,aF,aL]
  cases hi:aS bg.id a x.fols with
  | false=>simp
  | true=>
    cases hf:av x ⟨2,a,0,0,eS,eS,eS⟩ with
    | false=>simp
    | true=>
      have hc:=Xs h hf;simp[hc]
 by_cases Jd:k=4∨k=5∨k=6
 ·cases ha:eV aP.id a x.fees with
  | none=>
    have hi:=uh ha
    rcases Jd with rfl|rfl|rfl<;>simp[aB,aF,aL,ha,hi]
  | some f=>
    have hi:=qp ha;rcases Jd with rfl|rfl|rfl
    ·have hc:=Xt h hi
     simp[aB,aF,aL,ha,hi,hc]
    ·have hw:aF sh tg x ⟨5,a,b,n,s,t⟩=0:=by simp[aF,hi]
     have hk:aL sh tg x ⟨5,a,b,n,s,t⟩=[⟨5,a,0,0,eS,sh t 256,eS⟩]:=by simp[aL]
     rw[hw,if_pos rfl,hk,yn _ _ _ (Xu h ha P6)];simp[aB,ha]
    ·cases hb:eQ x b with
     | false=>simp[aB,aF,aL,ha,hi,hb]
     | true=>
       have hw:aF sh tg x ⟨6,a,b,n,s,t⟩=0:=by simp[aF,hi,hb]
       have hk:aL sh tg x ⟨6,a,b,n,s,t⟩=[⟨6,a,b,0,eS,eS,eS⟩]:=by simp[aL]
       rw[hw,if_pos rfl,hk,yn _ _ _ (Xv h ha hb)];simp[aB,ha,hb]
 by_cases Gy:k=7∨k=8∨k=9
 ·by_cases hn:n=0∨n=1
  ·have hn':¬¬(n=0∨n=1):=λh=>h hn
   cases ha:eV aJ.id a x.itms with
   | none=>
     have hi:=uh ha;rcases Gy with rfl|rfl|rfl
     ·simp only[aB,aF,ha,hi];simp[hn]
     ·simp only[aB,aF,ha,hi];simp[hn]
     ·by_cases ht:tg s=eS<;>simp only[aB,aF,ha,hi]<;>simp[hn,ht]
   | some q=>
     have hi:=qp ha;rcases Gy with rfl|rfl|rfl
     ·have hw:aF sh tg x ⟨7,a,b,n,s,t⟩=0:=by simp only[aF,hi];simp[hn]
      have hk:aL sh tg x ⟨7,a,b,n,s,t⟩=[⟨8,a,0,n,eS,eS,eS⟩]:=by simp[aL]
      rw[hw,if_pos rfl,hk,yn _ _ _ (Tl h ha hn)];simp only[aB,ha];simp[hn]
     ·have hw:aF sh tg x ⟨8,a,b,n,s,t⟩=0:=by simp only[aF,hi];simp[hn]
      have hk:aL sh tg x ⟨8,a,b,n,s,t⟩=[⟨9,a,0,n,eS,eS,eS⟩]:=by simp[aL]
      rw[hw,if_pos rfl,hk,yn _ _ _ (Xw h ha hn)];simp only[aB,ha];simp[hn]
     ·by_cases ht:tg s=eS
      ·simp only[aB,aF,ha,hi];simp[hn,ht]
      ·cases hf:av x ⟨10,a,0,n,tg s,eS,eS⟩ with
       | false=>simp only[aB,aF,ha,hi,hf];simp[hn,ht]
       | true=>
         have hw:aF sh tg x ⟨9,a,b,n,s,t⟩=0:=by simp only[aF,hi,hf];simp[hn,ht]
         have hk:aL sh tg x ⟨9,a,b,n,s,t⟩=[⟨10,a,0,n,tg s,eS,eS⟩]:=by simp[aL]
         rw[hw,if_pos rfl,hk,yn _ _ _ (Tm h ha hf)];simp only[aB,ha,hf];simp[hn,ht]
  ·rcases Gy with rfl|rfl|rfl<;>simp only[aB,aF]<;>simp[hn]
 by_cases NS:k=10
 ·subst NS
  cases hi:aS aP.id a x.fees with
  | false=>simp[aB,aF,hi]
  | true=>
    have hw:aF sh tg x ⟨10,a,b,n,s,t⟩=0:=by simp[aF,hi]
    have hk:aL sh tg x ⟨10,a,b,n,s,t⟩=(x.itms.filter λq=>decide (q.feed=a)).map λq=>⟨8,q.id,0,1,eS,eS,eS⟩:=by simp[aL]
    rw[hw,if_pos rfl,hk,←E8 h [a] (λq=>decide (q.feed=a)) (λq _=>by rw[Bool.eq_iff_iff];simp[eq_comm])];simp[aB,hi]
 by_cases Tt:k=11
 ·subst Tt
  cases hi:eQ x a with
  | false=>simp[aB,aF,hi]
  | true=>
    have hw:aF sh tg x ⟨11,a,b,n,s,t⟩=0:=by simp[aF,hi]
    have hk:aL sh tg x ⟨11,a,b,n,s,t⟩=(x.itms.filter λq=>match eV aP.id q.feed x.fees with|none=>false|some f=>bD x f.inn a).map λq=>⟨8,q.id,0,1,eS,eS,eS⟩:=by
     unfold aL
     repeat rw[if_neg (by decide)]
     rfl
    rw[hw,if_pos rfl,hk,←E8 h (dF x a) _ (λq hq=>Gx h hi hq)];simp[aB,hi]
 by_cases Tu:k=13
 ·subst Tu
  cases hi:aS dE.id a x.seas with
  | false=>simp[aB,aF,hi]
  | true=>
    have hc:=Tk h hi;simp[aB,aF,aL,hi,hc]
 by_cases Tv:k=14
 ·subst Tv
  by_cases hm:dR n=false∨n<x.clock
  ·have hf:av x ⟨13,0,0,n,eS,eS,eS⟩=false:=by
    cases ho:dR n with
    | false=>
      unfold av;rw[NM,ho]
      rfl
    | true=>
      have:=(Db (x:=x) (e:=⟨13,0,0,n,eS,eS,eS⟩) rfl (by rw[NM];exact ho));rw[←Bool.not_eq_true,this];rcases hm with hm|hm
      ·rw[ho] at hm;cases hm
      ·show ¬x.clock≤n
       omega
   simp only[aB,aF,hf];simp[hm]
  ·have h1:dR n=true:=by cases ho:dR n with
    | false=>exact absurd (.inl ho) hm
    | true=>rfl
   have hf:av x ⟨13,0,0,n,eS,eS,eS⟩=true:=(Db rfl (by rw[NM];exact h1)).2 (by show x.clock≤n;have:¬n<x.clock:=λh=>hm (.inr h);omega);have hw:aF sh tg x ⟨14,a,b,n,s,t⟩=0:=by simp only[aF];simp[hm]
   have hk:aL sh tg x ⟨14,a,b,n,s,t⟩=[⟨13,0,0,n,eS,eS,eS⟩]:=by simp[aL]
   rw[hw,if_pos rfl,hk,yn _ _ _ (Tn hf)];simp only[aB,hf];simp
 have P7:¬k=4∧¬k=5∧¬k=6:=⟨λh=>Jd (.inl h),λh=>Jd (.inr (.inl h)),λh=>Jd (.inr (.inr h))⟩;have P8:¬k=7∧¬k=8∧¬k=9:=⟨λh=>Gy (.inl h),λh=>Gy (.inr (.inl h)),λh=>Gy (.inr (.inr h))⟩;simp[aB,aF,k1,k2,k3,Ts,NS,Tt,Tu,Tv,P7,P8]
end
end
section
def rJ:St→List Ev→Prop
 | _,[]=>True
 | x,e::r=>av x e=true∧iB x e≠x∧rJ (iB x e) r
theorem zw{x:St}(h:tM x e=true):av x e=true∧iB x e≠x:=by
 unfold tM at h
 cases hf:av x e with
 | false=>
   unfold bB at h
   simp[hf] at h
 | true=>
   rw[DI hf] at h;exact⟨rfl,by simpa using h⟩
theorem Gz{x:St}(h:tM x e=true):rJ x [e]:=⟨(zw h).1,(zw h).2,trivial⟩
theorem BJ{x:St}(e:Ev):rJ x ([e].filter (tM x)):=by
 cases h:tM x e with
 | false=>simp[h,rJ]
 | true=>simp only[List.filter,h];exact Gz h
theorem wH:∀(l:List aJ) {x:St},di x→(∀t∈l,∃q∈x.itms,q.id=t.id∧q.read=false)→l.Pairwise (λa b=>a.id≠b.id)→rJ x (l.map λt=>⟨8,t.id,0,1,eS,eS,eS⟩)
 | [],_,_,_,_=>trivial
 | t::l,x,h,hl,hp=>by
   obtain⟨q,hq,Rt,XA⟩:=hl t (by simp);have hat:eV aJ.id t.id x.itms=some q:=jl h.iR hq Rt;have hc:tM x ⟨8,t.id,0,1,eS,eS,eS⟩=true:=by rw[Tl h hat (.inr rfl),XA];rfl
   obtain⟨h1,h2⟩:=zw hc;refine⟨h1,h2,wH l (lf h h1) (λa ha=>?_) (List.pairwise_cons.1 hp).2⟩;obtain⟨r,hr,Dv,Ls⟩:=hl a (by simp[ha]);have hne:r.id≠t.id:=by rw[Dv];exact λe=>(List.pairwise_cons.1 hp).1 a ha e.symm
   refine⟨r,?_,Dv,Ls⟩;rw[Pt rfl];show r∈gM aJ.id t.id _ x.itms
   rw[sQ _ h.iR];exact List.mem_map.2 ⟨r,hr,if_neg hne⟩
theorem Lt{x:St}(h:di x)(p:aJ→Bool):(x.itms.filter p).Pairwise λa b=>a.id≠b.id:=
 (h.iR.sublist List.filter_sublist).imp λhab e=>by omega
section
variable {sh:ByteArray→Int→ByteArray} {tg:ByteArray→ByteArray}
theorem uH{x:St}(h:di x)(l:List Int):rJ x (jo x l):=by
 unfold jo;refine wH _ h (λt ht=>?_) (Lt h _);rw[List.mem_filter] at ht;refine⟨t,ht.1,rfl,?_⟩;have:=ht.2;simp only[Bool.and_eq_true,Bool.not_eq_true'] at this;exact this.1
theorem DJ(yH:∀s m,0≤m→dQ (sh s m) m=true){x:St}(h:di x)(c:Cm):rJ x (aB sh tg x c).1:=by
 by_cases NS:c.kind=10∨c.kind=11
 ·obtain⟨k,a,b,n,s,t⟩:=c
  rcases NS with rfl|rfl
  ·cases hi:aS aP.id a x.fees with
   | false=>simp[aB,hi,rJ]
   | true=>
     have:(aB sh tg x ⟨10,a,b,n,s,t⟩).1=jo x [a]:=by simp[aB,hi]
     rw[this];exact uH h _
  ·cases hi:eQ x a with
   | false=>simp[aB,hi,rJ]
   | true=>
     have:(aB sh tg x ⟨11,a,b,n,s,t⟩).1=jo x (dF x a):=by simp[aB,hi]
     rw[this];exact uH h _
 ·have h1:aF sh tg x c=0→(aL sh tg x c).length=1:=by
   intro h0
   by_cases q1:c.kind=1
   ·simp[aL,q1]
   by_cases q2:c.kind=2
   ·simp[aL,q2]
   by_cases q3:c.kind=3
   ·simp[aL,q3]
   by_cases q4:c.kind=4
   ·simp[aL,q4]
   by_cases q5:c.kind=5
   ·simp[aL,q5]
   by_cases q6:c.kind=6
   ·simp[aL,q6]
   by_cases q7:c.kind=7
   ·simp[aL,q7]
   by_cases q8:c.kind=8
   ·simp[aL,q8]
   by_cases q9:c.kind=9
   ·simp[aL,q9]
   by_cases Vf:c.kind=12
   ·simp[aL,Vf]
   by_cases Vg:c.kind=13
   ·simp[aL,Vg]
   by_cases Vh:c.kind=14
   ·simp[aL,Vh]
   have h10:¬c.kind=10:=λe=>NS (.inl e)
   have h11:¬c.kind=11:=λe=>NS (.inr e)
   simp[aF,q1,q2,q3,q4,q5,q6,q7,q8,q9,Vf,Vg,Vh,h10,h11] at h0
  rw[Fa yH h];unfold s9;have hch:(λe=>!decide ((bB x e).1=x))=tM x:=rfl;rw[hch];split
  ·rename_i h0
   obtain⟨e,he⟩:=List.length_eq_one_iff.1 (h1 h0);rw[he];exact BJ e
  ·trivial
end
end
section
structure P9(x y:St):Prop where
 fols:y.fols=x.fols
 fees:y.fees=x.fees
section
variable {sh:ByteArray→Int→ByteArray} {tg:ByteArray→ByteArray}
end
end
section
section
variable {x:St}
end
end
section
section
variable {x:St}
theorem DK{l:List bg}(h:gq l j id)(h0:id≠0):∃f∈l,f.id=id:=by
 cases j with
 | zero=>exact absurd h h0
 | succ j=>
   obtain⟨-,f,hf,-⟩:=h;exact⟨f,dG hf⟩
theorem Lu(h:di x){f:bg}(hf:f∈x.fols):f.inn=0∨∃g∈x.fols,g.id=f.inn:=by
 obtain⟨j,-,hc⟩:=h.fD f hf
 cases j with
 | zero=>exact absurd hc (by have:=h.fId hf;intro e;have e:f.id=0:=e;omega)
 | succ j=>
   obtain⟨-,g,hg,hc⟩:=hc;have:g=f:=ri h.fR (dG hg).1 hf (dG hg).2;subst this
   by_cases h0:g.inn=0
   ·exact .inl h0
   ·exact .inr (DK hc h0)
end
end
section
section
variable {x:St}
end
end
section
section
variable {y:St} {m:Int}
end
end
section
def dJ(x:St)(e:Ev):List Ev:=
 if e.kind=1 then [⟨2,e.a,0,0,eS,eS,eS⟩]
 else if e.kind=2 then [match eV bg.id e.a x.fols with|none=>⟨1,e.a,0,0,eS,eS,eS⟩|some f=>⟨1,e.a,f.inn,0,f.name,eS,eS⟩]
 else if e.kind=3 then [⟨4,e.a,0,0,eS,eS,eS⟩]
 else if e.kind=4 then (match eV aP.id e.a x.fees with|none=>⟨3,e.a,0,0,eS,eS,eS⟩|some f=>⟨3,e.a,f.inn,0,f.url,f.title,eS⟩)::(x.itms.filter λt=>decide (t.feed=e.a)).flatMap yZ
 else if e.kind=5 then [match eV aP.id e.a x.fees with|none=>⟨5,e.a,0,0,eS,eS,eS⟩|some f=>⟨5,e.a,0,0,eS,f.title,eS⟩]
 else if e.kind=6 then [match eV aP.id e.a x.fees with|none=>⟨6,e.a,0,0,eS,eS,eS⟩|some f=>⟨6,e.a,f.inn,0,eS,eS,eS⟩]
 else if e.kind=11 then [⟨12,e.a,0,0,eS,eS,eS⟩]
 else if e.kind=12 then [match eV dE.id e.a x.seas with|none=>⟨11,e.a,0,0,eS,eS,eS⟩|some q=>⟨11,e.a,0,0,q.name,q.query,eS⟩]
 else [{e with n:=1-e.n}]
section
variable {sh:ByteArray→Int→ByteArray} {tg:ByteArray→ByteArray}
end
end
section
theorem sg{l:List bg}(h:id=u∨id=0):∀k,xG l k id u=id
 | 0=>rfl
 | k+1=>by
   unfold xG;rw[if_neg];rintro⟨h1,h2⟩;rcases h with h|h
   ·exact h1 h
   ·exact h2 h
theorem vo{l:List bg}{f:bg}(h1:id≠u)(h2:id≠0)(hf:eV bg.id id l=some f)(k:Nat):xG l (k+1) id u=xG l k f.inn u:=by
 conv=>lhs;unfold xG
 rw[if_pos ⟨h1,h2⟩,hf]
theorem Fb{l:List bg}:∀(j k:Nat) (id:Int),gq l j id→j≤k→xG l k id u=xG l j id u
 | 0,k,id,h,_=>by
   have h0:id=0:=h
   rw[sg (.inr h0),sg (.inr h0)]
 | j+1,0,_,_,hk=>by omega
 | j+1,k+1,id,h,hk=>by
   obtain⟨h0,f,hf,hc⟩:=h
   by_cases h1:id=u
   ·rw[sg (.inl h1),sg (.inl h1)]
   ·rw[vo h1 h0 hf,vo h1 h0 hf]
    exact Fb j k f.inn hc (by omega)
theorem Je{x:St}(h:di x){b:Int}(hb:eQ x b=true):∃j,j≤7∧gq x.fols j b:=by
 obtain⟨j,h1,h2,-⟩:=h.deep b hb;exact⟨j,h1,h2⟩
theorem GD{x:St}(h:di x){b u:Int}(hb:eQ x b=true)(hc:gq x.fols j b)(hj:j≤10):bD x b u=(decide (xG x.fols j b u=u)||decide (u=0)):=by
 unfold bD;rw[Fb j 10 b hc hj]
section
variable (sh:ByteArray→Int→ByteArray) (tg:ByteArray→ByteArray)
def Hm(x:St)(c:Cm):St:=cZ x (aB sh tg x c).1
theorem NT{x:St}(h:di x)(c:Cm):di (Hm sh tg x c):=qK _ h
end
end
def kH:List Nat→Int→List Nat
 | [],_=>[]
 | c::r,n=>if ((en c).length:Int)≤n then c::kH r (n-(en c).length) else []
def pC(l:List UInt8)(m:Int):List Nat:=bh (kH (bh (cV l) [] false) m) [] false
def ah(s:ByteArray)(m:Int):ByteArray:=fB (enc (pC (aX s) m))
theorem BK:∀(l:List Nat) {n:Int},0≤n→((enc (kH l n)).length:Int)≤n
 | [],n,h=>by simpa [kH,enc] using h
 | c::r,n,h=>by
   unfold kH;split
   ·rename_i h1
    have:=BK r (n:=n-(en c).length) (by omega);rw[dn,List.length_append];omega
   ·simpa [enc] using h
theorem td:∀(l:List Nat) (n:Int),∀c∈kH l n,c∈l
 | [],_,c,h=>by simp[kH] at h
 | a::r,n,c,h=>by
   unfold kH at h;split at h
   ·rcases List.mem_cons.1 h with rfl|h
    ·simp
    ·exact List.mem_cons.2 (.inr (td r _ c h))
   ·simp at h
def uj(out:List Nat):Prop:=∀r,bh (out++r) [] false=bh r out false
theorem BL(h:uj out){c:Nat}(h1:¬mY c=true)(h2:¬qI c=true):uj (out++[c]):=λr=>by
 rw[List.append_assoc,h];show bh (c::r) out false=_
 rw[bh,if_neg h1,if_neg h2];simp
theorem zx(h:uj out)(hne:out≠[]){c:Nat}(h1:¬mY c=true)(h2:¬qI c=true):uj (out++[32]++[c]):=λr=>by
 rw[List.append_assoc,List.append_assoc,h];show bh (32::c::r) out false=_
 have hb:mY 32=true:=rfl;have hi:out.isEmpty=false:=by cases out<;>simp_all
 rw[bh,if_pos hb,hi,bh,if_neg h1,if_neg h2];simp
theorem pn:∀(rs out:List Nat) (wt:Bool),uj out→(wt=true→out≠[])→uj (bh rs out wt)
 | [],out,wt,h,_=>by simpa [bh] using h
 | c::r,out,wt,h,hw=>by
   unfold bh;split
   ·exact pn r out _ h λe=>by cases out<;>simp_all
   ·split
    ·exact pn r out wt h hw
    ·rename_i h1 h2
     refine pn r _ false ?_ λe=>by cases e
     split
     ·rename_i h3
      exact zx h (hw h3) h1 h2
     ·exact BL h h1 h2
theorem BM(rs:List Nat):bh (bh rs [] false) [] false=bh rs [] false:=by
 have:=pn rs [] false (λr=>rfl) (λe=>by cases e) [];rw[List.append_nil] at this;exact this
theorem nt:∀(rs out:List Nat) (wt:Bool),(enc (bh rs out wt)).length≤(enc out).length+(enc rs).length+(if wt=true then 1 else 0)
 | [],out,wt=>Nat.le_trans (Nat.le_add_right _ _) (Nat.le_add_right _ _)
 | c::r,out,wt=>by
   have hc:=(nB c).1;have XB:(enc [32]).length=1:=by decide
   rw[dn,List.length_append];unfold bh;split
   ·have:=nt r out (!out.isEmpty)
    have h1:(if (!out.isEmpty)=true then 1 else 0)≤1:=by split<;>omega
    omega
   ·split
    ·have:=nt r out wt
     omega
    ·have:=nt r ((if wt=true then out++[32] else out)++[c]) false
     rw[eF,List.length_append] at this;have h2:(enc [c]).length=(en c).length:=by simp[enc]
     cases wt with
     | true=>
       simp only[if_true] at this ⊢;rw[eF,List.length_append,XB] at this;simp only[Bool.false_eq_true,if_false,Nat.add_zero] at this
       omega
     | false=>
       simp only[Bool.false_eq_true,if_false,Nat.add_zero] at this ⊢;omega
theorem wI:∀(rs:List Nat),(∀r∈rs,Vr r)→dY (enc rs)=true
 | [],_=>rfl
 | c::r,h=>by
   have hd:=mn c (h c (by simp)) (enc r)
   have hne:enc (c::r)≠[]:=by
    rw[dn];intro e;exact EL c (List.append_eq_nil_iff.1 e).1
   rw[qH _ (by
    rw[dn,hd];intro e;injection e with e1 e2;subst e1;have:(en 65533).length=3:=by decide
    omega) hne,dn,hd]
   simp only[List.drop_left];exact wI r λx hx=>h x (List.mem_cons_of_mem _ hx)
theorem zy(l:List UInt8)(m:Int):∀r∈pC l m,Vr r:=
 jb _ _ _ (λr hr=>jb _ _ _ (kR l) (by simp) r (td _ _ r hr)) (by simp)
theorem wJ(s:ByteArray)(m:Int)(h:0≤m):dQ (ah s m) m=true:=by
 have hv:=zy (aX s) m;have hb:aX (ah s m)=enc (pC (aX s) m):=by simp[ah,aX,fB]
 unfold dQ;rw[hb,wI _ hv];have hsz:(ah s m).size=(enc (pC (aX s) m)).length:=by simp[ah,fB,ByteArray.size]
 rw[hsz];have h1:=BK (bh (cV (aX s)) [] false) h;have h2:=nt (kH (bh (cV (aX s)) [] false) m) [] false
 have h3:dP (enc (pC (aX s) m))=enc (pC (aX s) m):=by
  unfold dP;rw[qD _ hv];unfold pC;rw[BM]
 rw[h3];simp only[Bool.and_true,decide_true,decide_eq_true_eq];unfold pC;simp only[qX,List.length_nil,Bool.false_eq_true,if_false] at h2;omega
theorem uk(rs:List Nat)(k:Nat):enc rs=enc (rs.take k)++enc (rs.drop k):=by rw[←eF,List.take_append_drop]
theorem Jf(rs:List Nat)(k:Nat):(enc rs).take (enc (rs.take k)).length=enc (rs.take k):=by
 conv=>lhs;rw[uk rs k]
 rw[List.take_left'];rfl
theorem BN(rs:List Nat)(k:Nat):(enc rs).drop (enc (rs.take k)).length=enc (rs.drop k):=by
 conv=>lhs;rw[uk rs k]
 rw[List.drop_left'];rfl
theorem Jg:∀(rs:List Nat) (n:Int) (k:Nat),k≤rs.length→(k=0∨((enc (rs.take k)).length:Int)≤n)→(k=rs.length∨n<((enc (rs.take (k+1))).length:Int))→kH rs n=rs.take k
 | [],n,k,hk,_,_=>by simp[kH]
 | c::r,n,0,hk,_,h2=>by
   have h:¬((en c).length:Int)≤n:=by
    rcases h2 with h2|h2
    ·simp at h2
    ·simp[enc] at h2
     omega
   rw[kH,if_neg h]
   rfl
 | c::r,n,k+1,hk,h1,h2=>by
   have e1:((enc ((c::r).take (k+1))).length:Int)=(en c).length+(enc (r.take k)).length:=by
    rw[List.take_succ_cons,dn,List.length_append];omega
   have e2:((enc ((c::r).take (k+1+1))).length:Int)=(en c).length+(enc (r.take (k+1))).length:=by
    rw[List.take_succ_cons,dn,List.length_append];omega
   rw[e1] at h1;rw[e2] at h2
   have h1:((en c).length:Int)+(enc (r.take k)).length≤n:=by
    rcases h1 with h1|h1
    ·cases h1
    ·exact h1
   rw[kH,if_pos (by omega),List.take_succ_cons]
   rw[Jg r (n-(en c).length) k (by simpa using hk) (.inr (by omega)) (by
    rcases h2 with h2|h2
    ·exact .inl (by simpa using h2)
    ·exact .inr (by omega))]
theorem pR(hs:aX s=enc rs)(n:Int)(k:Nat)(hk:k≤rs.length)(h1:k=0∨((enc (rs.take k)).length:Int)≤n)(h2:k=rs.length∨n<((enc (rs.take (k+1))).length:Int)):
  s.extract 0 (enc (rs.take k)).length=fB (enc (kH rs n)):=by
 rw[Jg rs n k hk h1 h2];apply sK;rw[eU,←Jf rs k,←hs];simp[aX]
theorem tj(rs:List Nat)(k:Nat):(enc (rs.take k)).length≤(enc rs).length:=by
 rw[uk rs k,List.length_append];omega
theorem rK(rs:List Nat)(k:Nat)(h:k<rs.length):(enc (rs.take (k+1))).length=(enc (rs.take k)).length+(en rs[k]).length:=by
 rw[List.take_succ_eq_append_getElem h,eF,List.length_append];simp[enc]
theorem wK(h:∀r∈rs,Vr r):dP (enc rs)=enc (bh rs [] false):=by
 unfold dP;rw[qD rs h]
def aC(s:ByteArray):ByteArray:=match js s with | []=>eS|w::_=>if lJ w=true then w else eS
theorem Jh{w:ByteArray}(h:lJ w=true):w≠eS:=by
 unfold lJ df at h;simp only[Bool.and_eq_true,decide_eq_true_eq] at h;exact h.1.1
end Go.Proofs.YtaecjmiobllhmaaGreat
