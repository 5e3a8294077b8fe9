/- Words. -/
import Derived.Test.YtaecjmiobllhmaaGreatGq08
set_option linter.unusedVariables false
set_option linter.unusedSimpArgs false
namespace Go.Proofs.YtaecjmiobllhmaaGreat
variable {i:Int}
section
structure bg where
 id:Int
 inn:Int
 name:ByteArray
structure aP where
 id:Int
 inn:Int
 url:ByteArray
 title:ByteArray
structure aJ where
 id:Int
 feed:Int
 date:Int
 guid:ByteArray
 title:ByteArray
 link:ByteArray
 read:Bool
 star:Bool
 tags:List ByteArray
structure dE where
 id:Int
 name:ByteArray
 query:ByteArray
structure St where
 clock:Int
 fols:List bg
 fees:List aP
 itms:List aJ
 seas:List dE
 tFol:Int
 tFee:Int
 tItm:Int
 tSea:Int
def m9:St:=⟨0,[],[],[],[],0,0,0,0⟩
instance:DecidableEq bg:=λx y=>decidable_of_iff (x.id=y.id∧x.inn=y.inn∧x.name=y.name) ⟨λ⟨h1,h2,h3⟩=>by cases x;cases y;simp_all,λh=>by subst h;simp⟩
instance:DecidableEq aP:=λx y=>decidable_of_iff (x.id=y.id∧x.inn=y.inn∧x.url=y.url∧x.title=y.title) ⟨λ⟨h1,h2,h3,h4⟩=>by cases x;cases y;simp_all,λh=>by subst h;simp⟩
instance:DecidableEq aJ:=λx y=>decidable_of_iff (x.id=y.id∧x.feed=y.feed∧x.date=y.date∧x.guid=y.guid∧x.title=y.title∧x.link=y.link∧x.read=y.read∧x.star=y.star∧x.tags=y.tags)
 ⟨λ⟨h1,h2,h3,h4,h5,h6,h7,h8,h9⟩=>by cases x;cases y;simp_all,λh=>by subst h;simp⟩
instance:DecidableEq dE:=λx y=>decidable_of_iff (x.id=y.id∧x.name=y.name∧x.query=y.query) ⟨λ⟨h1,h2,h3⟩=>by cases x;cases y;simp_all,λh=>by subst h;simp⟩
instance:DecidableEq St:=λx y=>decidable_of_iff (x.clock=y.clock∧x.fols=y.fols∧x.fees=y.fees∧x.itms=y.itms∧x.seas=y.seas∧x.tFol=y.tFol∧x.tFee=y.tFee∧x.tItm=y.tItm∧x.tSea=y.tSea)
 ⟨λ⟨h1,h2,h3,h4,h5,h6,h7,h8,h9⟩=>by cases x;cases y;simp_all,λh=>by subst h;simp⟩
def bg.cells(f:bg):List Value:=[.int .i64 f.id,.int .i64 f.inn,.string f.name]
def aP.cells(f:aP):List Value:=[.int .i64 f.id,.int .i64 f.inn,.string f.url,.string f.title]
def dE.cells(f:dE):List Value:=[.int .i64 f.id,.string f.name,.string f.query]
section
variable {α:Type}
def qA(g:α→Int)(id:Int)(l:List α):Nat:=l.findIdx λx=>g x=id
def aS(g:α→Int)(id:Int)(l:List α):Bool:=l.any λx=>g x=id
def eV(g:α→Int)(id:Int)(l:List α):Option α:=l.find? λx=>g x=id
def dK(g:α→Int)(x:α)(l:List α):List α:=(l.takeWhile λy=>g y<g x)++x::l.dropWhile λy=>g y<g x
def dZ(g:α→Int)(id:Int)(l:List α):List α:=l.eraseP λx=>g x=id
def gM(g:α→Int)(id:Int)(f:α→α):List α→List α
 | []=>[]
 | x::r=>if g x=id then f x::r else x::gM g id f r
end
def jk(l:List bg):Nat→Nat→Int→Nat
 | 0,n,id=>if id=0 then n else 8
 | k+1,n,id=>if id=0 then n else match eV bg.id id l with
   | none=>8
   | some f=>jk l k (n+1) f.inn
def gG(x:St)(id:Int):Nat:=if aS bg.id id x.fols=true then jk x.fols 7 0 id else 0
def cH(x:St)(url:ByteArray):Int:=match x.fees.find? λf=>f.url=url with|some f=>f.id|none=>0
def ke(x:St)(feed:Int)(g:ByteArray):Int:=match x.itms.find? λt=>t.feed=feed∧t.guid=g with|some t=>t.id|none=>0
def ey(x:St)(inn:Int)(name:ByteArray):Bool:=x.fols.any λf=>f.inn=inn∧f.name=name
def kZ(x:St)(id:Int):Bool:=!(x.fols.any λf=>f.inn=id)&&!(x.fees.any λf=>f.inn=id)
def eQ(x:St)(id:Int):Bool:=decide (id=0)||aS bg.id id x.fols
def av(x:St)(e:Ev):Bool:=
 if aQ e=false then false
 else if e.kind=1 then !aS bg.id e.a x.fols&&decide (x.fols.length<64)&&eQ x e.b&&decide (gG x e.b<7)&&!ey x e.b e.s
 else if e.kind=2 then aS bg.id e.a x.fols&&kZ x e.a
 else if e.kind=3 then !aS aP.id e.a x.fees&&decide (x.fees.length<64)&&eQ x e.b&&decide (cH x e.s=0)
 else if e.kind=4∨e.kind=5 then aS aP.id e.a x.fees
 else if e.kind=6 then aS aP.id e.a x.fees&&eQ x e.b
 else if e.kind=7 then !aS aJ.id e.a x.itms&&decide (x.itms.length<1024)&&aS aP.id e.b x.fees&&decide (ke x e.b e.s=0)
 else if e.kind=8∨e.kind=9 then aS aJ.id e.a x.itms
 else if e.kind=10 then match eV aJ.id e.a x.itms with
  | none=>false
  | some t=>decide (e.n=0)||t.tags.any (λy=>y=e.s)||decide (t.tags.length<8)
 else if e.kind=11 then !aS dE.id e.a x.seas&&decide (x.seas.length<32)
 else if e.kind=12 then aS dE.id e.a x.seas
 else decide (x.clock≤e.n)
def lg(a b:ByteArray):Prop:=aX a<aX b
instance (a b:ByteArray):Decidable (lg a b):=inferInstanceAs (Decidable (aX a<aX b))
def iZ(t:ByteArray):Bool→List ByteArray→List ByteArray
 | done,[]=>if done=true then [] else [t]
 | done,x::r=>if done=false∧lg t x then t::(if x=t then iZ t true r else x::iZ t true r) else if x=t then iZ t done r else x::iZ t done r
def ei(l:List ByteArray)(t:ByteArray)(w:Bool):List ByteArray:=iZ t (!w) l
def AZ(x:St)(e:Ev):St:=
 if e.kind=1 then {x with fols:=dK bg.id ⟨e.a,e.b,e.s⟩ x.fols,tFol:=max x.tFol e.a}
 else if e.kind=3 then {x with fees:=dK aP.id ⟨e.a,e.b,e.s,e.t⟩ x.fees,tFee:=max x.tFee e.a}
 else if e.kind=7 then {x with itms:=dK aJ.id ⟨e.a,e.b,e.n,e.s,e.t,e.u,false,false,[]⟩ x.itms,tItm:=max x.tItm e.a}
 else {x with seas:=dK dE.id ⟨e.a,e.s,e.t⟩ x.seas,tSea:=max x.tSea e.a}
def iB(x:St)(e:Ev):St:=
 if e.kind=1∨e.kind=3∨e.kind=7∨e.kind=11 then AZ x e
 else if e.kind=2 then {x with fols:=dZ bg.id e.a x.fols}
 else if e.kind=4 then {x with fees:=dZ aP.id e.a x.fees,itms:=x.itms.filter λt=>t.feed≠e.a}
 else if e.kind=12 then {x with seas:=dZ dE.id e.a x.seas}
 else if e.kind=13 then {x with clock:=e.n}
 else if e.kind=5 then {x with fees:=gM aP.id e.a (λf=>{f with title:=e.t}) x.fees}
 else if e.kind=6 then {x with fees:=gM aP.id e.a (λf=>{f with inn:=e.b}) x.fees}
 else if e.kind=8 then {x with itms:=gM aJ.id e.a (λt=>{t with read:=decide (e.n=1)}) x.itms}
 else if e.kind=9 then {x with itms:=gM aJ.id e.a (λt=>{t with star:=decide (e.n=1)}) x.itms}
 else {x with itms:=gM aJ.id e.a (λt=>{t with tags:=ei t.tags e.s (decide (e.n=1))}) x.itms}
def bB(x:St)(e:Ev):St×Bool:=if av x e=true then (iB x e,true) else (x,false)
def cZ(x:St)(l:List Ev):St:=l.foldl (λy e=>(bB y e).1) x
def xw{α:Type}(p:List α→α→Bool):List α→List α→Bool
 | _,[]=>true
 | pre,a::r=>p pre a&&xw p (pre++[a]) r
def pB{α:Type}(g:α→Int)(pre:List α)(a:α):Bool:=match pre.getLast? with|none=>true|some b=>decide (g b<g a)
def CX(x:St):Bool:=
 xw (λpre f=>aQ ⟨1,f.id,f.inn,0,f.name,eS,eS⟩&&decide (f.id≤x.tFol)&&pB bg.id pre f&&decide (gG x f.id≤7)&&!(pre.any λg=>g.inn=f.inn∧g.name=f.name)) [] x.fols
  &&decide (x.fols.length≤64)&&decide (0≤x.tFol∧x.tFol≤1048576)
def CY(x:St):Bool:=
 xw (λpre f=>aQ ⟨3,f.id,f.inn,0,f.url,f.title,eS⟩&&decide (f.id≤x.tFee)&&pB aP.id pre f&&eQ x f.inn&&!(pre.any λg=>g.url=f.url)) [] x.fees
  &&decide (x.fees.length≤64)&&decide (0≤x.tFee∧x.tFee≤1048576)
def lj:List ByteArray→Bool
 | []=>true
 | [a]=>lJ a
 | a::b::r=>lJ a&&decide (lg a b)&&lj (b::r)
def CZ(x:St):Bool:=
 xw (λpre t=>aQ ⟨7,t.id,t.feed,t.date,t.guid,t.title,t.link⟩&&decide (t.id≤x.tItm)&&pB aJ.id pre t&&aS aP.id t.feed x.fees&&decide (t.tags.length≤8)&&lj t.tags&&!(pre.any λg=>g.feed=t.feed∧g.guid=t.guid)) [] x.itms
  &&decide (x.itms.length≤1024)&&decide (0≤x.tItm∧x.tItm≤1048576)&&decide (x.tItm=0∨0<x.tFee)
def C0(x:St):Bool:=
 xw (λpre s=>aQ ⟨11,s.id,0,0,s.name,s.query,eS⟩&&decide (s.id≤x.tSea)&&pB dE.id pre s) [] x.seas
  &&decide (x.seas.length≤32)&&decide (0≤x.tSea∧x.tSea≤1048576)
def stOk(x:St):Bool:=C0 x&&decide (0≤x.clock)&&aQ ⟨13,0,0,x.clock,eS,eS,eS⟩&&CX x&&CY x&&CZ x
end
section
section
variable {α:Type}
theorem vU(p:List α→α→Bool):∀(l pre:List α),xw p pre l=true↔∀A a B,l=A++a::B→p (pre++A) a=true
 | [],pre=>by simp[xw]
 | b::r,pre=>by
   rw[xw,Bool.and_eq_true,vU p r (pre++[b])];constructor
   ·rintro⟨h1,h2⟩ A a B e
    cases A with
    | nil=>
      simp at e;obtain⟨rfl,rfl⟩:=e
      simpa using h1
    | cons c A=>
      simp at e;obtain⟨rfl,e⟩:=e;have:=h2 A a B e
      simpa using this
   ·intro h
    refine⟨by simpa using h [] b r rfl,λA a B e=>?_⟩;have:=h (b::A) a B (by rw[e];rfl)
    simpa using this
theorem vV(q:α→α→Prop):∀(l:List α),l.Pairwise q↔∀A a B,l=A++a::B→∀b∈A,q b a
 | []=>by simp
 | x::r=>by
   constructor
   ·intro h A a B e b hb
    rw[e] at h;exact(List.pairwise_append.1 h).2.2 b hb a (List.mem_cons_self ..)
   ·intro h
    refine List.pairwise_cons.2 ⟨λy hy=>?_,(vV q r).2 λA a B e b hb=>h (x::A) a B (by rw[e];rfl) b (List.mem_cons_of_mem _ hb)⟩;obtain⟨A,B,e⟩:=List.append_of_mem hy;exact h (x::A) y B (by rw[e];rfl) x (List.mem_cons_self ..)
theorem A0(g:α→Int):∀(l pre:List α),pre.Pairwise (λa b=>g a<g b)→(∀A a B,l=A++a::B→pB g (pre++A) a=true)→(pre++l).Pairwise (λa b=>g a<g b)
 | [],pre,hp,_=>by simpa using hp
 | a::r,pre,hp,h=>by
   have h1:=h [] a r rfl
   have h2:(pre++[a]).Pairwise (λa b=>g a<g b):=by
    refine List.pairwise_append.2 ⟨hp,by simp,λb hb c hc=>?_⟩;simp at hc;subst hc;simp only[List.append_nil] at h1;unfold pB at h1;rcases hg:pre.getLast? with _|z
    ·rw[List.getLast?_eq_none_iff] at hg
     subst hg
     cases hb
    ·rw[hg] at h1
     simp only[decide_eq_true_eq] at h1;obtain⟨p',rfl⟩:=List.getLast?_eq_some_iff.1 hg;rcases List.mem_append.1 hb with hb|hb
     ·have:=(List.pairwise_append.1 hp).2.2 b hb z (by simp)
      omega
     ·simp at hb
      subst hb;exact h1
   have:=A0 g r (pre++[a]) h2 λA c B e=>by
    have:=h (a::A) c B (by rw[e];rfl)
    simpa using this
   simpa using this
theorem x9(g:α→Int)(l:List α):(∀A a B,l=A++a::B→pB g A a=true)↔l.Pairwise (λa b=>g a<g b):=by
 constructor
 ·intro h
  have:=A0 g l [] List.Pairwise.nil (by simpa using h)
  simpa using this
 ·intro h A a B e
  unfold pB;split
  ·rfl
  ·rename_i b hb
   exact decide_eq_true ((vV _ l).1 h A a B e b (List.mem_of_getLast? hb))
theorem Kk(q:α→α→Prop) [∀a b,Decidable (q a b)] (l:List α):(∀A a B,l=A++a::B→(A.any λb=>q b a)=false)↔l.Pairwise (λa b=>¬q a b):=by
 rw[vV];constructor
 ·intro h A a B e b hb hq
  have:=List.any_eq_false.1 (h A a B e) b hb;simp at this;exact this hq
 ·intro h A a B e
  refine List.any_eq_false.2 λb hb=>?_
  simp;exact h A a B e b hb
variable {g:α→Int} {x:α} {id:Int} {l:List α}
theorem FO(g:α→Int)(x y:α)(r:List α):dK g x (y::r)=if g y<g x then y::dK g x r else x::y::r:=by
 unfold dK
 by_cases h:g y<g x
 ·simp[h]
 ·simp[h]
theorem fF(g:α→Int)(x:α)(l:List α):(dK g x l).Perm (x::l):=by
 unfold dK;have:=List.takeWhile_append_dropWhile (p:=λy=>decide (g y<g x)) (l:=l);refine List.perm_middle.trans ?_;rw[this]
theorem kN{y:α}:y∈dK g x l↔y=x∨y∈l:=by
 rw[(fF g x l).mem_iff];exact List.mem_cons
theorem qJ(g:α→Int)(x:α)(l:List α):(dK g x l).length=l.length+1:=by
 simpa using (fF g x l).length_eq
theorem mM(h:l.Pairwise λa b=>g a<g b)(hn:∀y∈l,g y≠g x):(dK g x l).Pairwise λa b=>g a<g b:=by
 induction l with
 | nil=>simp[dK]
 | cons y r ih=>
   rw[FO];obtain⟨h1,h2⟩:=List.pairwise_cons.1 h;split
   ·rename_i hlt
    refine List.pairwise_cons.2 ⟨λz hz=>?_,ih h2 λz hz=>hn z (List.mem_cons_of_mem _ hz)⟩;rcases kN.1 hz with rfl|hz
    ·exact hlt
    ·exact h1 z hz
   ·rename_i hlt
    have YN:=hn y (List.mem_cons_self ..);refine List.pairwise_cons.2 ⟨λz hz=>?_,h⟩;rcases List.mem_cons.1 hz with rfl|hz
    ·omega
    ·have:=h1 z hz
     omega
theorem dg:aS g id l=true↔∃y∈l,g y=id:=by simp[aS]
theorem rh:aS g id l=false↔∀y∈l,g y≠id:=by simp[aS]
theorem ri(h:l.Pairwise λa b=>g a<g b){a b:α}(ha:a∈l)(hb:b∈l)(he:g a=g b):a=b:=by
 induction l with
 | nil=>cases ha
 | cons y r ih=>
   obtain⟨h1,h2⟩:=List.pairwise_cons.1 h;rcases List.mem_cons.1 ha with ha'|ha'
   ·rcases List.mem_cons.1 hb with hb'|hb'
    ·rw[ha',hb']
    ·have:=h1 b hb';rw[←ha'] at this;omega
   ·rcases List.mem_cons.1 hb with hb'|hb'
    ·have:=h1 a ha';rw[←hb'] at this;omega
    ·exact ih h2 ha' hb'
theorem jl(h:l.Pairwise λa b=>g a<g b){a:α}(ha:a∈l)(he:g a=id):eV g id l=some a:=by
 unfold eV
 cases hf:l.find? λx=>decide (g x=id) with
 | none=>
   have:=List.find?_eq_none.1 hf a ha;simp at this
   exact absurd he this
 | some b=>
   have hb:=List.mem_of_find?_eq_some hf;have hp:=List.find?_some hf;simp at hp;rw[ri h hb ha (by omega)]
theorem dG{a:α}(h:eV g id l=some a):a∈l∧g a=id:=by
 unfold eV at h;refine⟨List.mem_of_find?_eq_some h,?_⟩;have:=List.find?_some h
 simpa using this
theorem Ie(h:eV g id l=none):∀a∈l,g a≠id:=by
 intro a ha;have:=List.find?_eq_none.1 h a ha
 simpa using this
theorem mJ:(eV g id l).isSome=aS g id l:=by
 unfold eV aS;rw[Bool.eq_iff_iff,List.find?_isSome,List.any_eq_true]
theorem mN(h:l.Pairwise λa b=>g a<g b):dZ g id l=l.filter λy=>g y≠id:=by
 unfold dZ
 induction l with
 | nil=>rfl
 | cons y r ih=>
   obtain⟨h1,h2⟩:=List.pairwise_cons.1 h
   by_cases hy:g y=id
   ·rw[List.eraseP_cons_of_pos (by simpa using hy),List.filter_cons_of_neg (by simpa using hy)]
    refine(List.filter_eq_self.2 λz hz=>?_).symm;have:=h1 z hz;simp;omega
   ·rw[List.eraseP_cons_of_neg (by simpa using hy),List.filter_cons_of_pos (by simpa using hy),ih h2]
theorem sQ(f:α→α)(h:l.Pairwise λa b=>g a<g b):gM g id f l=l.map λy=>if g y=id then f y else y:=by
 induction l with
 | nil=>rfl
 | cons y r ih=>
   obtain⟨h1,h2⟩:=List.pairwise_cons.1 h;unfold gM
   by_cases hy:g y=id
   ·rw[if_pos hy,List.map_cons,if_pos hy]
    congr 1
    conv=>lhs;rw[←List.map_id r]
    refine List.map_congr_left λz hz=>?_
    have:=h1 z hz;rw[if_neg (by omega)];rfl
   ·rw[if_neg hy,List.map_cons,if_neg hy,ih h2]
end
def gq(l:List bg):Nat→Int→Prop
 | 0,id=>id=0
 | j+1,id=>id≠0∧∃f,eV bg.id id l=some f∧gq l j f.inn
theorem mO(l:List bg):∀(j k n:Nat) (id:Int),gq l j id→j≤k→jk l k n id=n+j
 | 0,k,n,id,h,_=>by
   cases k<;>simp[jk,gq] at h ⊢<;>simp[h]
 | j+1,k,n,id,h,hk=>by
   obtain⟨k,rfl⟩:∃k',k=k'+1:=⟨k-1,by omega⟩;obtain⟨h0,f,hf,hc⟩:=h;unfold jk;rw[if_neg h0,hf];simp only;rw[mO l j k (n+1) f.inn hc (by omega)];omega
theorem uA(l:List bg):∀(k n:Nat) (id:Int),jk l k n id≠8→∃j,j≤k∧gq l j id∧jk l k n id=n+j
 | 0,n,id,h=>by
   unfold jk at h ⊢
   by_cases h0:id=0
   ·exact⟨0,Nat.le_refl _,h0,by simp[h0]⟩
   ·rw[if_neg h0] at h
    exact absurd rfl h
 | k+1,n,id,h=>by
   unfold jk at h ⊢
   by_cases h0:id=0
   ·exact⟨0,by omega,h0,by simp[h0]⟩
   ·rw[if_neg h0] at h ⊢
    cases hf:eV bg.id id l with
    | none=>
      rw[hf] at h
      exact absurd rfl h
    | some f=>
      rw[hf] at h;simp only at h ⊢;obtain⟨j,hj,hc,he⟩:=uA l k (n+1) f.inn h;exact⟨j+1,by omega,⟨h0,f,hf,hc⟩,by omega⟩
theorem vW{l l':List bg}:∀(j:Nat) (id:Int),gq l j id→(∀i f,eV bg.id i l=some f→i≠0→(∃j',j'<j∧gq l (j'+1) i)→eV bg.id i l'=some f)→gq l' j id
 | 0,_,h,_=>h
 | j+1,id,h,hs=>by
   have h':=h;obtain⟨h0,f,hf,hc⟩:=h;refine⟨h0,f,hs id f hf h0 ⟨j,by omega,h'⟩,vW j f.inn hc λi f' h1 h2 ⟨j',h3,h4⟩=>hs i f' h1 h2 ⟨j',by omega,h4⟩⟩
end
section
structure di(x:St):Prop where
 clk:0≤x.clock∧aQ ⟨13,0,0,x.clock,eS,eS,eS⟩=true
 fE:∀f∈x.fols,aQ ⟨1,f.id,f.inn,0,f.name,eS,eS⟩=true∧f.id≤x.tFol
 fD:∀f∈x.fols,∃j,j≤7∧gq x.fols j f.id
 fR:x.fols.Pairwise λa b=>a.id<b.id
 fN:x.fols.Pairwise λa b=>¬(a.inn=b.inn∧a.name=b.name)
 fL:x.fols.length≤64
 fT:0≤x.tFol∧x.tFol≤1048576
 eE:∀f∈x.fees,aQ ⟨3,f.id,f.inn,0,f.url,f.title,eS⟩=true∧f.id≤x.tFee∧eQ x f.inn=true
 eR:x.fees.Pairwise λa b=>a.id<b.id
 eN:x.fees.Pairwise λa b=>¬a.url=b.url
 eL:x.fees.length≤64
 eT:0≤x.tFee∧x.tFee≤1048576
 iE:∀t∈x.itms,aQ ⟨7,t.id,t.feed,t.date,t.guid,t.title,t.link⟩=true∧t.id≤x.tItm∧aS aP.id t.feed x.fees=true∧t.tags.length≤8∧lj t.tags=true
 iR:x.itms.Pairwise λa b=>a.id<b.id
 iN:x.itms.Pairwise λa b=>¬(a.feed=b.feed∧a.guid=b.guid)
 iL:x.itms.length≤1024
 iT:0≤x.tItm∧x.tItm≤1048576
 iF:x.tItm=0∨0<x.tFee
 sE:∀s∈x.seas,aQ ⟨11,s.id,0,0,s.name,s.query,eS⟩=true∧s.id≤x.tSea
 sR:x.seas.Pairwise λa b=>a.id<b.id
 sL:x.seas.length≤32
 sT:0≤x.tSea∧x.tSea≤1048576
section
variable {α:Type}
theorem ya(l:List α)(p:α→Prop):(∀A a B,l=A++a::B→p a)↔∀a∈l,p a:=by
 constructor
 ·intro h a ha
  obtain⟨A,B,e⟩:=List.append_of_mem ha;exact h A a B e
 ·intro h A a B e
  exact h a (by rw[e];simp)
theorem yR(l:List α)(p:α→Prop)(g:α→Int)(q:α→α→Prop) [∀a b,Decidable (q a b)] (f:List α→α→Bool)(hf:∀A a,f A a=true↔p a∧pB g A a=true∧(A.any λb=>q b a)=false):
  xw f [] l=true↔(∀a∈l,p a)∧(l.Pairwise λa b=>g a<g b)∧l.Pairwise λa b=>¬q a b:=by
 rw[vU,←ya,←x9,←Kk];simp only[List.nil_append,hf];exact⟨λh=>⟨λA a B e=>(h A a B e).1,λA a B e=>(h A a B e).2.1,λA a B e=>(h A a B e).2.2⟩,λh A a B e=>⟨h.1 A a B e,h.2.1 A a B e,h.2.2 A a B e⟩⟩
theorem Kl(l:List α)(p:α→Prop)(g:α→Int)(f:List α→α→Bool)(hf:∀A a,f A a=true↔p a∧pB g A a=true):
  xw f [] l=true↔(∀a∈l,p a)∧l.Pairwise λa b=>g a<g b:=by
 rw[vU,←ya,←x9];simp only[List.nil_append,hf];exact⟨λh=>⟨λA a B e=>(h A a B e).1,λA a B e=>(h A a B e).2⟩,λh A a B e=>⟨h.1 A a B e,h.2 A a B e⟩⟩
end
theorem A9{x:St}{f:bg}(h:f∈x.fols):gG x f.id≤7↔∃j,j≤7∧gq x.fols j f.id:=by
 have hi:aS bg.id f.id x.fols=true:=dg.2 ⟨f,h,rfl⟩;unfold gG;rw[if_pos hi];constructor
 ·intro hd
  obtain⟨j,hj,hc,-⟩:=uA x.fols 7 0 f.id (by omega);exact⟨j,hj,hc⟩
 ·rintro⟨j,hj,hc⟩
  rw[mO x.fols j 7 0 f.id hc hj];omega
theorem C1(x:St):CX x=true↔(∀f∈x.fols,aQ ⟨1,f.id,f.inn,0,f.name,eS,eS⟩=true∧f.id≤x.tFol∧gG x f.id≤7)∧(x.fols.Pairwise λa b=>a.id<b.id)∧(x.fols.Pairwise λa b=>¬(a.inn=b.inn∧a.name=b.name))∧x.fols.length≤64∧0≤x.tFol∧x.tFol≤1048576:=by
 unfold CX
 rw[Bool.and_eq_true,Bool.and_eq_true,yR x.fols (λf=>aQ ⟨1,f.id,f.inn,0,f.name,eS,eS⟩=true∧f.id≤x.tFol∧gG x f.id≤7) bg.id (λa b=>a.inn=b.inn∧a.name=b.name) _ (λA a=>by
  simp only[Bool.and_eq_true,decide_eq_true_eq,Bool.not_eq_true',and_assoc,and_left_comm])]
 simp only[decide_eq_true_eq,and_assoc]
theorem C2(x:St):CY x=true↔(∀f∈x.fees,aQ ⟨3,f.id,f.inn,0,f.url,f.title,eS⟩=true∧f.id≤x.tFee∧eQ x f.inn=true)∧(x.fees.Pairwise λa b=>a.id<b.id)∧(x.fees.Pairwise λa b=>¬a.url=b.url)∧x.fees.length≤64∧0≤x.tFee∧x.tFee≤1048576:=by
 unfold CY
 rw[Bool.and_eq_true,Bool.and_eq_true,yR x.fees (λf=>aQ ⟨3,f.id,f.inn,0,f.url,f.title,eS⟩=true∧f.id≤x.tFee∧eQ x f.inn=true) aP.id (λa b=>a.url=b.url) _ (λA a=>by
  simp only[Bool.and_eq_true,decide_eq_true_eq,Bool.not_eq_true',and_assoc,and_left_comm])]
 simp only[decide_eq_true_eq,and_assoc]
theorem C3(x:St):CZ x=true↔(∀t∈x.itms,aQ ⟨7,t.id,t.feed,t.date,t.guid,t.title,t.link⟩=true∧t.id≤x.tItm∧aS aP.id t.feed x.fees=true∧t.tags.length≤8∧lj t.tags=true)∧(x.itms.Pairwise λa b=>a.id<b.id)∧(x.itms.Pairwise λa b=>¬(a.feed=b.feed∧a.guid=b.guid))∧
  x.itms.length≤1024∧(0≤x.tItm∧x.tItm≤1048576)∧(x.tItm=0∨0<x.tFee):=by
 unfold CZ
 rw[Bool.and_eq_true,Bool.and_eq_true,Bool.and_eq_true,yR x.itms (λt=>aQ ⟨7,t.id,t.feed,t.date,t.guid,t.title,t.link⟩=true∧t.id≤x.tItm∧aS aP.id t.feed x.fees=true∧t.tags.length≤8∧lj t.tags=true) aJ.id (λa b=>a.feed=b.feed∧a.guid=b.guid) _ (λA a=>by
  simp only[Bool.and_eq_true,decide_eq_true_eq,Bool.not_eq_true',and_assoc,and_left_comm])]
 simp only[decide_eq_true_eq,and_assoc]
theorem C5(x:St):C0 x=true↔(∀s∈x.seas,aQ ⟨11,s.id,0,0,s.name,s.query,eS⟩=true∧s.id≤x.tSea)∧(x.seas.Pairwise λa b=>a.id<b.id)∧x.seas.length≤32∧0≤x.tSea∧x.tSea≤1048576:=by
 unfold C0
 rw[Bool.and_eq_true,Bool.and_eq_true,Kl x.seas (λs=>aQ ⟨11,s.id,0,0,s.name,s.query,eS⟩=true∧s.id≤x.tSea) dE.id _ (λA a=>by
  simp only[Bool.and_eq_true,decide_eq_true_eq,and_assoc])]
 simp only[decide_eq_true_eq,and_assoc]
theorem Ba(x:St):stOk x=true↔di x:=by
 unfold stOk;simp only[Bool.and_eq_true,decide_eq_true_eq,C1,C2,C3,C5];constructor
 ·rintro⟨⟨⟨⟨⟨⟨s1,s2,s3,s4⟩,c1⟩,c2⟩,⟨f1,f2,f3,f4,f5⟩⟩,⟨e1,e2,e3,e4,e5⟩⟩,⟨i1,i2,i3,i4,i5,i6⟩⟩
  exact⟨⟨c1,c2⟩,λf hf=>⟨(f1 f hf).1,(f1 f hf).2.1⟩,λf hf=>(A9 hf).1 (f1 f hf).2.2,f2,f3,f4,f5,e1,e2,e3,e4,e5,i1,i2,i3,i4,i5,i6,s1,s2,s3,s4⟩
 ·intro h
  exact⟨⟨⟨⟨⟨⟨h.sE,h.sR,h.sL,h.sT⟩,h.clk.1⟩,h.clk.2⟩,λf hf=>⟨(h.fE f hf).1,(h.fE f hf).2,(A9 hf).2 (h.fD f hf)⟩,h.fR,h.fN,h.fL,h.fT⟩,h.eE,h.eR,h.eN,h.eL,h.eT⟩,h.iE,h.iR,h.iN,h.iL,h.iT,h.iF⟩
theorem yS:di m9:=(Ba m9).1 (by decide+kernel)
end
section
theorem kT(a:ByteArray):¬lg a a:=CD _
theorem nA{a b c:ByteArray}(h:lg a b)(h':lg b c):lg a c:=List.lt_trans h h'
theorem C6{a b:ByteArray}(h:lg a b):a≠b:=λe=>by subst e;exact kT _ h
theorem C7{a b:ByteArray}(h:¬lg a b)(hn:a≠b):lg b a:=Pe h λe=>hn (sK e)
theorem kU:∀l:List ByteArray,lj l=true↔(∀t∈l,lJ t=true)∧l.Pairwise lg
 | []=>by simp[lj]
 | [a]=>by simp[lj]
 | a::b::r=>by
   have ih:=kU (b::r);rw[lj,Bool.and_eq_true,Bool.and_eq_true,ih,decide_eq_true_eq];constructor
   ·rintro⟨⟨h1,h2⟩,h3,h4⟩
    refine⟨λt ht=>?_,List.pairwise_cons.2 ⟨λt ht=>?_,h4⟩⟩
    ·rcases List.mem_cons.1 ht with rfl|ht
     ·exact h1
     ·exact h3 t ht
    ·rcases List.mem_cons.1 ht with rfl|ht
     ·exact h2
     ·exact nA h2 ((List.pairwise_cons.1 h4).1 t ht)
   ·rintro⟨h1,h2⟩
    obtain⟨h3,h4⟩:=List.pairwise_cons.1 h2;exact⟨⟨h1 a (List.mem_cons_self ..),h3 b (List.mem_cons_self ..)⟩,λt ht=>h1 t (List.mem_cons_of_mem _ ht),h4⟩
theorem rX(t:ByteArray):∀l:List ByteArray,iZ t true l=l.filter λx=>x≠t
 | []=>rfl
 | x::r=>by
   rw[iZ,if_neg (by simp),rX t r]
   by_cases h:x=t
   ·simp[h]
   ·simp[h]
def bC(t:ByteArray)(l:List ByteArray):Nat:=(l.takeWhile λx=>lg x t).length
theorem uB(t:ByteArray):∀l:List ByteArray,l.Pairwise lg→iZ t false l=(l.takeWhile λx=>lg x t)++t::((l.dropWhile λx=>lg x t).filter λx=>x≠t)
 | [],_=>by simp[iZ]
 | x::r,h=>by
   obtain⟨h1,h2⟩:=List.pairwise_cons.1 h;have ih:=uB t r h2;rw[iZ]
   by_cases hlt:lg t x
   ·have hx:¬lg x t:=λh=>kT _ (nA h hlt)
    rw[if_pos ⟨rfl,hlt⟩,if_neg (C6 hlt).symm,rX,List.takeWhile_cons_of_neg (by simpa using hx),List.dropWhile_cons_of_neg (by simpa using hx),List.filter_cons_of_pos (by simpa using (C6 hlt).symm)];rfl
   ·rw[if_neg (by simp[hlt])]
    by_cases he:x=t
    ·subst he
     rw[if_pos rfl,List.takeWhile_cons_of_neg (by simpa using kT _),List.dropWhile_cons_of_neg (by simpa using kT _),List.filter_cons_of_neg (by simp)];have hr:∀y∈r,¬lg y x:=λy hy hlt=>kT _ (nA hlt (h1 y hy))
     rw[ih]
     cases r with
     | nil=>rfl
     | cons y r=>
       have:=hr y (List.mem_cons_self ..);rw[List.takeWhile_cons_of_neg (by simpa using this),List.dropWhile_cons_of_neg (by simpa using this)]
    ·have hx:lg x t:=C7 hlt (Ne.symm he)
     rw[if_neg he,ih,List.takeWhile_cons_of_pos (by simpa using hx),List.dropWhile_cons_of_pos (by simpa using hx)];rfl
theorem rY(t:ByteArray)(l:List ByteArray)(h:l.Pairwise lg):(∀x∈l.takeWhile λx=>lg x t,lg x t)∧(∀x∈l.dropWhile λx=>lg x t,¬lg x t):=by
 induction l with
 | nil=>simp
 | cons x r ih=>
   obtain⟨h1,h2⟩:=List.pairwise_cons.1 h;obtain⟨i1,i2⟩:=ih h2
   by_cases hx:lg x t
   ·rw[List.takeWhile_cons_of_pos (by simpa using hx),List.dropWhile_cons_of_pos (by simpa using hx)]
    refine⟨λy hy=>?_,i2⟩;rcases List.mem_cons.1 hy with rfl|hy
    ·exact hx
    ·exact i1 y hy
   ·rw[List.takeWhile_cons_of_neg (by simpa using hx),List.dropWhile_cons_of_neg (by simpa using hx)]
    refine⟨λy hy=>(by cases hy),λy hy hlt=>?_⟩;rcases List.mem_cons.1 hy with rfl|hy
    ·exact hx hlt
    ·exact hx (nA (h1 y hy) hlt)
theorem lu{l:List ByteArray}{t:ByteArray}(h:l.Pairwise lg):ei l t true=(l.takeWhile λx=>lg x t)++t::((l.dropWhile λx=>lg x t).filter λx=>x≠t):=uB t l h
theorem ir(l:List ByteArray)(t:ByteArray):ei l t false=l.filter λx=>x≠t:=rX t l
theorem FP{l:List ByteArray}{t:ByteArray}(w:Bool)(h:l.Pairwise lg){y:ByteArray}(hy:y∈ei l t w):y=t∨y∈l:=by
 cases w with
 | false=>
   rw[ir] at hy
   exact .inr (List.mem_filter.1 hy).1
 | true=>
   rw[lu h] at hy;rcases List.mem_append.1 hy with hy|hy
   ·exact .inr ((List.takeWhile_sublist _).subset hy)
   ·rcases List.mem_cons.1 hy with rfl|hy
    ·exact .inl rfl
    ·exact .inr ((List.dropWhile_sublist _).subset (List.mem_filter.1 hy).1)
theorem yT{l:List ByteArray}{t:ByteArray}(w:Bool)(h:l.Pairwise lg):(ei l t w).Pairwise lg:=by
 cases w with
 | false=>
   rw[ir]
   exact h.sublist List.filter_sublist
 | true=>
   obtain⟨s1,s2⟩:=rY t l h;rw[lu h];refine List.pairwise_append.2 ⟨h.sublist (List.takeWhile_sublist _),List.pairwise_cons.2 ⟨λy hy=>?_,(h.sublist (List.dropWhile_sublist _)).sublist List.filter_sublist⟩,λa ha b hb=>?_⟩
   ·obtain⟨hy1,hy2⟩:=List.mem_filter.1 hy
    exact C7 (s2 y hy1) (by simpa using hy2)
   ·rcases List.mem_cons.1 hb with rfl|hb
    ·exact s1 a ha
    ·obtain⟨hb1,hb2⟩:=List.mem_filter.1 hb
     exact nA (s1 a ha) (C7 (s2 b hb1) (by simpa using hb2))
theorem FQ{l:List ByteArray}{t:ByteArray}(w:Bool)(h:l.Pairwise lg)(h8:l.length≤8)(hf:w=false∨t∈l∨l.length<8):(ei l t w).length≤8:=by
 cases w with
 | false=>
   rw[ir]
   exact Nat.le_trans (List.length_filter_le ..) h8
 | true=>
   rw[lu h,List.length_append,List.length_cons]
   have e:(l.takeWhile λx=>decide (lg x t)).length+(l.dropWhile λx=>decide (lg x t)).length=l.length:=by
    rw[←List.length_append,List.takeWhile_append_dropWhile]
   have h1:((l.dropWhile λx=>decide (lg x t)).filter λx=>decide (x≠t)).length≤(l.dropWhile λx=>decide (lg x t)).length:=List.length_filter_le ..;rcases hf with hf|hf|hf
   ·cases hf
   ·have hd:t∈l.dropWhile λx=>decide (lg x t):=by
     have:t∈(l.takeWhile λx=>decide (lg x t))++l.dropWhile λx=>decide (lg x t):=by rw[List.takeWhile_append_dropWhile];exact hf
     rcases List.mem_append.1 this with h2|h2
     ·exact absurd ((rY t l h).1 t h2) (kT t)
     ·exact h2
    have:((l.dropWhile λx=>decide (lg x t)).filter λx=>decide (x≠t)).length<(l.dropWhile λx=>decide (lg x t)).length:=
     List.length_filter_lt_length_iff_exists.2 ⟨t,hd,by simp⟩
    omega
   ·omega
theorem Ig{e e':Ev}(h1:e.kind=e'.kind)(h2:e.a=e'.a)(h3:e.b=e'.b)(h4:e.n=e'.n)(h5:e.s=e'.s)(h6:e.t=e'.t)(h7:e.u=e'.u):e=e':=by
 cases e;cases e';simp_all
theorem rj{e:Ev}(h:aQ e=true):aU e=e:=by
 unfold aQ at h;rw[Bool.and_eq_true,decide_eq_true_eq] at h;exact h.2
theorem nK{e:Ev}(h:aQ e=true):aA e=true:=by
 unfold aQ at h;rw[Bool.and_eq_true] at h;exact h.1
theorem dy{n:Int}:li n=true↔1≤n∧n≤1048576:=by simp[li]
theorem vX{e:Ev}(h:aQ e=true):e.kind=1∨e.kind=2∨e.kind=3∨e.kind=4∨e.kind=5∨e.kind=6∨e.kind=7∨e.kind=8∨e.kind=9∨e.kind=10∨e.kind=11∨e.kind=12∨e.kind=13:=by
 have h:=nK h;unfold aA at h
 repeat' split at h
 all_goals first|omega|cases h
theorem Km(a b:Int)(s:ByteArray):aQ ⟨1,a,b,0,s,eS,eS⟩=(li a&&aI b&&df s):=by simp[aQ,aA,aU]
theorem JY(a b:Int)(s t:ByteArray):aQ ⟨3,a,b,0,s,t,eS⟩=(li a&&aI b&&iD s&&gK t):=by simp[aQ,aA,aU]
theorem Rb(a b n:Int)(s t u:ByteArray):aQ ⟨7,a,b,n,s,t,u⟩=(li a&&li b&&dR n&&iD s&&gK t&&nH u):=by simp[aQ,aA,aU]
theorem Kn(a:Int)(s t:ByteArray):aQ ⟨11,a,0,0,s,t,eS⟩=(li a&&df s&&gL t):=by simp[aQ,aA,aU]
theorem C8{e:Ev}(h:aQ e=true)(hk:e.kind=1):e=⟨1,e.a,e.b,0,e.s,eS,eS⟩:=by
 have hu:=rj h;rw[←hu];simp[aU,hk]
theorem C9{e:Ev}(h:aQ e=true)(hk:e.kind=3):e=⟨3,e.a,e.b,0,e.s,e.t,eS⟩:=by
 have hu:=rj h;rw[←hu];simp[aU,hk]
theorem M5{e:Ev}(hk:e.kind=7):e=⟨7,e.a,e.b,e.n,e.s,e.t,e.u⟩:=by rw[←hk]
theorem Ko{e:Ev}(h:aQ e=true)(hk:e.kind=11):e=⟨11,e.a,0,0,e.s,e.t,eS⟩:=by
 have hu:=rj h;rw[←hu];simp[aU,hk]
theorem Kp{e:Ev}(h:aQ e=true)(hk:e.kind=13):e=⟨13,0,0,e.n,eS,eS,eS⟩:=by
 have hu:=rj h;rw[←hu];simp[aU,hk]
theorem dx{x:St}{e:Ev}(h:av x e=true):aQ e=true:=by
 cases ho:aQ e with
 | true=>rfl
 | false=>simp[av,ho] at h
theorem vY{l l':List bg}(hs:∀i f,eV bg.id i l=some f→eV bg.id i l'=some f)(j:Nat)(id:Int)(h:gq l j id):gq l' j id:=
 vW j id h λi f h1 _ _=>hs i f h1
theorem yb{l l':List bg}{a:Int}(ha:a≠0)(hn:∀f∈l,f.inn≠a)(hs:∀i f,i≠a→eV bg.id i l=some f→eV bg.id i l'=some f):∀(j:Nat) (id:Int),id≠a→gq l j id→gq l' j id
 | 0,_,_,h=>h
 | j+1,id,hid,⟨h0,f,hf,hc⟩=>⟨h0,f,hs id f hid hf,yb ha hn hs j f.inn (hn f (dG hf).1) hc⟩
section
variable {α:Type} {g:α→Int} {l:List α}
theorem yU{q:α→α→Prop}(hs:∀a b,q a b→q b a){l l':List α}(hp:l.Perm l')(h:l.Pairwise q):l'.Pairwise q:=(hp.pairwise_iff (λ{a b}=>hs a b)).1 h
theorem Kq{x:α}(h:l.Pairwise λa b=>g a<g b)(hn:∀y∈l,g y≠g x){f:α}(hf:eV g i l=some f):eV g i (dK g x l)=some f:=by
 obtain⟨h1,h2⟩:=dG hf;exact jl (mM h hn) (kN.2 (.inr h1)) h2
theorem lm(p:α→Bool)(h:l.Pairwise λa b=>g a<g b):(l.filter p).Pairwise λa b=>g a<g b:=h.sublist List.filter_sublist
theorem Da{p:α→Bool}(h:l.Pairwise λa b=>g a<g b){f:α}(hf:eV g i l=some f)(hp:p f=true):eV g i (l.filter p)=some f:=by
 obtain⟨h1,h2⟩:=dG hf;exact jl (lm p h) (List.mem_filter.2 ⟨h1,hp⟩) h2
theorem vZ{f:α→α}(hf:∀a,g (f a)=g a){id:Int}(h:l.Pairwise λa b=>g a<g b):(l.map λy=>if g y=id then f y else y).Pairwise λa b=>g a<g b:=by
 refine List.pairwise_map.2 (h.imp ?_);intro a b hab;have e:∀c,g (if g c=id then f c else c)=g c:=λc=>by split<;>simp[hf]
 rw[e,e];exact hab
theorem Kr{f:α→α}(hf:∀a,g (f a)=g a){id i:Int}:aS g i (l.map λy=>if g y=id then f y else y)=aS g i l:=by
 have e:∀c,g (if g c=id then f c else c)=g c:=λc=>by split<;>simp[hf]
 simp only[aS,List.any_map,Function.comp_def,e]
end
theorem lZ{x:St}:eQ x i=true↔i=0∨∃f∈x.fols,f.id=i:=by
 unfold eQ;rw[Bool.or_eq_true,decide_eq_true_eq,dg]
theorem di.fId{x:St}(h:di x){f:bg}(hf:f∈x.fols):1≤f.id∧f.id≤1048576:=by
 have:=(h.fE f hf).1;rw[Km] at this;simp only[Bool.and_eq_true] at this;exact dy.1 this.1.1
theorem di.eId{x:St}(h:di x){f:aP}(hf:f∈x.fees):1≤f.id∧f.id≤1048576:=by
 have:=(h.eE f hf).1;rw[JY] at this;simp only[Bool.and_eq_true] at this;exact dy.1 this.1.1.1
theorem di.iId{x:St}(h:di x){t:aJ}(ht:t∈x.itms):(1≤t.id∧t.id≤1048576)∧1≤t.feed∧t.feed≤1048576:=by
 have:=(h.iE t ht).1;rw[Rb] at this;simp only[Bool.and_eq_true] at this;exact⟨dy.1 this.1.1.1.1.1,dy.1 this.1.1.1.1.2⟩
theorem di.sId{x:St}(h:di x){f:dE}(hf:f∈x.seas):1≤f.id∧f.id≤1048576:=by
 have:=(h.sE f hf).1;rw[Kn] at this;simp only[Bool.and_eq_true] at this;exact dy.1 this.1.1
theorem di.deep{x:St}(h:di x)(b:Int)(hb:eQ x b=true):∃j,j≤7∧gq x.fols j b∧gG x b=j:=by
 rcases lZ.1 hb with rfl|⟨f,hf,rfl⟩
 ·refine⟨0,by omega,rfl,?_⟩
  unfold gG;rw[if_neg];intro hi;obtain⟨f,hf,he⟩:=dg.1 hi;have:=h.fId hf;omega
 ·obtain⟨j,hj,hc⟩:=h.fD f hf
  refine⟨j,hj,hc,?_⟩;unfold gG;rw[if_pos (dg.2 ⟨f,hf,rfl⟩),mO x.fols j 7 0 f.id hc hj];omega
end
section
section
variable {x:St} {e:Ev}
theorem ES(hk:e.kind=1)(ho:aQ e=true):av x e=true↔(∀f∈x.fols,f.id≠e.a)∧x.fols.length<64∧eQ x e.b=true∧gG x e.b<7∧∀f∈x.fols,¬(f.inn=e.b∧f.name=e.s):=by
 unfold av;rw[if_neg (by simp[ho]),if_pos hk];simp only[Bool.and_eq_true,Bool.not_eq_true',rh,decide_eq_true_eq,and_assoc,ey,List.any_eq_false]
theorem Ih(hk:e.kind=2)(ho:aQ e=true):av x e=true↔(∃f∈x.fols,f.id=e.a)∧(∀f∈x.fols,f.inn≠e.a)∧∀f∈x.fees,f.inn≠e.a:=by
 unfold av;rw[if_neg (by simp[ho]),if_neg (by omega),if_pos hk];simp[dg,kZ]
theorem ET(hk:e.kind=3)(ho:aQ e=true):av x e=true↔(∀f∈x.fees,f.id≠e.a)∧x.fees.length<64∧eQ x e.b=true∧cH x e.s=0:=by
 unfold av;rw[if_neg (by simp[ho]),if_neg (by omega),if_neg (by omega),if_pos hk];simp only[Bool.and_eq_true,Bool.not_eq_true',rh,decide_eq_true_eq,and_assoc]
theorem yV(hk:e.kind=4∨e.kind=5)(ho:aQ e=true):av x e=true↔∃f∈x.fees,f.id=e.a:=by
 unfold av;rw[if_neg (by simp[ho]),if_neg (by omega),if_neg (by omega),if_neg (by omega),if_pos hk,dg]
theorem Ii(hk:e.kind=6)(ho:aQ e=true):av x e=true↔(∃f∈x.fees,f.id=e.a)∧eQ x e.b=true:=by
 unfold av;rw[if_neg (by simp[ho]),if_neg (by omega),if_neg (by omega),if_neg (by omega),if_neg (by omega),if_pos hk,Bool.and_eq_true,dg]
theorem Mq(hk:e.kind=7)(ho:aQ e=true):av x e=true↔(∀t∈x.itms,t.id≠e.a)∧x.itms.length<1024∧(∃f∈x.fees,f.id=e.b)∧ke x e.b e.s=0:=by
 unfold av;rw[if_neg (by simp[ho]),if_neg (by omega),if_neg (by omega),if_neg (by omega),if_neg (by omega),if_neg (by omega),if_pos hk];simp only[Bool.and_eq_true,Bool.not_eq_true',rh,dg,decide_eq_true_eq,and_assoc]
theorem yX(hk:e.kind=8∨e.kind=9)(ho:aQ e=true):av x e=true↔∃t∈x.itms,t.id=e.a:=by
 unfold av;rw[if_neg (by simp[ho]),if_neg (by omega),if_neg (by omega),if_neg (by omega),if_neg (by omega),if_neg (by omega),if_neg (by omega),if_pos hk,dg]
theorem Ij(hk:e.kind=10)(ho:aQ e=true):av x e=true↔∃t,eV aJ.id e.a x.itms=some t∧(e.n=0∨e.s∈t.tags∨t.tags.length<8):=by
 unfold av;rw[if_neg (by simp[ho]),if_neg (by omega),if_neg (by omega),if_neg (by omega),if_neg (by omega),if_neg (by omega),if_neg (by omega),if_neg (by omega),if_pos hk]
 cases eV aJ.id e.a x.itms with
 | none=>simp
 | some t=>simp[or_assoc]
theorem yY(hk:e.kind=11)(ho:aQ e=true):av x e=true↔(∀t∈x.seas,t.id≠e.a)∧x.seas.length<32:=by
 unfold av;rw[if_neg (by simp[ho]),if_neg (by omega),if_neg (by omega),if_neg (by omega),if_neg (by omega),if_neg (by omega),if_neg (by omega),if_neg (by omega),if_neg (by omega),if_pos hk];simp only[Bool.and_eq_true,Bool.not_eq_true',rh,decide_eq_true_eq]
theorem Ik(hk:e.kind=12)(ho:aQ e=true):av x e=true↔∃t∈x.seas,t.id=e.a:=by
 unfold av;rw[if_neg (by simp[ho]),if_neg (by omega),if_neg (by omega),if_neg (by omega),if_neg (by omega),if_neg (by omega),if_neg (by omega),if_neg (by omega),if_neg (by omega),if_neg (by omega),if_pos hk,dg]
theorem Db(hk:e.kind=13)(ho:aQ e=true):av x e=true↔x.clock≤e.n:=by
 unfold av;rw[if_neg (by simp[ho]),if_neg (by omega),if_neg (by omega),if_neg (by omega),if_neg (by omega),if_neg (by omega),if_neg (by omega),if_neg (by omega),if_neg (by omega),if_neg (by omega),if_neg (by omega),decide_eq_true_eq]
theorem Pr(hk:e.kind=1):iB x e={x with fols:=dK bg.id ⟨e.a,e.b,e.s⟩ x.fols,tFol:=max x.tFol e.a}:=by simp[iB,AZ,hk]
theorem Rc(hk:e.kind=2):iB x e={x with fols:=dZ bg.id e.a x.fols}:=by simp[iB,hk]
theorem Ps(hk:e.kind=3):iB x e={x with fees:=dK aP.id ⟨e.a,e.b,e.s,e.t⟩ x.fees,tFee:=max x.tFee e.a}:=by simp[iB,AZ,hk]
theorem Re(hk:e.kind=4):iB x e={x with fees:=dZ aP.id e.a x.fees,itms:=x.itms.filter λt=>t.feed≠e.a}:=by simp[iB,hk]
theorem Rf(hk:e.kind=5):iB x e={x with fees:=gM aP.id e.a (λf=>{f with title:=e.t}) x.fees}:=by simp[iB,hk]
theorem Rg(hk:e.kind=6):iB x e={x with fees:=gM aP.id e.a (λf=>{f with inn:=e.b}) x.fees}:=by simp[iB,hk]
theorem Rh(hk:e.kind=7):iB x e={x with itms:=dK aJ.id ⟨e.a,e.b,e.n,e.s,e.t,e.u,false,false,[]⟩ x.itms,tItm:=max x.tItm e.a}:=by simp[iB,AZ,hk]
theorem Pt(hk:e.kind=8):iB x e={x with itms:=gM aJ.id e.a (λt=>{t with read:=decide (e.n=1)}) x.itms}:=by simp[iB,hk]
theorem Ri(hk:e.kind=9):iB x e={x with itms:=gM aJ.id e.a (λt=>{t with star:=decide (e.n=1)}) x.itms}:=by simp[iB,hk]
theorem Ks(hk:e.kind=10):iB x e={x with itms:=gM aJ.id e.a (λt=>{t with tags:=ei t.tags e.s (decide (e.n=1))}) x.itms}:=by simp[iB,hk]
theorem Il(hk:e.kind=11):iB x e={x with seas:=dK dE.id ⟨e.a,e.s,e.t⟩ x.seas,tSea:=max x.tSea e.a}:=by simp[iB,AZ,hk]
theorem Kt(hk:e.kind=12):iB x e={x with seas:=dZ dE.id e.a x.seas}:=by simp[iB,hk]
theorem M6(hk:e.kind=13):iB x e={x with clock:=e.n}:=by simp[iB,hk]
theorem yc(h:di x)(s:ByteArray):cH x s=0↔∀f∈x.fees,f.url≠s:=by
 unfold cH
 cases hf:x.fees.find? λf=>decide (f.url=s) with
 | none=>
   refine⟨λ_ f hm=>?_,λ_=>rfl⟩;have:=List.find?_eq_none.1 hf f hm
   simpa using this
 | some f=>
   have hm:=List.mem_of_find?_eq_some hf;have hp:=List.find?_some hf;have:=h.eId hm;simp at hp;refine⟨λh0=>?_,λhn=>absurd hp (hn f hm)⟩;simp only at h0;omega
theorem Bb(h:di x)(b:Int)(s:ByteArray):ke x b s=0↔∀t∈x.itms,¬(t.feed=b∧t.guid=s):=by
 unfold ke
 cases hf:x.itms.find? λt=>decide (t.feed=b∧t.guid=s) with
 | none=>
   refine⟨λ_ f hm=>?_,λ_=>rfl⟩;have:=List.find?_eq_none.1 hf f hm
   simpa using this
 | some t=>
   have hm:=List.mem_of_find?_eq_some hf;have hp:=List.find?_some hf;have:=(h.iId hm).1;simp only[decide_eq_true_eq] at hp;refine⟨λh0=>?_,λhn=>absurd hp (hn t hm)⟩;simp only at h0;omega
theorem Wc(h:di x)(hk:e.kind=1)(hf:av x e=true):di (iB x e):=by
 have ho:=dx hf;obtain⟨f1,f2,f3,f4,f5⟩:=(ES hk ho).1 hf;have hE:=ho;rw[C8 ho hk] at hE
 have hid:1≤e.a∧e.a≤1048576:=by
  rw[Km] at hE;simp only[Bool.and_eq_true] at hE;exact dy.1 hE.1.1
 rw[Pr hk];have hs:=mM (x:=(⟨e.a,e.b,e.s⟩:bg)) h.fR f1;have EU:∀i f,eV bg.id i x.fols=some f→eV bg.id i (dK bg.id ⟨e.a,e.b,e.s⟩ x.fols)=some f:=λi f hi=>Kq h.fR f1 hi
 exact {h with
  fE:=λf hm=>by
   rcases kN.1 hm with rfl|hm
   ·exact⟨hE,Int.le_max_right _ _⟩
   ·exact⟨(h.fE f hm).1,Int.le_trans (h.fE f hm).2 (Int.le_max_left _ _)⟩
  fD:=λf hm=>by
   rcases kN.1 hm with rfl|hm
   ·obtain⟨j,hj,hc,hd⟩:=h.deep e.b f3
    exact⟨j+1,by omega,by show e.a≠0;omega,⟨e.a,e.b,e.s⟩,jl hs (kN.2 (.inl rfl)) rfl,vY EU j e.b hc⟩
   ·obtain⟨j,hj,hc⟩:=h.fD f hm
    exact⟨j,hj,vY EU j f.id hc⟩
  fR:=hs
  fN:=yU (λa b hab Ah=>hab ⟨Ah.1.symm,Ah.2.symm⟩) (fF bg.id ⟨e.a,e.b,e.s⟩ x.fols).symm (List.pairwise_cons.2 ⟨λf hm hn=>f5 f hm ⟨hn.1.symm,hn.2.symm⟩,h.fN⟩)
  fL:=by show (dK bg.id _ x.fols).length≤64;rw[qJ];omega
  fT:=⟨Int.le_trans h.fT.1 (Int.le_max_left _ _),Int.max_le.2 ⟨h.fT.2,hid.2⟩⟩
  eE:=λf hm=>⟨(h.eE f hm).1,(h.eE f hm).2.1,by
   rcases lZ.1 (h.eE f hm).2.2 with h0|⟨g,hg,he⟩
   ·exact lZ.2 (.inl h0)
   ·exact lZ.2 (.inr ⟨g,kN.2 (.inr hg),he⟩)⟩}
theorem Wd(h:di x)(hk:e.kind=2)(hf:av x e=true):di (iB x e):=by
 have ho:=dx hf;obtain⟨⟨f0,hf0,sw⟩,f2,f3⟩:=(Ih hk ho).1 hf;rw[Rc hk,mN h.fR];have ha:e.a≠0:=by have:=h.fId hf0;omega
 have EU:∀i f,i≠e.a→eV bg.id i x.fols=some f→eV bg.id i (x.fols.filter λy=>y.id≠e.a)=some f:=λi f hi hq=>Da h.fR hq (by have:=(dG hq).2;simp;omega)
 exact {h with
  fE:=λf hm=>h.fE f (List.mem_filter.1 hm).1
  fD:=λf hm=>by
   obtain⟨hm1,UU⟩:=List.mem_filter.1 hm;obtain⟨j,hj,hc⟩:=h.fD f hm1;exact⟨j,hj,yb ha f2 EU j f.id (by simpa using UU) hc⟩
  fR:=lm _ h.fR
  fN:=h.fN.sublist List.filter_sublist
  fL:=Nat.le_trans (List.length_filter_le ..) h.fL
  eE:=λf hm=>⟨(h.eE f hm).1,(h.eE f hm).2.1,by
   rcases lZ.1 (h.eE f hm).2.2 with h0|⟨g,hg,he⟩
   ·exact lZ.2 (.inl h0)
   ·exact lZ.2 (.inr ⟨g,List.mem_filter.2 ⟨hg,by have:=f3 f hm;simp;omega⟩,he⟩)⟩}
theorem We(h:di x)(hk:e.kind=3)(hf:av x e=true):di (iB x e):=by
 have ho:=dx hf;obtain⟨f1,f2,f3,f4⟩:=(ET hk ho).1 hf;have f4:=(yc h e.s).1 f4;have hE:=ho;rw[C9 ho hk] at hE
 have hid:1≤e.a∧e.a≤1048576:=by
  rw[JY] at hE;simp only[Bool.and_eq_true] at hE;exact dy.1 hE.1.1.1
 rw[Ps hk]
 exact {h with
  eE:=λf hm=>by
   rcases kN.1 hm with rfl|hm
   ·exact⟨hE,Int.le_max_right _ _,f3⟩
   ·exact⟨(h.eE f hm).1,Int.le_trans (h.eE f hm).2.1 (Int.le_max_left _ _),(h.eE f hm).2.2⟩
  eR:=mM h.eR f1
  eN:=yU (λa b hab Ah=>hab Ah.symm) (fF aP.id ⟨e.a,e.b,e.s,e.t⟩ x.fees).symm (List.pairwise_cons.2 ⟨λf hm hn=>f4 f hm hn.symm,h.eN⟩)
  eL:=by show (dK aP.id _ x.fees).length≤64;rw[qJ];omega
  eT:=⟨Int.le_trans h.eT.1 (Int.le_max_left _ _),Int.max_le.2 ⟨h.eT.2,hid.2⟩⟩
  iE:=λt hm=>⟨(h.iE t hm).1,(h.iE t hm).2.1,by
   obtain⟨g,hg,he⟩:=dg.1 (h.iE t hm).2.2.1;exact dg.2 ⟨g,kN.2 (.inr hg),he⟩,(h.iE t hm).2.2.2⟩
  iF:=by
   rcases h.iF with h0|h0
   ·exact .inl h0
   ·exact .inr (Int.lt_of_lt_of_le h0 (Int.le_max_left _ _))}
theorem Wh(h:di x)(hk:e.kind=4):di (iB x e):=by
 rw[Re hk,mN h.eR]
 exact {h with
  eE:=λf hm=>h.eE f (List.mem_filter.1 hm).1
  eR:=lm _ h.eR
  eN:=h.eN.sublist List.filter_sublist
  eL:=Nat.le_trans (List.length_filter_le ..) h.eL
  iE:=λt hm=>by
   obtain⟨h1,h2⟩:=List.mem_filter.1 hm;obtain⟨g,hg,he⟩:=dg.1 (h.iE t h1).2.2.1;exact⟨(h.iE t h1).1,(h.iE t h1).2.1,dg.2 ⟨g,List.mem_filter.2 ⟨hg,by simp at h2;simp;omega⟩,he⟩,(h.iE t h1).2.2.2⟩
  iR:=lm _ h.iR
  iN:=h.iN.sublist List.filter_sublist
  iL:=Nat.le_trans (List.length_filter_le ..) h.iL}
theorem Im(h:di x)(f:aP→aP)(hid:∀a,(f a).id=a.id)(RV:∀a,(f a).url=a.url)(hE:∀a∈x.fees,aQ ⟨3,(f a).id,(f a).inn,0,(f a).url,(f a).title,eS⟩=true∧eQ x (f a).inn=true)(id:Int):
  di {x with fees:=gM aP.id id f x.fees}:=by
 rw[sQ f h.eR]
 exact {h with
  eE:=λg hm=>by
   obtain⟨a,ha,rfl⟩:=List.mem_map.1 hm;split
   ·exact⟨(hE a ha).1,by rw[hid];exact(h.eE a ha).2.1,(hE a ha).2⟩
   ·exact h.eE a ha
  eR:=vZ hid h.eR
  eN:=by
   refine List.pairwise_map.2 (h.eN.imp ?_);intro a b hab;have e:∀c:aP,(if c.id=id then f c else c).url=c.url:=λc=>by split<;>simp[RV]
   rw[e,e];exact hab
  eL:=by show (x.fees.map _).length≤64;rw[List.length_map];exact h.eL
  iE:=λt hm=>⟨(h.iE t hm).1,(h.iE t hm).2.1,by
   show aS aP.id t.feed (x.fees.map _)=true
   rw[Kr hid];exact(h.iE t hm).2.2.1,(h.iE t hm).2.2.2⟩}
theorem Wi(h:di x)(hk:e.kind=5)(hf:av x e=true):di (iB x e):=by
 have ho:=dx hf;have hr:=nK ho;rw[Rf hk];refine Im h (λf=>{f with title:=e.t}) (λ_=>rfl) (λ_=>rfl) (λa ha=>⟨?_,(h.eE a ha).2.2⟩) _;have h1:=(h.eE a ha).1;rw[JY] at h1 ⊢;simp only[Bool.and_eq_true] at h1 ⊢;simp[aA,hk] at hr;exact⟨h1.1,hr.2⟩
theorem Wj(h:di x)(hk:e.kind=6)(hf:av x e=true):di (iB x e):=by
 have ho:=dx hf;have hr:=nK ho;obtain⟨-,hin⟩:=(Ii hk ho).1 hf;rw[Rg hk];refine Im h (λf=>{f with inn:=e.b}) (λ_=>rfl) (λ_=>rfl) (λa ha=>⟨?_,hin⟩) _;have h1:=(h.eE a ha).1;rw[JY] at h1 ⊢;simp only[Bool.and_eq_true] at h1 ⊢;simp[aA,hk] at hr;exact⟨⟨⟨h1.1.1.1,hr.2⟩,h1.1.2⟩,h1.2⟩
theorem Wl(h:di x)(hk:e.kind=7)(hf:av x e=true):di (iB x e):=by
 have ho:=dx hf;obtain⟨f1,f2,⟨g,hg,hge⟩,f4⟩:=(Mq hk ho).1 hf;have f4:=(Bb h e.b e.s).1 f4;have hE:=ho;rw[M5 hk] at hE
 have hid:1≤e.a∧e.a≤1048576:=by
  rw[Rb] at hE;simp only[Bool.and_eq_true] at hE;exact dy.1 hE.1.1.1.1.1
 rw[Rh hk]
 exact {h with
  iE:=λt hm=>by
   rcases kN.1 hm with rfl|hm
   ·exact⟨hE,Int.le_max_right _ _,dg.2 ⟨g,hg,hge⟩,by simp,rfl⟩
   ·exact⟨(h.iE t hm).1,Int.le_trans (h.iE t hm).2.1 (Int.le_max_left _ _),(h.iE t hm).2.2⟩
  iR:=mM h.iR f1
  iN:=yU (λa b hab Ah=>hab ⟨Ah.1.symm,Ah.2.symm⟩) (fF aJ.id _ x.itms).symm (List.pairwise_cons.2 ⟨λf hm hn=>f4 f hm ⟨hn.1.symm,hn.2.symm⟩,h.iN⟩)
  iL:=by show (dK aJ.id _ x.itms).length≤1024;rw[qJ];omega
  iT:=⟨Int.le_trans h.iT.1 (Int.le_max_left _ _),Int.max_le.2 ⟨h.iT.2,hid.2⟩⟩
  iF:=.inr (by show 0<x.tFee;have:=(h.eE g hg).2.1;have:=h.eId hg;omega)}
theorem Dc(h:di x)(f:aJ→aJ)(hid:∀a,(f a).id=a.id)(zQ:∀a,(f a).feed=a.feed)(hg:∀a,(f a).guid=a.guid)(id:Int)
  (hE:∀a∈x.itms,a.id=id→aQ ⟨7,(f a).id,(f a).feed,(f a).date,(f a).guid,(f a).title,(f a).link⟩=true∧(f a).tags.length≤8∧lj (f a).tags=true):
  di {x with itms:=gM aJ.id id f x.itms}:=by
 rw[sQ f h.iR]
 exact {h with
  iE:=λg hm=>by
   obtain⟨a,ha,rfl⟩:=List.mem_map.1 hm;split
   ·rename_i hai
    exact⟨(hE a ha hai).1,by rw[hid];exact(h.iE a ha).2.1,by rw[zQ];exact(h.iE a ha).2.2.1,(hE a ha hai).2⟩
   ·exact h.iE a ha
  iR:=vZ hid h.iR
  iN:=by
   refine List.pairwise_map.2 (h.iN.imp ?_);intro a b hab;have e:∀c:aJ,(if c.id=id then f c else c).feed=c.feed:=λc=>by split<;>simp[zQ]
   have e':∀c:aJ,(if c.id=id then f c else c).guid=c.guid:=λc=>by split<;>simp[hg]
   rw[e,e,e',e'];exact hab
  iL:=by show (x.itms.map _).length≤1024;rw[List.length_map];exact h.iL}
theorem Wm(h:di x)(hk:e.kind=8):di (iB x e):=by
 rw[Pt hk];exact Dc h (λt=>{t with read:=decide (e.n=1)}) (λ_=>rfl) (λ_=>rfl) (λ_=>rfl) _ λa ha _=>⟨(h.iE a ha).1,(h.iE a ha).2.2.2⟩
theorem Wn(h:di x)(hk:e.kind=9):di (iB x e):=by
 rw[Ri hk];exact Dc h (λt=>{t with star:=decide (e.n=1)}) (λ_=>rfl) (λ_=>rfl) (λ_=>rfl) _ λa ha _=>⟨(h.iE a ha).1,(h.iE a ha).2.2.2⟩
theorem EW(hk:e.kind=10)(ho:aQ e=true):(e.n=0∨e.n=1)∧lJ e.s=true:=by
 have hr:=nK ho;simp[aA,hk,aZ] at hr;exact⟨hr.1.2,hr.2⟩
theorem RX(h:di x)(hk:e.kind=10)(hf:av x e=true):di (iB x e):=by
 have ho:=dx hf;obtain⟨t,ht,hc⟩:=(Ij hk ho).1 hf;obtain⟨hn,Ku⟩:=EW hk ho;obtain⟨hm,hid⟩:=dG ht;rw[Ks hk];refine Dc h (λt=>{t with tags:=ei t.tags e.s (decide (e.n=1))}) (λ_=>rfl) (λ_=>rfl) (λ_=>rfl) _ λa ha hai=>⟨(h.iE a ha).1,?_,?_⟩
 ·obtain rfl:=ri h.iR ha hm (by omega)
  refine FQ _ ((kU _).1 (h.iE a ha).2.2.2.2).2 (h.iE a ha).2.2.2.1 ?_;rcases hc with hc|hc|hc
  ·exact .inl (by simp[hc])
  ·exact .inr (.inl hc)
  ·exact .inr (.inr hc)
 ·obtain⟨t1,t2⟩:=(kU _).1 (h.iE a ha).2.2.2.2
  refine(kU _).2 ⟨λy hy=>?_,yT _ t2⟩;rcases FP _ t2 hy with rfl|hy
  ·exact Ku
  ·exact t1 y hy
theorem RY(h:di x)(hk:e.kind=11)(hf:av x e=true):di (iB x e):=by
 have ho:=dx hf;obtain⟨f1,f2⟩:=(yY hk ho).1 hf;have hE:=ho;rw[Ko ho hk] at hE
 have hid:1≤e.a∧e.a≤1048576:=by
  rw[Kn] at hE;simp only[Bool.and_eq_true] at hE;exact dy.1 hE.1.1
 rw[Il hk]
 exact {h with
  sE:=λf hm=>by
   rcases kN.1 hm with rfl|hm
   ·exact⟨hE,Int.le_max_right _ _⟩
   ·exact⟨(h.sE f hm).1,Int.le_trans (h.sE f hm).2 (Int.le_max_left _ _)⟩
  sR:=mM h.sR f1
  sL:=by show (dK dE.id _ x.seas).length≤32;rw[qJ];omega
  sT:=⟨Int.le_trans h.sT.1 (Int.le_max_left _ _),Int.max_le.2 ⟨h.sT.2,hid.2⟩⟩}
theorem RZ(h:di x)(hk:e.kind=12):di (iB x e):=by
 rw[Kt hk,mN h.sR]
 exact {h with
  sE:=λf hm=>h.sE f (List.mem_filter.1 hm).1
  sR:=lm _ h.sR
  sL:=Nat.le_trans (List.length_filter_le ..) h.sL}
theorem R1(h:di x)(hk:e.kind=13)(hf:av x e=true):di (iB x e):=by
 have ho:=dx hf;have hc:=(Db hk ho).1 hf;have hE:=ho;rw[Kp ho hk] at hE;rw[M6 hk];exact {h with clk:=⟨Int.le_trans h.clk.1 hc,hE⟩}
theorem lf(h:di x)(hf:av x e=true):di (iB x e):=by
 rcases vX (dx hf) with k|k|k|k|k|k|k|k|k|k|k|k|k
 ·exact Wc h k hf
 ·exact Wd h k hf
 ·exact We h k hf
 ·exact Wh h k
 ·exact Wi h k hf
 ·exact Wj h k hf
 ·exact Wl h k hf
 ·exact Wm h k
 ·exact Wn h k
 ·exact RX h k hf
 ·exact RY h k hf
 ·exact RZ h k
 ·exact R1 h k hf
theorem ye(h:di x)(e:Ev):di (bB x e).1:=by
 unfold bB;split
 ·rename_i hf
  exact lf h hf
 ·exact h
theorem qK(l:List Ev):∀{x:St},di x→di (cZ x l):=by
 induction l with
 | nil=>exact λh=>h
 | cons e l ih=>exact λh=>ih (ye h e)
end
end
section
def Pu(t:aJ):Ev:=⟨7,t.id,t.feed,t.date,t.guid,t.title,t.link⟩
def yZ(t:aJ):List Ev:=Pu t::((if t.read=true then [⟨8,t.id,0,1,eS,eS,eS⟩] else [])++(if t.star=true then [⟨9,t.id,0,1,eS,eS,eS⟩] else [])++t.tags.map λg=>⟨10,t.id,0,1,g,eS,eS⟩)
def rF:St→List Ev→St→Prop
 | x,[],y=>x=y
 | x,e::l,y=>av x e=true∧rF (iB x e) l y
theorem rF.app:∀{l:List Ev} {x y z:St} {l':List Ev},rF x l y→rF y l' z→rF x (l++l') z
 | [],_,_,_,_,h,h'=>by obtain rfl:=h;exact h'
 | _::_,_,_,_,_,h,h'=>⟨h.1,h.2.app h'⟩
theorem rF.fold:∀{l:List Ev} {x y:St},rF x l y→cZ x l=y
 | [],_,_,h=>h
 | e::l,x,y,h=>by
   have:(bB x e).1=iB x e:=by simp[bB,h.1]
   simp only[cZ,List.foldl_cons,this];exact h.2.fold
theorem rF.ok:∀{l:List Ev} {x y:St},di x→rF x l y→di y
 | [],_,_,hx,h=>by obtain rfl:=h;exact hx
 | _::_,_,_,hx,h=>rF.ok (lf hx h.1) h.2
section
variable {α:Type} {g:α→Int}
end
end
end Go.Proofs.YtaecjmiobllhmaaGreat
