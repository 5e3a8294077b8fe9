/- Words. -/
import Derived.Test.YtaecjmiobllhmaaGreatGr08
set_option linter.unusedVariables false
set_option linter.unusedSimpArgs false
namespace Go.Proofs.YtaecjmiobllhmaaGreat
variable {i:Int}
section
structure bh where
 id:Int
 inn:Int
 name:ByteArray
structure aX where
 id:Int
 inn:Int
 url:ByteArray
 title:ByteArray
structure aR where
 id:Int
 feed:Int
 date:Int
 guid:ByteArray
 title:ByteArray
 link:ByteArray
 read:Bool
 star:Bool
 tags:List ByteArray
structure ce where
 id:Int
 name:ByteArray
 query:ByteArray
structure St where
 clock:Int
 fols:List bh
 fees:List aX
 itms:List aR
 seas:List ce
 tFol:Int
 tFee:Int
 tItm:Int
 tSea:Int
def iV:St:=⟨0,[],[],[],[],0,0,0,0⟩
instance:DecidableEq bh:=λx y=>decidable_of_iff (x.id=y.id∧x.inn=y.inn∧x.name=y.name) ⟨λ⟨h1,h2,h3⟩=>by cases x;cases y;simp_all,λh=>by subst h;simp⟩
instance:DecidableEq aX:=λx y=>decidable_of_iff (x.id=y.id∧x.inn=y.inn∧x.url=y.url∧x.title=y.title) ⟨λ⟨h1,h2,h3,h4⟩=>by cases x;cases y;simp_all,λh=>by subst h;simp⟩
instance:DecidableEq aR:=λx y=>decidable_of_iff (x.id=y.id∧x.feed=y.feed∧x.date=y.date∧x.guid=y.guid∧x.title=y.title∧x.link=y.link∧x.read=y.read∧x.star=y.star∧x.tags=y.tags)
 ⟨λ⟨h1,h2,h3,h4,h5,h6,h7,h8,h9⟩=>by cases x;cases y;simp_all,λh=>by subst h;simp⟩
instance:DecidableEq ce:=λx y=>decidable_of_iff (x.id=y.id∧x.name=y.name∧x.query=y.query) ⟨λ⟨h1,h2,h3⟩=>by cases x;cases y;simp_all,λh=>by subst h;simp⟩
instance:DecidableEq St:=λx y=>decidable_of_iff (x.clock=y.clock∧x.fols=y.fols∧x.fees=y.fees∧x.itms=y.itms∧x.seas=y.seas∧x.tFol=y.tFol∧x.tFee=y.tFee∧x.tItm=y.tItm∧x.tSea=y.tSea)
 ⟨λ⟨h1,h2,h3,h4,h5,h6,h7,h8,h9⟩=>by cases x;cases y;simp_all,λh=>by subst h;simp⟩
def bh.cells(f:bh):List Value:=[.int .i64 f.id,.int .i64 f.inn,.string f.name]
def aX.cells(f:aX):List Value:=[.int .i64 f.id,.int .i64 f.inn,.string f.url,.string f.title]
def ce.cells(f:ce):List Value:=[.int .i64 f.id,.string f.name,.string f.query]
section
variable {α:Type}
def qM(g:α→Int)(id:Int)(l:List α):Nat:=l.findIdx λx=>g x=id
def bl(g:α→Int)(id:Int)(l:List α):Bool:=l.any λx=>g x=id
def kS(g:α→Int)(id:Int)(l:List α):Option α:=l.find? λx=>g x=id
def cA(g:α→Int)(x:α)(l:List α):List α:=(l.takeWhile λy=>g y<g x)++x::l.dropWhile λy=>g y<g x
def cM(g:α→Int)(id:Int)(l:List α):List α:=l.eraseP λx=>g x=id
def gK(g:α→Int)(id:Int)(f:α→α):List α→List α
 | []=>[]
 | x::r=>if g x=id then f x::r else x::gK g id f r
end
def kJ(l:List bh):Nat→Nat→Int→Nat
 | 0,n,id=>if id=0 then n else 8
 | k+1,n,id=>if id=0 then n else match kS bh.id id l with
   | none=>8
   | some f=>kJ l k (n+1) f.inn
def gv(x:St)(id:Int):Nat:=if bl bh.id id x.fols=true then kJ x.fols 7 0 id else 0
def dX(x:St)(url:ByteArray):Int:=match x.fees.find? λf=>f.url=url with|some f=>f.id|none=>0
def jI(x:St)(feed:Int)(g:ByteArray):Int:=match x.itms.find? λt=>t.feed=feed∧t.guid=g with|some t=>t.id|none=>0
def nK(x:St)(inn:Int)(name:ByteArray):Bool:=x.fols.any λf=>f.inn=inn∧f.name=name
def kM(x:St)(id:Int):Bool:=!(x.fols.any λf=>f.inn=id)&&!(x.fees.any λf=>f.inn=id)
def nL(x:St)(id:Int):Bool:=decide (id=0)||bl bh.id id x.fols
def aG(x:St)(e:Ev):Bool:=
 if aM e=false then false
 else if e.kind=1 then !bl bh.id e.a x.fols&&decide (x.fols.length<64)&&nL x e.b&&decide (gv x e.b<7)&&!nK x e.b e.s
 else if e.kind=2 then bl bh.id e.a x.fols&&kM x e.a
 else if e.kind=3 then !bl aX.id e.a x.fees&&decide (x.fees.length<64)&&nL x e.b&&decide (dX x e.s=0)
 else if e.kind=4∨e.kind=5 then bl aX.id e.a x.fees
 else if e.kind=6 then bl aX.id e.a x.fees&&nL x e.b
 else if e.kind=7 then !bl aR.id e.a x.itms&&decide (x.itms.length<1024)&&bl aX.id e.b x.fees&&decide (jI x e.b e.s=0)
 else if e.kind=8∨e.kind=9 then bl aR.id e.a x.itms
 else if e.kind=10 then match kS aR.id e.a x.itms with
  | none=>false
  | some t=>decide (e.n=0)||t.tags.any (λy=>y=e.s)||decide (t.tags.length<8)
 else if e.kind=11 then !bl ce.id e.a x.seas&&decide (x.seas.length<32)
 else if e.kind=12 then bl ce.id e.a x.seas
 else decide (x.clock≤e.n)
def lU(a b:ByteArray):Prop:=aU a<aU b
instance (a b:ByteArray):Decidable (lU a b):=inferInstanceAs (Decidable (aU a<aU b))
def ip(t:ByteArray):Bool→List ByteArray→List ByteArray
 | done,[]=>if done=true then [] else [t]
 | done,x::r=>if done=false∧lU t x then t::(if x=t then ip t true r else x::ip t true r) else if x=t then ip t done r else x::ip t done r
def cY(l:List ByteArray)(t:ByteArray)(w:Bool):List ByteArray:=ip t (!w) l
def AW(x:St)(e:Ev):St:=
 if e.kind=1 then {x with fols:=cA bh.id ⟨e.a,e.b,e.s⟩ x.fols,tFol:=max x.tFol e.a}
 else if e.kind=3 then {x with fees:=cA aX.id ⟨e.a,e.b,e.s,e.t⟩ x.fees,tFee:=max x.tFee e.a}
 else if e.kind=7 then {x with itms:=cA aR.id ⟨e.a,e.b,e.n,e.s,e.t,e.u,false,false,[]⟩ x.itms,tItm:=max x.tItm e.a}
 else {x with seas:=cA ce.id ⟨e.a,e.s,e.t⟩ x.seas,tSea:=max x.tSea e.a}
def iu(x:St)(e:Ev):St:=
 if e.kind=1∨e.kind=3∨e.kind=7∨e.kind=11 then AW x e
 else if e.kind=2 then {x with fols:=cM bh.id e.a x.fols}
 else if e.kind=4 then {x with fees:=cM aX.id e.a x.fees,itms:=x.itms.filter λt=>t.feed≠e.a}
 else if e.kind=12 then {x with seas:=cM ce.id e.a x.seas}
 else if e.kind=13 then {x with clock:=e.n}
 else if e.kind=5 then {x with fees:=gK aX.id e.a (λf=>{f with title:=e.t}) x.fees}
 else if e.kind=6 then {x with fees:=gK aX.id e.a (λf=>{f with inn:=e.b}) x.fees}
 else if e.kind=8 then {x with itms:=gK aR.id e.a (λt=>{t with read:=decide (e.n=1)}) x.itms}
 else if e.kind=9 then {x with itms:=gK aR.id e.a (λt=>{t with star:=decide (e.n=1)}) x.itms}
 else {x with itms:=gK aR.id e.a (λt=>{t with tags:=cY t.tags e.s (decide (e.n=1))}) x.itms}
def dY(x:St)(e:Ev):St×Bool:=if aG x e=true then (iu x e,true) else (x,false)
def bG(x:St)(l:List Ev):St:=l.foldl (λy e=>(dY y e).1) x
def xm{α:Type}(p:List α→α→Bool):List α→List α→Bool
 | _,[]=>true
 | pre,a::r=>p pre a&&xm p (pre++[a]) r
def pE{α:Type}(g:α→Int)(pre:List α)(a:α):Bool:=match pre.getLast? with|none=>true|some b=>decide (g b<g a)
def CE(x:St):Bool:=
 xm (λpre f=>aM ⟨1,f.id,f.inn,0,f.name,eS,eS⟩&&decide (f.id≤x.tFol)&&pE bh.id pre f&&decide (gv x f.id≤7)&&!(pre.any λg=>g.inn=f.inn∧g.name=f.name)) [] x.fols
  &&decide (x.fols.length≤64)&&decide (0≤x.tFol∧x.tFol≤1048576)
def CG(x:St):Bool:=
 xm (λpre f=>aM ⟨3,f.id,f.inn,0,f.url,f.title,eS⟩&&decide (f.id≤x.tFee)&&pE aX.id pre f&&nL x f.inn&&!(pre.any λg=>g.url=f.url)) [] x.fees
  &&decide (x.fees.length≤64)&&decide (0≤x.tFee∧x.tFee≤1048576)
def kT:List ByteArray→Bool
 | []=>true
 | [a]=>sX a
 | a::b::r=>sX a&&decide (lU a b)&&kT (b::r)
def CH(x:St):Bool:=
 xm (λpre t=>aM ⟨7,t.id,t.feed,t.date,t.guid,t.title,t.link⟩&&decide (t.id≤x.tItm)&&pE aR.id pre t&&bl aX.id t.feed x.fees&&decide (t.tags.length≤8)&&kT t.tags&&!(pre.any λg=>g.feed=t.feed∧g.guid=t.guid)) [] x.itms
  &&decide (x.itms.length≤1024)&&decide (0≤x.tItm∧x.tItm≤1048576)&&decide (x.tItm=0∨0<x.tFee)
def CJ(x:St):Bool:=
 xm (λpre s=>aM ⟨11,s.id,0,0,s.name,s.query,eS⟩&&decide (s.id≤x.tSea)&&pE ce.id pre s) [] x.seas
  &&decide (x.seas.length≤32)&&decide (0≤x.tSea∧x.tSea≤1048576)
def stOk(x:St):Bool:=CJ x&&decide (0≤x.clock)&&aM ⟨13,0,0,x.clock,eS,eS,eS⟩&&CE x&&CG x&&CH x
end
section
section
variable {α:Type}
theorem vV(p:List α→α→Bool):∀(l pre:List α),xm p pre l=true↔∀A a B,l=A++a::B→p (pre++A) a=true
 | [],pre=>by simp[xm]
 | b::r,pre=>by
   rw[xm,Bool.and_eq_true,vV p r (pre++[b])];constructor
   ·rintro⟨h1,h2⟩ A a B e
    cases A with
    | nil=>
      simp at e;obtain⟨rfl,rfl⟩:=e
      simpa using h1
    | cons c A=>
      simp at e;obtain⟨rfl,e⟩:=e;have:=h2 A a B e
      simpa using this
   ·intro h
    refine⟨by simpa using h [] b r rfl,λA a B e=>?_⟩;have:=h (b::A) a B (by rw[e];rfl)
    simpa using this
theorem vW(q:α→α→Prop):∀(l:List α),l.Pairwise q↔∀A a B,l=A++a::B→∀b∈A,q b a
 | []=>by simp
 | x::r=>by
   constructor
   ·intro h A a B e b hb
    rw[e] at h;exact(List.pairwise_append.1 h).2.2 b hb a (List.mem_cons_self ..)
   ·intro h
    refine List.pairwise_cons.2 ⟨λy hy=>?_,(vW q r).2 λA a B e b hb=>h (x::A) a B (by rw[e];rfl) b (List.mem_cons_of_mem _ hb)⟩;obtain⟨A,B,e⟩:=List.append_of_mem hy;exact h (x::A) y B (by rw[e];rfl) x (List.mem_cons_self ..)
theorem AX(g:α→Int):∀(l pre:List α),pre.Pairwise (λa b=>g a<g b)→(∀A a B,l=A++a::B→pE g (pre++A) a=true)→(pre++l).Pairwise (λa b=>g a<g b)
 | [],pre,hp,_=>by simpa using hp
 | a::r,pre,hp,h=>by
   have h1:=h [] a r rfl
   have h2:(pre++[a]).Pairwise (λa b=>g a<g b):=by
    refine List.pairwise_append.2 ⟨hp,by simp,λb hb c hc=>?_⟩;simp at hc;subst hc;simp only[List.append_nil] at h1;unfold pE at h1;rcases hg:pre.getLast? with _|z
    ·rw[List.getLast?_eq_none_iff] at hg
     subst hg
     cases hb
    ·rw[hg] at h1
     simp only[decide_eq_true_eq] at h1;obtain⟨p',rfl⟩:=List.getLast?_eq_some_iff.1 hg;rcases List.mem_append.1 hb with hb|hb
     ·have:=(List.pairwise_append.1 hp).2.2 b hb z (by simp)
      omega
     ·simp at hb
      subst hb;exact h1
   have:=AX g r (pre++[a]) h2 λA c B e=>by
    have:=h (a::A) c B (by rw[e];rfl)
    simpa using this
   simpa using this
theorem xR(g:α→Int)(l:List α):(∀A a B,l=A++a::B→pE g A a=true)↔l.Pairwise (λa b=>g a<g b):=by
 constructor
 ·intro h
  have:=AX g l [] List.Pairwise.nil (by simpa using h)
  simpa using this
 ·intro h A a B e
  unfold pE;split
  ·rfl
  ·rename_i b hb
   exact decide_eq_true ((vW _ l).1 h A a B e b (List.mem_of_getLast? hb))
theorem Jm(q:α→α→Prop) [∀a b,Decidable (q a b)] (l:List α):(∀A a B,l=A++a::B→(A.any λb=>q b a)=false)↔l.Pairwise (λa b=>¬q a b):=by
 rw[vW];constructor
 ·intro h A a B e b hb hq
  have:=List.any_eq_false.1 (h A a B e) b hb;simp at this;exact this hq
 ·intro h A a B e
  refine List.any_eq_false.2 λb hb=>?_
  simp;exact h A a B e b hb
variable {g:α→Int} {x:α} {id:Int} {l:List α}
theorem ET(g:α→Int)(x y:α)(r:List α):cA g x (y::r)=if g y<g x then y::cA g x r else x::y::r:=by
 unfold cA
 by_cases h:g y<g x
 ·simp[h]
 ·simp[h]
theorem ei(g:α→Int)(x:α)(l:List α):(cA g x l).Perm (x::l):=by
 unfold cA;have:=List.takeWhile_append_dropWhile (p:=λy=>decide (g y<g x)) (l:=l);refine List.perm_middle.trans ?_;rw[this]
theorem kA{y:α}:y∈cA g x l↔y=x∨y∈l:=by
 rw[(ei g x l).mem_iff];exact List.mem_cons
theorem sY(g:α→Int)(x:α)(l:List α):(cA g x l).length=l.length+1:=by
 simpa using (ei g x l).length_eq
theorem mI(h:l.Pairwise λa b=>g a<g b)(hn:∀y∈l,g y≠g x):(cA g x l).Pairwise λa b=>g a<g b:=by
 induction l with
 | nil=>simp[cA]
 | cons y r ih=>
   rw[ET];obtain⟨h1,h2⟩:=List.pairwise_cons.1 h;split
   ·rename_i hlt
    refine List.pairwise_cons.2 ⟨λz hz=>?_,ih h2 λz hz=>hn z (List.mem_cons_of_mem _ hz)⟩;rcases kA.1 hz with rfl|hz
    ·exact hlt
    ·exact h1 z hz
   ·rename_i hlt
    have Va:=hn y (List.mem_cons_self ..);refine List.pairwise_cons.2 ⟨λz hz=>?_,h⟩;rcases List.mem_cons.1 hz with rfl|hz
    ·omega
    ·have:=h1 z hz
     omega
theorem gp:bl g id l=true↔∃y∈l,g y=id:=by simp[bl]
theorem rC:bl g id l=false↔∀y∈l,g y≠id:=by simp[bl]
theorem yJ(h:l.Pairwise λa b=>g a<g b){a b:α}(ha:a∈l)(hb:b∈l)(he:g a=g b):a=b:=by
 induction l with
 | nil=>cases ha
 | cons y r ih=>
   obtain⟨h1,h2⟩:=List.pairwise_cons.1 h;rcases List.mem_cons.1 ha with ha'|ha'
   ·rcases List.mem_cons.1 hb with hb'|hb'
    ·rw[ha',hb']
    ·have:=h1 b hb';rw[←ha'] at this;omega
   ·rcases List.mem_cons.1 hb with hb'|hb'
    ·have:=h1 a ha';rw[←hb'] at this;omega
    ·exact ih h2 ha' hb'
theorem kU(h:l.Pairwise λa b=>g a<g b){a:α}(ha:a∈l)(he:g a=id):kS g id l=some a:=by
 unfold kS
 cases hf:l.find? λx=>decide (g x=id) with
 | none=>
   have:=List.find?_eq_none.1 hf a ha;simp at this
   exact absurd he this
 | some b=>
   have hb:=List.mem_of_find?_eq_some hf;have hp:=List.find?_some hf;simp at hp;rw[yJ h hb ha (by omega)]
theorem gM{a:α}(h:kS g id l=some a):a∈l∧g a=id:=by
 unfold kS at h;refine⟨List.mem_of_find?_eq_some h,?_⟩;have:=List.find?_some h
 simpa using this
theorem GX(h:kS g id l=none):∀a∈l,g a≠id:=by
 intro a ha;have:=List.find?_eq_none.1 h a ha
 simpa using this
theorem qm:(kS g id l).isSome=bl g id l:=by
 unfold kS bl;rw[Bool.eq_iff_iff,List.find?_isSome,List.any_eq_true]
theorem pq(h:l.Pairwise λa b=>g a<g b):cM g id l=l.filter λy=>g y≠id:=by
 unfold cM
 induction l with
 | nil=>rfl
 | cons y r ih=>
   obtain⟨h1,h2⟩:=List.pairwise_cons.1 h
   by_cases hy:g y=id
   ·rw[List.eraseP_cons_of_pos (by simpa using hy),List.filter_cons_of_neg (by simpa using hy)]
    refine(List.filter_eq_self.2 λz hz=>?_).symm;have:=h1 z hz;simp;omega
   ·rw[List.eraseP_cons_of_neg (by simpa using hy),List.filter_cons_of_pos (by simpa using hy),ih h2]
theorem AY(f:α→α)(h:l.Pairwise λa b=>g a<g b):gK g id f l=l.map λy=>if g y=id then f y else y:=by
 induction l with
 | nil=>rfl
 | cons y r ih=>
   obtain⟨h1,h2⟩:=List.pairwise_cons.1 h;unfold gK
   by_cases hy:g y=id
   ·rw[if_pos hy,List.map_cons,if_pos hy]
    congr 1
    conv=>lhs;rw[←List.map_id r]
    refine List.map_congr_left λz hz=>?_
    have:=h1 z hz;rw[if_neg (by omega)];rfl
   ·rw[if_neg hy,List.map_cons,if_neg hy,ih h2]
end
def lf(l:List bh):Nat→Int→Prop
 | 0,id=>id=0
 | j+1,id=>id≠0∧∃f,kS bh.id id l=some f∧lf l j f.inn
theorem qT(l:List bh):∀(j k n:Nat) (id:Int),lf l j id→j≤k→kJ l k n id=n+j
 | 0,k,n,id,h,_=>by
   cases k<;>simp[kJ,lf] at h ⊢<;>simp[h]
 | j+1,k,n,id,h,hk=>by
   obtain⟨k,rfl⟩:∃k',k=k'+1:=⟨k-1,by omega⟩;obtain⟨h0,f,hf,hc⟩:=h;unfold kJ;rw[if_neg h0,hf];simp only;rw[qT l j k (n+1) f.inn hc (by omega)];omega
theorem uy(l:List bh):∀(k n:Nat) (id:Int),kJ l k n id≠8→∃j,j≤k∧lf l j id∧kJ l k n id=n+j
 | 0,n,id,h=>by
   unfold kJ at h ⊢
   by_cases h0:id=0
   ·exact⟨0,Nat.le_refl _,h0,by simp[h0]⟩
   ·rw[if_neg h0] at h
    exact absurd rfl h
 | k+1,n,id,h=>by
   unfold kJ at h ⊢
   by_cases h0:id=0
   ·exact⟨0,by omega,h0,by simp[h0]⟩
   ·rw[if_neg h0] at h ⊢
    cases hf:kS bh.id id l with
    | none=>
      rw[hf] at h
      exact absurd rfl h
    | some f=>
      rw[hf] at h;simp only at h ⊢;obtain⟨j,hj,hc,he⟩:=uy l k (n+1) f.inn h;exact⟨j+1,by omega,⟨h0,f,hf,hc⟩,by omega⟩
theorem vX{l l':List bh}:∀(j:Nat) (id:Int),lf l j id→(∀i f,kS bh.id i l=some f→i≠0→(∃j',j'<j∧lf l (j'+1) i)→kS bh.id i l'=some f)→lf l' j id
 | 0,_,h,_=>h
 | j+1,id,h,hs=>by
   have h':=h;obtain⟨h0,f,hf,hc⟩:=h;refine⟨h0,f,hs id f hf h0 ⟨j,by omega,h'⟩,vX j f.inn hc λi f' h1 h2 ⟨j',h3,h4⟩=>hs i f' h1 h2 ⟨j',by omega,h4⟩⟩
end
section
structure gN(x:St):Prop where
 clk:0≤x.clock∧aM ⟨13,0,0,x.clock,eS,eS,eS⟩=true
 fE:∀f∈x.fols,aM ⟨1,f.id,f.inn,0,f.name,eS,eS⟩=true∧f.id≤x.tFol
 fD:∀f∈x.fols,∃j,j≤7∧lf x.fols j f.id
 fR:x.fols.Pairwise λa b=>a.id<b.id
 fN:x.fols.Pairwise λa b=>¬(a.inn=b.inn∧a.name=b.name)
 fL:x.fols.length≤64
 fT:0≤x.tFol∧x.tFol≤1048576
 eE:∀f∈x.fees,aM ⟨3,f.id,f.inn,0,f.url,f.title,eS⟩=true∧f.id≤x.tFee∧nL x f.inn=true
 eR:x.fees.Pairwise λa b=>a.id<b.id
 eN:x.fees.Pairwise λa b=>¬a.url=b.url
 eL:x.fees.length≤64
 eT:0≤x.tFee∧x.tFee≤1048576
 iE:∀t∈x.itms,aM ⟨7,t.id,t.feed,t.date,t.guid,t.title,t.link⟩=true∧t.id≤x.tItm∧bl aX.id t.feed x.fees=true∧t.tags.length≤8∧kT t.tags=true
 iR:x.itms.Pairwise λa b=>a.id<b.id
 iN:x.itms.Pairwise λa b=>¬(a.feed=b.feed∧a.guid=b.guid)
 iL:x.itms.length≤1024
 iT:0≤x.tItm∧x.tItm≤1048576
 iF:x.tItm=0∨0<x.tFee
 sE:∀s∈x.seas,aM ⟨11,s.id,0,0,s.name,s.query,eS⟩=true∧s.id≤x.tSea
 sR:x.seas.Pairwise λa b=>a.id<b.id
 sL:x.seas.length≤32
 sT:0≤x.tSea∧x.tSea≤1048576
section
variable {α:Type}
theorem xS(l:List α)(p:α→Prop):(∀A a B,l=A++a::B→p a)↔∀a∈l,p a:=by
 constructor
 ·intro h a ha
  obtain⟨A,B,e⟩:=List.append_of_mem ha;exact h A a B e
 ·intro h A a B e
  exact h a (by rw[e];simp)
theorem yK(l:List α)(p:α→Prop)(g:α→Int)(q:α→α→Prop) [∀a b,Decidable (q a b)] (f:List α→α→Bool)(hf:∀A a,f A a=true↔p a∧pE g A a=true∧(A.any λb=>q b a)=false):
  xm f [] l=true↔(∀a∈l,p a)∧(l.Pairwise λa b=>g a<g b)∧l.Pairwise λa b=>¬q a b:=by
 rw[vV,←xS,←xR,←Jm];simp only[List.nil_append,hf];exact⟨λh=>⟨λA a B e=>(h A a B e).1,λA a B e=>(h A a B e).2.1,λA a B e=>(h A a B e).2.2⟩,λh A a B e=>⟨h.1 A a B e,h.2.1 A a B e,h.2.2 A a B e⟩⟩
theorem Jn(l:List α)(p:α→Prop)(g:α→Int)(f:List α→α→Bool)(hf:∀A a,f A a=true↔p a∧pE g A a=true):
  xm f [] l=true↔(∀a∈l,p a)∧l.Pairwise λa b=>g a<g b:=by
 rw[vV,←xS,←xR];simp only[List.nil_append,hf];exact⟨λh=>⟨λA a B e=>(h A a B e).1,λA a B e=>(h A a B e).2⟩,λh A a B e=>⟨h.1 A a B e,h.2 A a B e⟩⟩
end
theorem AZ{x:St}{f:bh}(h:f∈x.fols):gv x f.id≤7↔∃j,j≤7∧lf x.fols j f.id:=by
 have hi:bl bh.id f.id x.fols=true:=gp.2 ⟨f,h,rfl⟩;unfold gv;rw[if_pos hi];constructor
 ·intro hd
  obtain⟨j,hj,hc,-⟩:=uy x.fols 7 0 f.id (by omega);exact⟨j,hj,hc⟩
 ·rintro⟨j,hj,hc⟩
  rw[qT x.fols j 7 0 f.id hc hj];omega
theorem CM(x:St):CE x=true↔(∀f∈x.fols,aM ⟨1,f.id,f.inn,0,f.name,eS,eS⟩=true∧f.id≤x.tFol∧gv x f.id≤7)∧(x.fols.Pairwise λa b=>a.id<b.id)∧(x.fols.Pairwise λa b=>¬(a.inn=b.inn∧a.name=b.name))∧x.fols.length≤64∧0≤x.tFol∧x.tFol≤1048576:=by
 unfold CE
 rw[Bool.and_eq_true,Bool.and_eq_true,yK x.fols (λf=>aM ⟨1,f.id,f.inn,0,f.name,eS,eS⟩=true∧f.id≤x.tFol∧gv x f.id≤7) bh.id (λa b=>a.inn=b.inn∧a.name=b.name) _ (λA a=>by
  simp only[Bool.and_eq_true,decide_eq_true_eq,Bool.not_eq_true',and_assoc,and_left_comm])]
 simp only[decide_eq_true_eq,and_assoc]
theorem CN(x:St):CG x=true↔(∀f∈x.fees,aM ⟨3,f.id,f.inn,0,f.url,f.title,eS⟩=true∧f.id≤x.tFee∧nL x f.inn=true)∧(x.fees.Pairwise λa b=>a.id<b.id)∧(x.fees.Pairwise λa b=>¬a.url=b.url)∧x.fees.length≤64∧0≤x.tFee∧x.tFee≤1048576:=by
 unfold CG
 rw[Bool.and_eq_true,Bool.and_eq_true,yK x.fees (λf=>aM ⟨3,f.id,f.inn,0,f.url,f.title,eS⟩=true∧f.id≤x.tFee∧nL x f.inn=true) aX.id (λa b=>a.url=b.url) _ (λA a=>by
  simp only[Bool.and_eq_true,decide_eq_true_eq,Bool.not_eq_true',and_assoc,and_left_comm])]
 simp only[decide_eq_true_eq,and_assoc]
theorem CO(x:St):CH x=true↔(∀t∈x.itms,aM ⟨7,t.id,t.feed,t.date,t.guid,t.title,t.link⟩=true∧t.id≤x.tItm∧bl aX.id t.feed x.fees=true∧t.tags.length≤8∧kT t.tags=true)∧(x.itms.Pairwise λa b=>a.id<b.id)∧(x.itms.Pairwise λa b=>¬(a.feed=b.feed∧a.guid=b.guid))∧
  x.itms.length≤1024∧(0≤x.tItm∧x.tItm≤1048576)∧(x.tItm=0∨0<x.tFee):=by
 unfold CH
 rw[Bool.and_eq_true,Bool.and_eq_true,Bool.and_eq_true,yK x.itms (λt=>aM ⟨7,t.id,t.feed,t.date,t.guid,t.title,t.link⟩=true∧t.id≤x.tItm∧bl aX.id t.feed x.fees=true∧t.tags.length≤8∧kT t.tags=true) aR.id (λa b=>a.feed=b.feed∧a.guid=b.guid) _ (λA a=>by
  simp only[Bool.and_eq_true,decide_eq_true_eq,Bool.not_eq_true',and_assoc,and_left_comm])]
 simp only[decide_eq_true_eq,and_assoc]
theorem CP(x:St):CJ x=true↔(∀s∈x.seas,aM ⟨11,s.id,0,0,s.name,s.query,eS⟩=true∧s.id≤x.tSea)∧(x.seas.Pairwise λa b=>a.id<b.id)∧x.seas.length≤32∧0≤x.tSea∧x.tSea≤1048576:=by
 unfold CJ
 rw[Bool.and_eq_true,Bool.and_eq_true,Jn x.seas (λs=>aM ⟨11,s.id,0,0,s.name,s.query,eS⟩=true∧s.id≤x.tSea) ce.id _ (λA a=>by
  simp only[Bool.and_eq_true,decide_eq_true_eq,and_assoc])]
 simp only[decide_eq_true_eq,and_assoc]
theorem A0(x:St):stOk x=true↔gN x:=by
 unfold stOk;simp only[Bool.and_eq_true,decide_eq_true_eq,CM,CN,CO,CP];constructor
 ·rintro⟨⟨⟨⟨⟨⟨s1,s2,s3,s4⟩,c1⟩,c2⟩,⟨f1,f2,f3,f4,f5⟩⟩,⟨e1,e2,e3,e4,e5⟩⟩,⟨i1,i2,i3,i4,i5,i6⟩⟩
  exact⟨⟨c1,c2⟩,λf hf=>⟨(f1 f hf).1,(f1 f hf).2.1⟩,λf hf=>(AZ hf).1 (f1 f hf).2.2,f2,f3,f4,f5,e1,e2,e3,e4,e5,i1,i2,i3,i4,i5,i6,s1,s2,s3,s4⟩
 ·intro h
  exact⟨⟨⟨⟨⟨⟨h.sE,h.sR,h.sL,h.sT⟩,h.clk.1⟩,h.clk.2⟩,λf hf=>⟨(h.fE f hf).1,(h.fE f hf).2,(AZ hf).2 (h.fD f hf)⟩,h.fR,h.fN,h.fL,h.fT⟩,h.eE,h.eR,h.eN,h.eL,h.eT⟩,h.iE,h.iR,h.iN,h.iL,h.iT,h.iF⟩
theorem ud:gN iV:=(A0 iV).1 (by decide+kernel)
end
section
theorem lV(a:ByteArray):¬lU a a:=Cl _
theorem nC{a b c:ByteArray}(h:lU a b)(h':lU b c):lU a c:=List.lt_trans h h'
theorem CQ{a b:ByteArray}(h:lU a b):a≠b:=λe=>by subst e;exact lV _ h
theorem CR{a b:ByteArray}(h:¬lU a b)(hn:a≠b):lU b a:=NF h λe=>hn (vg e)
theorem lW:∀l:List ByteArray,kT l=true↔(∀t∈l,sX t=true)∧l.Pairwise lU
 | []=>by simp[kT]
 | [a]=>by simp[kT]
 | a::b::r=>by
   have ih:=lW (b::r);rw[kT,Bool.and_eq_true,Bool.and_eq_true,ih,decide_eq_true_eq];constructor
   ·rintro⟨⟨h1,h2⟩,h3,h4⟩
    refine⟨λt ht=>?_,List.pairwise_cons.2 ⟨λt ht=>?_,h4⟩⟩
    ·rcases List.mem_cons.1 ht with rfl|ht
     ·exact h1
     ·exact h3 t ht
    ·rcases List.mem_cons.1 ht with rfl|ht
     ·exact h2
     ·exact nC h2 ((List.pairwise_cons.1 h4).1 t ht)
   ·rintro⟨h1,h2⟩
    obtain⟨h3,h4⟩:=List.pairwise_cons.1 h2;exact⟨⟨h1 a (List.mem_cons_self ..),h3 b (List.mem_cons_self ..)⟩,λt ht=>h1 t (List.mem_cons_of_mem _ ht),h4⟩
theorem su(t:ByteArray):∀l:List ByteArray,ip t true l=l.filter λx=>x≠t
 | []=>rfl
 | x::r=>by
   rw[ip,if_neg (by simp),su t r]
   by_cases h:x=t
   ·simp[h]
   ·simp[h]
def bB(t:ByteArray)(l:List ByteArray):Nat:=(l.takeWhile λx=>lU x t).length
theorem uz(t:ByteArray):∀l:List ByteArray,l.Pairwise lU→ip t false l=(l.takeWhile λx=>lU x t)++t::((l.dropWhile λx=>lU x t).filter λx=>x≠t)
 | [],_=>by simp[ip]
 | x::r,h=>by
   obtain⟨h1,h2⟩:=List.pairwise_cons.1 h;have ih:=uz t r h2;rw[ip]
   by_cases hlt:lU t x
   ·have hx:¬lU x t:=λh=>lV _ (nC h hlt)
    rw[if_pos ⟨rfl,hlt⟩,if_neg (CQ hlt).symm,su,List.takeWhile_cons_of_neg (by simpa using hx),List.dropWhile_cons_of_neg (by simpa using hx),List.filter_cons_of_pos (by simpa using (CQ hlt).symm)];rfl
   ·rw[if_neg (by simp[hlt])]
    by_cases he:x=t
    ·subst he
     rw[if_pos rfl,List.takeWhile_cons_of_neg (by simpa using lV _),List.dropWhile_cons_of_neg (by simpa using lV _),List.filter_cons_of_neg (by simp)];have hr:∀y∈r,¬lU y x:=λy hy hlt=>lV _ (nC hlt (h1 y hy))
     rw[ih]
     cases r with
     | nil=>rfl
     | cons y r=>
       have:=hr y (List.mem_cons_self ..);rw[List.takeWhile_cons_of_neg (by simpa using this),List.dropWhile_cons_of_neg (by simpa using this)]
    ·have hx:lU x t:=CR hlt (Ne.symm he)
     rw[if_neg he,ih,List.takeWhile_cons_of_pos (by simpa using hx),List.dropWhile_cons_of_pos (by simpa using hx)];rfl
theorem vY(t:ByteArray)(l:List ByteArray)(h:l.Pairwise lU):(∀x∈l.takeWhile λx=>lU x t,lU x t)∧(∀x∈l.dropWhile λx=>lU x t,¬lU x t):=by
 induction l with
 | nil=>simp
 | cons x r ih=>
   obtain⟨h1,h2⟩:=List.pairwise_cons.1 h;obtain⟨i1,i2⟩:=ih h2
   by_cases hx:lU x t
   ·rw[List.takeWhile_cons_of_pos (by simpa using hx),List.dropWhile_cons_of_pos (by simpa using hx)]
    refine⟨λy hy=>?_,i2⟩;rcases List.mem_cons.1 hy with rfl|hy
    ·exact hx
    ·exact i1 y hy
   ·rw[List.takeWhile_cons_of_neg (by simpa using hx),List.dropWhile_cons_of_neg (by simpa using hx)]
    refine⟨λy hy=>(by cases hy),λy hy hlt=>?_⟩;rcases List.mem_cons.1 hy with rfl|hy
    ·exact hx hlt
    ·exact hx (nC (h1 y hy) hlt)
theorem nM{l:List ByteArray}{t:ByteArray}(h:l.Pairwise lU):cY l t true=(l.takeWhile λx=>lU x t)++t::((l.dropWhile λx=>lU x t).filter λx=>x≠t):=uz t l h
theorem iM(l:List ByteArray)(t:ByteArray):cY l t false=l.filter λx=>x≠t:=su t l
theorem EU{l:List ByteArray}{t:ByteArray}(w:Bool)(h:l.Pairwise lU){y:ByteArray}(hy:y∈cY l t w):y=t∨y∈l:=by
 cases w with
 | false=>
   rw[iM] at hy
   exact .inr (List.mem_filter.1 hy).1
 | true=>
   rw[nM h] at hy;rcases List.mem_append.1 hy with hy|hy
   ·exact .inr ((List.takeWhile_sublist _).subset hy)
   ·rcases List.mem_cons.1 hy with rfl|hy
    ·exact .inl rfl
    ·exact .inr ((List.dropWhile_sublist _).subset (List.mem_filter.1 hy).1)
theorem yL{l:List ByteArray}{t:ByteArray}(w:Bool)(h:l.Pairwise lU):(cY l t w).Pairwise lU:=by
 cases w with
 | false=>
   rw[iM]
   exact h.sublist List.filter_sublist
 | true=>
   obtain⟨s1,s2⟩:=vY t l h;rw[nM h];refine List.pairwise_append.2 ⟨h.sublist (List.takeWhile_sublist _),List.pairwise_cons.2 ⟨λy hy=>?_,(h.sublist (List.dropWhile_sublist _)).sublist List.filter_sublist⟩,λa ha b hb=>?_⟩
   ·obtain⟨hy1,hy2⟩:=List.mem_filter.1 hy
    exact CR (s2 y hy1) (by simpa using hy2)
   ·rcases List.mem_cons.1 hb with rfl|hb
    ·exact s1 a ha
    ·obtain⟨hb1,hb2⟩:=List.mem_filter.1 hb
     exact nC (s1 a ha) (CR (s2 b hb1) (by simpa using hb2))
theorem EW{l:List ByteArray}{t:ByteArray}(w:Bool)(h:l.Pairwise lU)(h8:l.length≤8)(hf:w=false∨t∈l∨l.length<8):(cY l t w).length≤8:=by
 cases w with
 | false=>
   rw[iM]
   exact Nat.le_trans (List.length_filter_le ..) h8
 | true=>
   rw[nM h,List.length_append,List.length_cons]
   have e:(l.takeWhile λx=>decide (lU x t)).length+(l.dropWhile λx=>decide (lU x t)).length=l.length:=by
    rw[←List.length_append,List.takeWhile_append_dropWhile]
   have h1:((l.dropWhile λx=>decide (lU x t)).filter λx=>decide (x≠t)).length≤(l.dropWhile λx=>decide (lU x t)).length:=List.length_filter_le ..;rcases hf with hf|hf|hf
   ·cases hf
   ·have hd:t∈l.dropWhile λx=>decide (lU x t):=by
     have:t∈(l.takeWhile λx=>decide (lU x t))++l.dropWhile λx=>decide (lU x t):=by rw[List.takeWhile_append_dropWhile];exact hf
     rcases List.mem_append.1 this with h2|h2
     ·exact absurd ((vY t l h).1 t h2) (lV t)
     ·exact h2
    have:((l.dropWhile λx=>decide (lU x t)).filter λx=>decide (x≠t)).length<(l.dropWhile λx=>decide (lU x t)).length:=
     List.length_filter_lt_length_iff_exists.2 ⟨t,hd,by simp⟩
    omega
   ·omega
theorem GY{e e':Ev}(h1:e.kind=e'.kind)(h2:e.a=e'.a)(h3:e.b=e'.b)(h4:e.n=e'.n)(h5:e.s=e'.s)(h6:e.t=e'.t)(h7:e.u=e'.u):e=e':=by
 cases e;cases e';simp_all
theorem rD{e:Ev}(h:aM e=true):aS e=e:=by
 unfold aM at h;rw[Bool.and_eq_true,decide_eq_true_eq] at h;exact h.2
theorem nN{e:Ev}(h:aM e=true):aB e=true:=by
 unfold aM at h;rw[Bool.and_eq_true] at h;exact h.1
theorem iD{n:Int}:nj n=true↔1≤n∧n≤1048576:=by simp[nj]
theorem vZ{e:Ev}(h:aM e=true):e.kind=1∨e.kind=2∨e.kind=3∨e.kind=4∨e.kind=5∨e.kind=6∨e.kind=7∨e.kind=8∨e.kind=9∨e.kind=10∨e.kind=11∨e.kind=12∨e.kind=13:=by
 have h:=nN h;unfold aB at h
 repeat' split at h
 all_goals first|omega|cases h
theorem LX(a b:Int)(s:ByteArray):aM ⟨1,a,b,0,s,eS,eS⟩=(nj a&&aK b&&cZ s):=by simp[aM,aB,aS]
theorem Lf(a b:Int)(s t:ByteArray):aM ⟨3,a,b,0,s,t,eS⟩=(nj a&&aK b&&kF s&&nk t):=by simp[aM,aB,aS]
theorem Px(a b n:Int)(s t u:ByteArray):aM ⟨7,a,b,n,s,t,u⟩=(nj a&&nj b&&kR n&&kF s&&nk t&&pD u):=by simp[aM,aB,aS]
theorem NQ(a:Int)(s t:ByteArray):aM ⟨11,a,0,0,s,t,eS⟩=(nj a&&cZ s&&kY t):=by simp[aM,aB,aS]
theorem CS{e:Ev}(h:aM e=true)(hk:e.kind=1):e=⟨1,e.a,e.b,0,e.s,eS,eS⟩:=by
 have hu:=rD h;rw[←hu];simp[aS,hk]
theorem CT{e:Ev}(h:aM e=true)(hk:e.kind=3):e=⟨3,e.a,e.b,0,e.s,e.t,eS⟩:=by
 have hu:=rD h;rw[←hu];simp[aS,hk]
theorem LY{e:Ev}(hk:e.kind=7):e=⟨7,e.a,e.b,e.n,e.s,e.t,e.u⟩:=by rw[←hk]
theorem Jo{e:Ev}(h:aM e=true)(hk:e.kind=11):e=⟨11,e.a,0,0,e.s,e.t,eS⟩:=by
 have hu:=rD h;rw[←hu];simp[aS,hk]
theorem Jp{e:Ev}(h:aM e=true)(hk:e.kind=13):e=⟨13,0,0,e.n,eS,eS,eS⟩:=by
 have hu:=rD h;rw[←hu];simp[aS,hk]
theorem cg{x:St}{e:Ev}(h:aG x e=true):aM e=true:=by
 cases ho:aM e with
 | true=>rfl
 | false=>simp[aG,ho] at h
theorem wh{l l':List bh}(hs:∀i f,kS bh.id i l=some f→kS bh.id i l'=some f)(j:Nat)(id:Int)(h:lf l j id):lf l' j id:=
 vX j id h λi f h1 _ _=>hs i f h1
theorem xT{l l':List bh}{a:Int}(ha:a≠0)(hn:∀f∈l,f.inn≠a)(hs:∀i f,i≠a→kS bh.id i l=some f→kS bh.id i l'=some f):∀(j:Nat) (id:Int),id≠a→lf l j id→lf l' j id
 | 0,_,_,h=>h
 | j+1,id,hid,⟨h0,f,hf,hc⟩=>⟨h0,f,hs id f hid hf,xT ha hn hs j f.inn (hn f (gM hf).1) hc⟩
section
variable {α:Type} {g:α→Int} {l:List α}
theorem yM{q:α→α→Prop}(hs:∀a b,q a b→q b a){l l':List α}(hp:l.Perm l')(h:l.Pairwise q):l'.Pairwise q:=(hp.pairwise_iff (λ{a b}=>hs a b)).1 h
theorem Jq{x:α}(h:l.Pairwise λa b=>g a<g b)(hn:∀y∈l,g y≠g x){f:α}(hf:kS g i l=some f):kS g i (cA g x l)=some f:=by
 obtain⟨h1,h2⟩:=gM hf;exact kU (mI h hn) (kA.2 (.inr h1)) h2
theorem kV(p:α→Bool)(h:l.Pairwise λa b=>g a<g b):(l.filter p).Pairwise λa b=>g a<g b:=h.sublist List.filter_sublist
theorem CU{p:α→Bool}(h:l.Pairwise λa b=>g a<g b){f:α}(hf:kS g i l=some f)(hp:p f=true):kS g i (l.filter p)=some f:=by
 obtain⟨h1,h2⟩:=gM hf;exact kU (kV p h) (List.mem_filter.2 ⟨h1,hp⟩) h2
theorem wj{f:α→α}(hf:∀a,g (f a)=g a){id:Int}(h:l.Pairwise λa b=>g a<g b):(l.map λy=>if g y=id then f y else y).Pairwise λa b=>g a<g b:=by
 refine List.pairwise_map.2 (h.imp ?_);intro a b hab;have e:∀c,g (if g c=id then f c else c)=g c:=λc=>by split<;>simp[hf]
 rw[e,e];exact hab
theorem Jr{f:α→α}(hf:∀a,g (f a)=g a){id i:Int}:bl g i (l.map λy=>if g y=id then f y else y)=bl g i l:=by
 have e:∀c,g (if g c=id then f c else c)=g c:=λc=>by split<;>simp[hf]
 simp only[bl,List.any_map,Function.comp_def,e]
end
theorem np{x:St}:nL x i=true↔i=0∨∃f∈x.fols,f.id=i:=by
 unfold nL;rw[Bool.or_eq_true,decide_eq_true_eq,gp]
theorem gN.fId{x:St}(h:gN x){f:bh}(hf:f∈x.fols):1≤f.id∧f.id≤1048576:=by
 have:=(h.fE f hf).1;rw[LX] at this;simp only[Bool.and_eq_true] at this;exact iD.1 this.1.1
theorem gN.eId{x:St}(h:gN x){f:aX}(hf:f∈x.fees):1≤f.id∧f.id≤1048576:=by
 have:=(h.eE f hf).1;rw[Lf] at this;simp only[Bool.and_eq_true] at this;exact iD.1 this.1.1.1
theorem gN.iId{x:St}(h:gN x){t:aR}(ht:t∈x.itms):(1≤t.id∧t.id≤1048576)∧1≤t.feed∧t.feed≤1048576:=by
 have:=(h.iE t ht).1;rw[Px] at this;simp only[Bool.and_eq_true] at this;exact⟨iD.1 this.1.1.1.1.1,iD.1 this.1.1.1.1.2⟩
theorem gN.sId{x:St}(h:gN x){f:ce}(hf:f∈x.seas):1≤f.id∧f.id≤1048576:=by
 have:=(h.sE f hf).1;rw[NQ] at this;simp only[Bool.and_eq_true] at this;exact iD.1 this.1.1
theorem gN.deep{x:St}(h:gN x)(b:Int)(hb:nL x b=true):∃j,j≤7∧lf x.fols j b∧gv x b=j:=by
 rcases np.1 hb with rfl|⟨f,hf,rfl⟩
 ·refine⟨0,by omega,rfl,?_⟩
  unfold gv;rw[if_neg];intro hi;obtain⟨f,hf,he⟩:=gp.1 hi;have:=h.fId hf;omega
 ·obtain⟨j,hj,hc⟩:=h.fD f hf
  refine⟨j,hj,hc,?_⟩;unfold gv;rw[if_pos (gp.2 ⟨f,hf,rfl⟩),qT x.fols j 7 0 f.id hc hj];omega
end
section
section
variable {x:St} {e:Ev}
theorem Lg(hk:e.kind=1)(ho:aM e=true):aG x e=true↔(∀f∈x.fols,f.id≠e.a)∧x.fols.length<64∧nL x e.b=true∧gv x e.b<7∧∀f∈x.fols,¬(f.inn=e.b∧f.name=e.s):=by
 unfold aG;rw[if_neg (by simp[ho]),if_pos hk];simp only[Bool.and_eq_true,Bool.not_eq_true',rC,decide_eq_true_eq,and_assoc,nK,List.any_eq_false]
theorem Lh(hk:e.kind=2)(ho:aM e=true):aG x e=true↔(∃f∈x.fols,f.id=e.a)∧(∀f∈x.fols,f.inn≠e.a)∧∀f∈x.fees,f.inn≠e.a:=by
 unfold aG;rw[if_neg (by simp[ho]),if_neg (by omega),if_pos hk];simp[gp,kM]
theorem Li(hk:e.kind=3)(ho:aM e=true):aG x e=true↔(∀f∈x.fees,f.id≠e.a)∧x.fees.length<64∧nL x e.b=true∧dX x e.s=0:=by
 unfold aG;rw[if_neg (by simp[ho]),if_neg (by omega),if_neg (by omega),if_pos hk];simp only[Bool.and_eq_true,Bool.not_eq_true',rC,decide_eq_true_eq,and_assoc]
theorem GZ(hk:e.kind=4∨e.kind=5)(ho:aM e=true):aG x e=true↔∃f∈x.fees,f.id=e.a:=by
 unfold aG;rw[if_neg (by simp[ho]),if_neg (by omega),if_neg (by omega),if_neg (by omega),if_pos hk,gp]
theorem Lj(hk:e.kind=6)(ho:aM e=true):aG x e=true↔(∃f∈x.fees,f.id=e.a)∧nL x e.b=true:=by
 unfold aG;rw[if_neg (by simp[ho]),if_neg (by omega),if_neg (by omega),if_neg (by omega),if_neg (by omega),if_pos hk,Bool.and_eq_true,gp]
theorem Lk(hk:e.kind=7)(ho:aM e=true):aG x e=true↔(∀t∈x.itms,t.id≠e.a)∧x.itms.length<1024∧(∃f∈x.fees,f.id=e.b)∧jI x e.b e.s=0:=by
 unfold aG;rw[if_neg (by simp[ho]),if_neg (by omega),if_neg (by omega),if_neg (by omega),if_neg (by omega),if_neg (by omega),if_pos hk];simp only[Bool.and_eq_true,Bool.not_eq_true',rC,gp,decide_eq_true_eq,and_assoc]
theorem G0(hk:e.kind=8∨e.kind=9)(ho:aM e=true):aG x e=true↔∃t∈x.itms,t.id=e.a:=by
 unfold aG;rw[if_neg (by simp[ho]),if_neg (by omega),if_neg (by omega),if_neg (by omega),if_neg (by omega),if_neg (by omega),if_neg (by omega),if_pos hk,gp]
theorem G1(hk:e.kind=10)(ho:aM e=true):aG x e=true↔∃t,kS aR.id e.a x.itms=some t∧(e.n=0∨e.s∈t.tags∨t.tags.length<8):=by
 unfold aG;rw[if_neg (by simp[ho]),if_neg (by omega),if_neg (by omega),if_neg (by omega),if_neg (by omega),if_neg (by omega),if_neg (by omega),if_neg (by omega),if_pos hk]
 cases kS aR.id e.a x.itms with
 | none=>simp
 | some t=>simp[or_assoc]
theorem G2(hk:e.kind=11)(ho:aM e=true):aG x e=true↔(∀t∈x.seas,t.id≠e.a)∧x.seas.length<32:=by
 unfold aG;rw[if_neg (by simp[ho]),if_neg (by omega),if_neg (by omega),if_neg (by omega),if_neg (by omega),if_neg (by omega),if_neg (by omega),if_neg (by omega),if_neg (by omega),if_pos hk];simp only[Bool.and_eq_true,Bool.not_eq_true',rC,decide_eq_true_eq]
theorem LZ(hk:e.kind=12)(ho:aM e=true):aG x e=true↔∃t∈x.seas,t.id=e.a:=by
 unfold aG;rw[if_neg (by simp[ho]),if_neg (by omega),if_neg (by omega),if_neg (by omega),if_neg (by omega),if_neg (by omega),if_neg (by omega),if_neg (by omega),if_neg (by omega),if_neg (by omega),if_pos hk,gp]
theorem L0(hk:e.kind=13)(ho:aM e=true):aG x e=true↔x.clock≤e.n:=by
 unfold aG;rw[if_neg (by simp[ho]),if_neg (by omega),if_neg (by omega),if_neg (by omega),if_neg (by omega),if_neg (by omega),if_neg (by omega),if_neg (by omega),if_neg (by omega),if_neg (by omega),if_neg (by omega),decide_eq_true_eq]
theorem Py(hk:e.kind=1):iu x e={x with fols:=cA bh.id ⟨e.a,e.b,e.s⟩ x.fols,tFol:=max x.tFol e.a}:=by simp[iu,AW,hk]
theorem P7(hk:e.kind=2):iu x e={x with fols:=cM bh.id e.a x.fols}:=by simp[iu,hk]
theorem Pz(hk:e.kind=3):iu x e={x with fees:=cA aX.id ⟨e.a,e.b,e.s,e.t⟩ x.fees,tFee:=max x.tFee e.a}:=by simp[iu,AW,hk]
theorem P8(hk:e.kind=4):iu x e={x with fees:=cM aX.id e.a x.fees,itms:=x.itms.filter λt=>t.feed≠e.a}:=by simp[iu,hk]
theorem P9(hk:e.kind=5):iu x e={x with fees:=gK aX.id e.a (λf=>{f with title:=e.t}) x.fees}:=by simp[iu,hk]
theorem Qa(hk:e.kind=6):iu x e={x with fees:=gK aX.id e.a (λf=>{f with inn:=e.b}) x.fees}:=by simp[iu,hk]
theorem PA(hk:e.kind=7):iu x e={x with itms:=cA aR.id ⟨e.a,e.b,e.n,e.s,e.t,e.u,false,false,[]⟩ x.itms,tItm:=max x.tItm e.a}:=by simp[iu,AW,hk]
theorem Qb(hk:e.kind=8):iu x e={x with itms:=gK aR.id e.a (λt=>{t with read:=decide (e.n=1)}) x.itms}:=by simp[iu,hk]
theorem Qc(hk:e.kind=9):iu x e={x with itms:=gK aR.id e.a (λt=>{t with star:=decide (e.n=1)}) x.itms}:=by simp[iu,hk]
theorem L6(hk:e.kind=10):iu x e={x with itms:=gK aR.id e.a (λt=>{t with tags:=cY t.tags e.s (decide (e.n=1))}) x.itms}:=by simp[iu,hk]
theorem Js(hk:e.kind=11):iu x e={x with seas:=cA ce.id ⟨e.a,e.s,e.t⟩ x.seas,tSea:=max x.tSea e.a}:=by simp[iu,AW,hk]
theorem L8(hk:e.kind=12):iu x e={x with seas:=cM ce.id e.a x.seas}:=by simp[iu,hk]
theorem NR(hk:e.kind=13):iu x e={x with clock:=e.n}:=by simp[iu,hk]
theorem xU(h:gN x)(s:ByteArray):dX x s=0↔∀f∈x.fees,f.url≠s:=by
 unfold dX
 cases hf:x.fees.find? λf=>decide (f.url=s) with
 | none=>
   refine⟨λ_ f hm=>?_,λ_=>rfl⟩;have:=List.find?_eq_none.1 hf f hm
   simpa using this
 | some f=>
   have hm:=List.mem_of_find?_eq_some hf;have hp:=List.find?_some hf;have:=h.eId hm;simp at hp;refine⟨λh0=>?_,λhn=>absurd hp (hn f hm)⟩;simp only at h0;omega
theorem A5(h:gN x)(b:Int)(s:ByteArray):jI x b s=0↔∀t∈x.itms,¬(t.feed=b∧t.guid=s):=by
 unfold jI
 cases hf:x.itms.find? λt=>decide (t.feed=b∧t.guid=s) with
 | none=>
   refine⟨λ_ f hm=>?_,λ_=>rfl⟩;have:=List.find?_eq_none.1 hf f hm
   simpa using this
 | some t=>
   have hm:=List.mem_of_find?_eq_some hf;have hp:=List.find?_some hf;have:=(h.iId hm).1;simp only[decide_eq_true_eq] at hp;refine⟨λh0=>?_,λhn=>absurd hp (hn t hm)⟩;simp only at h0;omega
theorem Tf(h:gN x)(hk:e.kind=1)(hf:aG x e=true):gN (iu x e):=by
 have ho:=cg hf;obtain⟨f1,f2,f3,f4,f5⟩:=(Lg hk ho).1 hf;have hE:=ho;rw[CS ho hk] at hE
 have hid:1≤e.a∧e.a≤1048576:=by
  rw[LX] at hE;simp only[Bool.and_eq_true] at hE;exact iD.1 hE.1.1
 rw[Py hk];have hs:=mI (x:=(⟨e.a,e.b,e.s⟩:bh)) h.fR f1;have Eg:∀i f,kS bh.id i x.fols=some f→kS bh.id i (cA bh.id ⟨e.a,e.b,e.s⟩ x.fols)=some f:=λi f hi=>Jq h.fR f1 hi
 exact {h with
  fE:=λf hm=>by
   rcases kA.1 hm with rfl|hm
   ·exact⟨hE,Int.le_max_right _ _⟩
   ·exact⟨(h.fE f hm).1,Int.le_trans (h.fE f hm).2 (Int.le_max_left _ _)⟩
  fD:=λf hm=>by
   rcases kA.1 hm with rfl|hm
   ·obtain⟨j,hj,hc,hd⟩:=h.deep e.b f3
    exact⟨j+1,by omega,by show e.a≠0;omega,⟨e.a,e.b,e.s⟩,kU hs (kA.2 (.inl rfl)) rfl,wh Eg j e.b hc⟩
   ·obtain⟨j,hj,hc⟩:=h.fD f hm
    exact⟨j,hj,wh Eg j f.id hc⟩
  fR:=hs
  fN:=yM (λa b hab Jb=>hab ⟨Jb.1.symm,Jb.2.symm⟩) (ei bh.id ⟨e.a,e.b,e.s⟩ x.fols).symm (List.pairwise_cons.2 ⟨λf hm hn=>f5 f hm ⟨hn.1.symm,hn.2.symm⟩,h.fN⟩)
  fL:=by show (cA bh.id _ x.fols).length≤64;rw[sY];omega
  fT:=⟨Int.le_trans h.fT.1 (Int.le_max_left _ _),Int.max_le.2 ⟨h.fT.2,hid.2⟩⟩
  eE:=λf hm=>⟨(h.eE f hm).1,(h.eE f hm).2.1,by
   rcases np.1 (h.eE f hm).2.2 with h0|⟨g,hg,he⟩
   ·exact np.2 (.inl h0)
   ·exact np.2 (.inr ⟨g,kA.2 (.inr hg),he⟩)⟩}
theorem Tg(h:gN x)(hk:e.kind=2)(hf:aG x e=true):gN (iu x e):=by
 have ho:=cg hf;obtain⟨⟨f0,hf0,rE⟩,f2,f3⟩:=(Lh hk ho).1 hf;rw[P7 hk,pq h.fR];have ha:e.a≠0:=by have:=h.fId hf0;omega
 have Eg:∀i f,i≠e.a→kS bh.id i x.fols=some f→kS bh.id i (x.fols.filter λy=>y.id≠e.a)=some f:=λi f hi hq=>CU h.fR hq (by have:=(gM hq).2;simp;omega)
 exact {h with
  fE:=λf hm=>h.fE f (List.mem_filter.1 hm).1
  fD:=λf hm=>by
   obtain⟨hm1,Jt⟩:=List.mem_filter.1 hm;obtain⟨j,hj,hc⟩:=h.fD f hm1;exact⟨j,hj,xT ha f2 Eg j f.id (by simpa using Jt) hc⟩
  fR:=kV _ h.fR
  fN:=h.fN.sublist List.filter_sublist
  fL:=Nat.le_trans (List.length_filter_le ..) h.fL
  eE:=λf hm=>⟨(h.eE f hm).1,(h.eE f hm).2.1,by
   rcases np.1 (h.eE f hm).2.2 with h0|⟨g,hg,he⟩
   ·exact np.2 (.inl h0)
   ·exact np.2 (.inr ⟨g,List.mem_filter.2 ⟨hg,by have:=f3 f hm;simp;omega⟩,he⟩)⟩}
theorem Th(h:gN x)(hk:e.kind=3)(hf:aG x e=true):gN (iu x e):=by
 have ho:=cg hf;obtain⟨f1,f2,f3,f4⟩:=(Li hk ho).1 hf;have f4:=(xU h e.s).1 f4;have hE:=ho;rw[CT ho hk] at hE
 have hid:1≤e.a∧e.a≤1048576:=by
  rw[Lf] at hE;simp only[Bool.and_eq_true] at hE;exact iD.1 hE.1.1.1
 rw[Pz hk]
 exact {h with
  eE:=λf hm=>by
   rcases kA.1 hm with rfl|hm
   ·exact⟨hE,Int.le_max_right _ _,f3⟩
   ·exact⟨(h.eE f hm).1,Int.le_trans (h.eE f hm).2.1 (Int.le_max_left _ _),(h.eE f hm).2.2⟩
  eR:=mI h.eR f1
  eN:=yM (λa b hab Jb=>hab Jb.symm) (ei aX.id ⟨e.a,e.b,e.s,e.t⟩ x.fees).symm (List.pairwise_cons.2 ⟨λf hm hn=>f4 f hm hn.symm,h.eN⟩)
  eL:=by show (cA aX.id _ x.fees).length≤64;rw[sY];omega
  eT:=⟨Int.le_trans h.eT.1 (Int.le_max_left _ _),Int.max_le.2 ⟨h.eT.2,hid.2⟩⟩
  iE:=λt hm=>⟨(h.iE t hm).1,(h.iE t hm).2.1,by
   obtain⟨g,hg,he⟩:=gp.1 (h.iE t hm).2.2.1;exact gp.2 ⟨g,kA.2 (.inr hg),he⟩,(h.iE t hm).2.2.2⟩
  iF:=by
   rcases h.iF with h0|h0
   ·exact .inl h0
   ·exact .inr (Int.lt_of_lt_of_le h0 (Int.le_max_left _ _))}
theorem Ti(h:gN x)(hk:e.kind=4):gN (iu x e):=by
 rw[P8 hk,pq h.eR]
 exact {h with
  eE:=λf hm=>h.eE f (List.mem_filter.1 hm).1
  eR:=kV _ h.eR
  eN:=h.eN.sublist List.filter_sublist
  eL:=Nat.le_trans (List.length_filter_le ..) h.eL
  iE:=λt hm=>by
   obtain⟨h1,h2⟩:=List.mem_filter.1 hm;obtain⟨g,hg,he⟩:=gp.1 (h.iE t h1).2.2.1;exact⟨(h.iE t h1).1,(h.iE t h1).2.1,gp.2 ⟨g,List.mem_filter.2 ⟨hg,by simp at h2;simp;omega⟩,he⟩,(h.iE t h1).2.2.2⟩
  iR:=kV _ h.iR
  iN:=h.iN.sublist List.filter_sublist
  iL:=Nat.le_trans (List.length_filter_le ..) h.iL}
theorem G3(h:gN x)(f:aX→aX)(hid:∀a,(f a).id=a.id)(Qd:∀a,(f a).url=a.url)(hE:∀a∈x.fees,aM ⟨3,(f a).id,(f a).inn,0,(f a).url,(f a).title,eS⟩=true∧nL x (f a).inn=true)(id:Int):
  gN {x with fees:=gK aX.id id f x.fees}:=by
 rw[AY f h.eR]
 exact {h with
  eE:=λg hm=>by
   obtain⟨a,ha,rfl⟩:=List.mem_map.1 hm;split
   ·exact⟨(hE a ha).1,by rw[hid];exact(h.eE a ha).2.1,(hE a ha).2⟩
   ·exact h.eE a ha
  eR:=wj hid h.eR
  eN:=by
   refine List.pairwise_map.2 (h.eN.imp ?_);intro a b hab;have e:∀c:aX,(if c.id=id then f c else c).url=c.url:=λc=>by split<;>simp[Qd]
   rw[e,e];exact hab
  eL:=by show (x.fees.map _).length≤64;rw[List.length_map];exact h.eL
  iE:=λt hm=>⟨(h.iE t hm).1,(h.iE t hm).2.1,by
   show bl aX.id t.feed (x.fees.map _)=true
   rw[Jr hid];exact(h.iE t hm).2.2.1,(h.iE t hm).2.2.2⟩}
theorem Tj(h:gN x)(hk:e.kind=5)(hf:aG x e=true):gN (iu x e):=by
 have ho:=cg hf;have hr:=nN ho;rw[P9 hk];refine G3 h (λf=>{f with title:=e.t}) (λ_=>rfl) (λ_=>rfl) (λa ha=>⟨?_,(h.eE a ha).2.2⟩) _;have h1:=(h.eE a ha).1;rw[Lf] at h1 ⊢;simp only[Bool.and_eq_true] at h1 ⊢;simp[aB,hk] at hr;exact⟨h1.1,hr.2⟩
theorem Tk(h:gN x)(hk:e.kind=6)(hf:aG x e=true):gN (iu x e):=by
 have ho:=cg hf;have hr:=nN ho;obtain⟨-,hin⟩:=(Lj hk ho).1 hf;rw[Qa hk];refine G3 h (λf=>{f with inn:=e.b}) (λ_=>rfl) (λ_=>rfl) (λa ha=>⟨?_,hin⟩) _;have h1:=(h.eE a ha).1;rw[Lf] at h1 ⊢;simp only[Bool.and_eq_true] at h1 ⊢;simp[aB,hk] at hr;exact⟨⟨⟨h1.1.1.1,hr.2⟩,h1.1.2⟩,h1.2⟩
theorem Tm(h:gN x)(hk:e.kind=7)(hf:aG x e=true):gN (iu x e):=by
 have ho:=cg hf;obtain⟨f1,f2,⟨g,hg,hge⟩,f4⟩:=(Lk hk ho).1 hf;have f4:=(A5 h e.b e.s).1 f4;have hE:=ho;rw[LY hk] at hE
 have hid:1≤e.a∧e.a≤1048576:=by
  rw[Px] at hE;simp only[Bool.and_eq_true] at hE;exact iD.1 hE.1.1.1.1.1
 rw[PA hk]
 exact {h with
  iE:=λt hm=>by
   rcases kA.1 hm with rfl|hm
   ·exact⟨hE,Int.le_max_right _ _,gp.2 ⟨g,hg,hge⟩,by simp,rfl⟩
   ·exact⟨(h.iE t hm).1,Int.le_trans (h.iE t hm).2.1 (Int.le_max_left _ _),(h.iE t hm).2.2⟩
  iR:=mI h.iR f1
  iN:=yM (λa b hab Jb=>hab ⟨Jb.1.symm,Jb.2.symm⟩) (ei aR.id _ x.itms).symm (List.pairwise_cons.2 ⟨λf hm hn=>f4 f hm ⟨hn.1.symm,hn.2.symm⟩,h.iN⟩)
  iL:=by show (cA aR.id _ x.itms).length≤1024;rw[sY];omega
  iT:=⟨Int.le_trans h.iT.1 (Int.le_max_left _ _),Int.max_le.2 ⟨h.iT.2,hid.2⟩⟩
  iF:=.inr (by show 0<x.tFee;have:=(h.eE g hg).2.1;have:=h.eId hg;omega)}
theorem CV(h:gN x)(f:aR→aR)(hid:∀a,(f a).id=a.id)(zP:∀a,(f a).feed=a.feed)(hg:∀a,(f a).guid=a.guid)(id:Int)
  (hE:∀a∈x.itms,a.id=id→aM ⟨7,(f a).id,(f a).feed,(f a).date,(f a).guid,(f a).title,(f a).link⟩=true∧(f a).tags.length≤8∧kT (f a).tags=true):
  gN {x with itms:=gK aR.id id f x.itms}:=by
 rw[AY f h.iR]
 exact {h with
  iE:=λg hm=>by
   obtain⟨a,ha,rfl⟩:=List.mem_map.1 hm;split
   ·rename_i hai
    exact⟨(hE a ha hai).1,by rw[hid];exact(h.iE a ha).2.1,by rw[zP];exact(h.iE a ha).2.2.1,(hE a ha hai).2⟩
   ·exact h.iE a ha
  iR:=wj hid h.iR
  iN:=by
   refine List.pairwise_map.2 (h.iN.imp ?_);intro a b hab;have e:∀c:aR,(if c.id=id then f c else c).feed=c.feed:=λc=>by split<;>simp[zP]
   have e':∀c:aR,(if c.id=id then f c else c).guid=c.guid:=λc=>by split<;>simp[hg]
   rw[e,e,e',e'];exact hab
  iL:=by show (x.itms.map _).length≤1024;rw[List.length_map];exact h.iL}
theorem Tn(h:gN x)(hk:e.kind=8):gN (iu x e):=by
 rw[Qb hk];exact CV h (λt=>{t with read:=decide (e.n=1)}) (λ_=>rfl) (λ_=>rfl) (λ_=>rfl) _ λa ha _=>⟨(h.iE a ha).1,(h.iE a ha).2.2.2⟩
theorem Tp(h:gN x)(hk:e.kind=9):gN (iu x e):=by
 rw[Qc hk];exact CV h (λt=>{t with star:=decide (e.n=1)}) (λ_=>rfl) (λ_=>rfl) (λ_=>rfl) _ λa ha _=>⟨(h.iE a ha).1,(h.iE a ha).2.2.2⟩
theorem Eh(hk:e.kind=10)(ho:aM e=true):(e.n=0∨e.n=1)∧sX e.s=true:=by
 have hr:=nN ho;simp[aB,hk,aW] at hr;exact⟨hr.1.2,hr.2⟩
theorem Qe(h:gN x)(hk:e.kind=10)(hf:aG x e=true):gN (iu x e):=by
 have ho:=cg hf;obtain⟨t,ht,hc⟩:=(G1 hk ho).1 hf;obtain⟨hn,Tq⟩:=Eh hk ho;obtain⟨hm,hid⟩:=gM ht;rw[L6 hk];refine CV h (λt=>{t with tags:=cY t.tags e.s (decide (e.n=1))}) (λ_=>rfl) (λ_=>rfl) (λ_=>rfl) _ λa ha hai=>⟨(h.iE a ha).1,?_,?_⟩
 ·obtain rfl:=yJ h.iR ha hm (by omega)
  refine EW _ ((lW _).1 (h.iE a ha).2.2.2.2).2 (h.iE a ha).2.2.2.1 ?_;rcases hc with hc|hc|hc
  ·exact .inl (by simp[hc])
  ·exact .inr (.inl hc)
  ·exact .inr (.inr hc)
 ·obtain⟨t1,t2⟩:=(lW _).1 (h.iE a ha).2.2.2.2
  refine(lW _).2 ⟨λy hy=>?_,yL _ t2⟩;rcases EU _ t2 hy with rfl|hy
  ·exact Tq
  ·exact t1 y hy
theorem Qf(h:gN x)(hk:e.kind=11)(hf:aG x e=true):gN (iu x e):=by
 have ho:=cg hf;obtain⟨f1,f2⟩:=(G2 hk ho).1 hf;have hE:=ho;rw[Jo ho hk] at hE
 have hid:1≤e.a∧e.a≤1048576:=by
  rw[NQ] at hE;simp only[Bool.and_eq_true] at hE;exact iD.1 hE.1.1
 rw[Js hk]
 exact {h with
  sE:=λf hm=>by
   rcases kA.1 hm with rfl|hm
   ·exact⟨hE,Int.le_max_right _ _⟩
   ·exact⟨(h.sE f hm).1,Int.le_trans (h.sE f hm).2 (Int.le_max_left _ _)⟩
  sR:=mI h.sR f1
  sL:=by show (cA ce.id _ x.seas).length≤32;rw[sY];omega
  sT:=⟨Int.le_trans h.sT.1 (Int.le_max_left _ _),Int.max_le.2 ⟨h.sT.2,hid.2⟩⟩}
theorem Qg(h:gN x)(hk:e.kind=12):gN (iu x e):=by
 rw[L8 hk,pq h.sR]
 exact {h with
  sE:=λf hm=>h.sE f (List.mem_filter.1 hm).1
  sR:=kV _ h.sR
  sL:=Nat.le_trans (List.length_filter_le ..) h.sL}
theorem Qh(h:gN x)(hk:e.kind=13)(hf:aG x e=true):gN (iu x e):=by
 have ho:=cg hf;have hc:=(L0 hk ho).1 hf;have hE:=ho;rw[Jp ho hk] at hE;rw[NR hk];exact {h with clk:=⟨Int.le_trans h.clk.1 hc,hE⟩}
theorem lg(h:gN x)(hf:aG x e=true):gN (iu x e):=by
 rcases vZ (cg hf) with k|k|k|k|k|k|k|k|k|k|k|k|k
 ·exact Tf h k hf
 ·exact Tg h k hf
 ·exact Th h k hf
 ·exact Ti h k
 ·exact Tj h k hf
 ·exact Tk h k hf
 ·exact Tm h k hf
 ·exact Tn h k
 ·exact Tp h k
 ·exact Qe h k hf
 ·exact Qf h k hf
 ·exact Qg h k
 ·exact Qh h k hf
theorem EX(h:gN x)(e:Ev):gN (dY x e).1:=by
 unfold dY;split
 ·rename_i hf
  exact lg h hf
 ·exact h
theorem sZ(l:List Ev):∀{x:St},gN x→gN (bG x l):=by
 induction l with
 | nil=>exact λh=>h
 | cons e l ih=>exact λh=>ih (EX h e)
end
end
section
def rS:St→List Ev→St→Prop
 | x,[],y=>x=y
 | x,e::l,y=>aG x e=true∧rS (iu x e) l y
theorem rS.app:∀{l:List Ev} {x y z:St} {l':List Ev},rS x l y→rS y l' z→rS x (l++l') z
 | [],_,_,_,_,h,h'=>by obtain rfl:=h;exact h'
 | _::_,_,_,_,_,h,h'=>⟨h.1,h.2.app h'⟩
theorem rS.fold:∀{l:List Ev} {x y:St},rS x l y→bG x l=y
 | [],_,_,h=>h
 | e::l,x,y,h=>by
   have:(dY x e).1=iu x e:=by simp[dY,h.1]
   simp only[bG,List.foldl_cons,this];exact h.2.fold
theorem rS.ok:∀{l:List Ev} {x y:St},gN x→rS x l y→gN y
 | [],_,_,hx,h=>by obtain rfl:=h;exact hx
 | _::_,_,_,hx,h=>rS.ok (lg hx h.1) h.2
section
variable {α:Type} {g:α→Int}
end
end
end Go.Proofs.YtaecjmiobllhmaaGreat
