/- Words. -/
import Derived.Test.YtaecjmiobllhmaaGreatGr27
import Derived.Test.YtaecjmiobllhmaaGreatGr13
set_option linter.unusedVariables false
set_option linter.unusedSimpArgs false
set_option maxRecDepth 100000
set_option maxHeartbeats 16000000
namespace Go.Proofs.YtaecjmiobllhmaaGreat
open Go.Value renaming int→I,string→V,slice→U,pointer→O
open Go.IntKind renaming i64→J
open Tryz renaming prog→pQ
open Go.RowKit Go.Lib
variable {id:Int}{k:Nat}{P:Program}{w1 ws:World}{v0:Value}{G G':Nat→Prop}{xs ys:List Value}{A rA:Option Addr}{c rc n p:Nat}{wa:World}{Q:Exit→Act→World→Prop}{zQ zR Et xc zS Eu zT zU Ew:World}{bs d1 d2 d3:Nat}{B1 B2 B3:Option Addr}{v11 v12 v21 v22 v31 v32:Value}{rows:List Value}{cs:Array Value}{u0 u1 u4 u7 u8 u9 u10 u11 u12 u13 u14 u15 u16 cG cH cI cR cS cT u23 u24 cN u26 dc u28 dm dp dr u32 u33 df dg u36 dt u38 dB dC dO dP dQ u44 u45 dI dJ dK dL dD dE dF dR dS dT dM dG dH dw dx dy dz dA u64 dh di dl cU cX fA fB fF fG fw iO iP iQ jN jO jP jQ jR jS jT jU jJ jK jV jW jX jY kZ k9 lc nd nT nU nV nW fH fJ fK fM fO fP fQ fU ej eo ep ew ey eA eB eC eD eF eG eH eI eJ eK eM eO eP eQ eU eV eW eX eY eZ fh fj fk fl fp u138 fq fV fW fX fY fZ gb gc gg gh gS gT gU gV gW gX gY gZ g9 hZ ie ig ii jZ j9 iW iX iY iZ i7 ja jb jc jd je jf jg jh ji jk jl jm jn jo jp jq jr js jt ju jw jz jA jB u193 jC jD ke kg u198 kh ki kj km ko lG lH lI lJ lK lL lM lN lO lQ lh li lj lm lp lq lr u6:Value}
def rN{α:Type}(g:α→Int)(id:Int)(l:List α):Nat:=l.findIdx λy=>!decide (g y<id)
theorem rH{α:Type}{g:α→Int}{a:α}{l:List α}:cA g a l=l.take (rN g (g a) l)++a::l.drop (rN g (g a) l):=by
 unfold cA rN;rw[List.takeWhile_eq_take_findIdx_not,List.dropWhile_eq_drop_findIdx_not]
theorem vq{α:Type}{g:α→Int}{l:List α}:rN g id l≤l.length:=List.findIdx_le_length
theorem vr{α:Type}{g:α→Int}{l:List α}(h:k<rN g id l)(hk:k<l.length):g l[k]<id:=by
 have:=List.not_of_lt_findIdx h
 simpa using this
theorem vu{α:Type}{g:α→Int}{id:Int}{l:List α}(hk:rN g id l<l.length):¬g l[rN g id l]<id:=by
 have:=List.findIdx_getElem (w:=hk);unfold rN
 simpa using this
theorem yg{t e:TypeId}{s bytes:Nat}(E:mJ P t e s bytes)(S:aI e s w1 ws v0 0 []){A rA bA:Option Addr}{B c rc n p:Nat}
  (hr:Rd w1 G s A n xs) (MN:Rd w1 G' s rA (n-p) (xs.drop (p * s))) (lR:Rd ws (λk=>k=B) s bA 1 ys) (hne:v0.ownBlock≠some B)
  (h1:∀u∈xs,u.oneCell'=true) (hy:∀u∈ys,u.oneCell'=true) (hn:n≤100000) (hp:p≤n) (hby:bytes≤1000):
  ∃v1 wa v2 wb A3 c3 wc,(∀ty,(Builtin.append_ #[t,t] ty #[v0,U A p c]).run P ws=.ok v1 wa)∧
    (∀ty,(Builtin.append_ #[t,t] ty #[v1,U bA 1 1]).run P wa=.ok v2 wb)∧
    (∀ty,(Builtin.append_ #[t,t] ty #[v2,U rA (n-p) rc]).run P wb=.ok (U A3 (p+1+(n-p)) c3) wc)∧
    aI e s w1 wc (U A3 (p+1+(n-p)) c3) (p+1+(n-p)) (xs.take (p * s)++ys++xs.drop (p * s))∧aa ag w1 wa∧aa ag w1 wb:=by
 have hb1:(0+p) * bytes≤140737488355328:=by
  have:=Nat.mul_le_mul (show 0+p≤100000 by omega) hby;omega
 have hb2:(p+1) * bytes≤140737488355328:=by
  have:=Nat.mul_le_mul (show p+1≤100001 by omega) hby;omega
 have hb3:(p+1+(n-p)) * bytes≤140737488355328:=by
  have:=Nat.mul_le_mul (show p+1+(n-p)≤100001 by omega) hby;omega
 obtain⟨v1,wa,q1,r1,f1,-⟩:=S.app E c ((hr.take hp).frm S.frm λ_ _=>id) (λu hu=>h1 u (List.mem_of_mem_take hu)) (by unfold maxLen;omega) hb1;rw[Nat.zero_add,List.nil_append] at r1;obtain⟨v2,wb,q2,r2,-,-⟩:=r1.app E 1 (lR.frm f1 λk hk e=>hne (by rw[e,hk])) hy (by unfold maxLen;omega) hb2;obtain⟨v3,wc,q3,r3,-,-⟩:=r2.app E rc (MN.frm r2.frm λ_ _=>id) (λu hu=>h1 u (List.mem_of_mem_drop hu)) (by unfold maxLen;omega) hb3;obtain⟨A3,c3,rfl,-⟩:=r3.shape;exact⟨v1,wa,v2,wb,A3,c3,wc,q1,q2,q3,r3,r1.frm,r2.frm⟩
theorem Dq{t e:TypeId}{s bytes:Nat}(E:mJ P t e s bytes)(S:aI e s w1 ws v0 0 [])
  (hr:Rd w1 G s A n xs) (MN:Rd w1 G' s rA (n-p) (xs.drop (p * s))) (hl:ys.length=s)
  (h1:∀u∈xs,u.oneCell'=true) (hy:∀u∈ys,u.oneCell'=true) (hn:n≤100000) (hp:p≤n) (hby:bytes≤1000):
  ∃v1 wa v2 wb A3 c3 wc,(∀ty,(Builtin.append_ #[t,t] ty #[v0,U A p c]).run P ws=.ok v1 wa)∧
    (∀ty,(Builtin.append_ #[t,t] ty #[v1,U (some ⟨wa.heap.size,0,none⟩) 1 1]).run P (wa.alloc (.cells ys.toArray e))=.ok v2 wb)∧
    (∀ty,(Builtin.append_ #[t,t] ty #[v2,U rA (n-p) rc]).run P wb=.ok (U A3 (p+1+(n-p)) c3) wc)∧
    aI e s w1 wc (U A3 (p+1+(n-p)) c3) (p+1+(n-p)) (xs.take (p * s)++ys++xs.drop (p * s))∧aa ag w1 wa∧aa ag w1 wb:=by
 have hb1:(0+p) * bytes≤140737488355328:=by
  have:=Nat.mul_le_mul (show 0+p≤100000 by omega) hby;omega
 have hb2:(p+1) * bytes≤140737488355328:=by
  have:=Nat.mul_le_mul (show p+1≤100001 by omega) hby;omega
 have hb3:(p+1+(n-p)) * bytes≤140737488355328:=by
  have:=Nat.mul_le_mul (show p+1+(n-p)≤100001 by omega) hby;omega
 obtain⟨v1,wa,q1,r1,f1,-⟩:=S.app E c ((hr.take hp).frm S.frm λ_ _=>id) (λu hu=>h1 u (List.mem_of_mem_take hu)) (by unfold maxLen;omega) hb1;rw[Nat.zero_add,List.nil_append] at r1;obtain⟨v2,wb,q2,r2,-,-⟩:=r1.push E ys hl hy (by unfold maxLen;omega) hb2;obtain⟨v3,wc,q3,r3,-,-⟩:=r2.app E rc (MN.frm r2.frm λ_ _=>id) (λu hu=>h1 u (List.mem_of_mem_drop hu)) (by unfold maxLen;omega) hb3;obtain⟨A3,c3,rfl,-⟩:=r3.shape;exact⟨v1,wa,v2,wb,A3,c3,wc,q1,q2,q3,r3,r1.frm,r2.frm⟩
theorem tG{t e:TypeId}{s bytes:Nat}(E:mJ P t e s bytes)
  (hs:aF w1 G s (A,c) n xs) (h1:∀u∈xs,u.oneCell'=true) (hn:n≤100000) (hp:p≤n) (hby:bytes≤1000):
  ∃sv rA rc wa,sv=U (if c=p then A else A.map (·.add (p * s))) (n-p) (c-p)∧(∀ty,(Builtin.append_ #[t,t] ty #[U (some ⟨w1.heap.size,0,none⟩) 0 0,sv]).run P (w1.alloc (.cells #[] e))=.ok (U rA (n-p) rc) wa)∧
    aI e s w1 wa (U rA (n-p) rc) (n-p) (xs.drop (p * s)):=by
 have hb1:(0+(n-p)) * bytes≤140737488355328:=by
  have:=Nat.mul_le_mul (show 0+(n-p)≤100000 by omega) hby;omega
 have hr:=hs.rd;have hc:n≤c:=hs.cap;have r0:=aI.empty (w0:=w1) e s (fR w1);obtain⟨v1,wa,q1,r1,-,-⟩:=r0.app E (c-p) ((hr.cut (k:=p) hp hc).frm r0.frm λ_ _=>id) (λu hu=>h1 u (List.mem_of_mem_drop hu)) (by unfold maxLen;omega) hb1;rw[Nat.zero_add,List.nil_append] at r1;obtain⟨rA,rc,rfl,-⟩:=r1.shape;exact⟨_,rA,rc,wa,rfl,q1,r1⟩
theorem rI{t e:TypeId}{s bytes:Nat}(E:mJ P t e s bytes)
  (hs:aF wa G s (A,c) n xs) (MN:Rd wa G' s rA (n-p) (xs.drop (p * s))) (hl:ys.length=s)
  (h1:∀u∈xs,u.oneCell'=true) (hy:∀u∈ys,u.oneCell'=true) (hn:n≤100000) (hp:p≤n) (hby:bytes≤1000):
  (∃v1 w1 v2 w2 B c3 w3,(∀ty,(Builtin.append_ #[t,t] ty #[U (some ⟨wa.heap.size,0,none⟩) 0 0,U A p c]).run P ((wa.alloc (.cells #[] e)).alloc (.cells ys.toArray e)).drew=.ok v1 w1)∧
   (∀ty,(Builtin.append_ #[t,t] ty #[v1,U (some ⟨wa.heap.size+1,0,none⟩) 1 1]).run P w1=.ok v2 w2)∧
   (∀ty,(Builtin.append_ #[t,t] ty #[v2,U rA (n-p) rc]).run P w2=.ok (U B (p+1+(n-p)) c3) w3)∧
   aI e s wa w3 (U B (p+1+(n-p)) c3) (p+1+(n-p)) (xs.take (p * s)++ys++xs.drop (p * s))∧aa ag wa w1∧aa ag wa w2)∧
  (∃v1 w1 v2 w2 B c3 w3,(∀ty,(Builtin.append_ #[t,t] ty #[U (some ⟨wa.heap.size,0,none⟩) 0 0,U A p c]).run P (wa.alloc (.cells #[] e)).drew=.ok v1 w1)∧
   (∀ty,(Builtin.append_ #[t,t] ty #[v1,U (some ⟨w1.heap.size,0,none⟩) 1 1]).run P (w1.alloc (.cells ys.toArray e))=.ok v2 w2)∧
   (∀ty,(Builtin.append_ #[t,t] ty #[v2,U rA (n-p) rc]).run P w2=.ok (U B (p+1+(n-p)) c3) w3)∧
   aI e s wa w3 (U B (p+1+(n-p)) c3) (p+1+(n-p)) (xs.take (p * s)++ys++xs.drop (p * s))∧aa ag wa w1∧aa ag wa w2)∧
  (∃v1 w1 v2 w2 B c3 w3,(∀ty,(Builtin.append_ #[t,t] ty #[U (some ⟨wa.heap.size+1,0,none⟩) 0 0,U A p c]).run P ((wa.alloc (.cells ys.toArray e)).alloc (.cells #[] e)).drew=.ok v1 w1)∧
   (∀ty,(Builtin.append_ #[t,t] ty #[v1,U (some ⟨wa.heap.size,0,none⟩) 1 1]).run P w1=.ok v2 w2)∧
   (∀ty,(Builtin.append_ #[t,t] ty #[v2,U rA (n-p) rc]).run P w2=.ok (U B (p+1+(n-p)) c3) w3)∧
   aI e s wa w3 (U B (p+1+(n-p)) c3) (p+1+(n-p)) (xs.take (p * s)++ys++xs.drop (p * s))∧aa ag wa w1∧aa ag wa w2):=by
 have hr:=hs.rd;have R0:=fR wa;have S1:aI e s wa ((wa.alloc (.cells #[] e)).alloc (.cells ys.toArray e)).drew (U (some ⟨wa.heap.size,0,none⟩) 0 0) 0 []:=(aI.empty (w0:=wa) e s R0).more (((fR _).alloc _).drew);have S2:aI e s wa (wa.alloc (.cells #[] e)).drew (U (some ⟨wa.heap.size,0,none⟩) 0 0) 0 []:=(aI.empty (w0:=wa) e s R0).more ((fR _).drew)
 have S3:aI e s wa ((wa.alloc (.cells ys.toArray e)).alloc (.cells #[] e)).drew (U (some ⟨wa.heap.size+1,0,none⟩) 0 0) 0 []:=by
  have:=(aI.empty (w0:=wa) e s (R0.alloc (.cells ys.toArray e))).more ((fR _).drew)
  simpa using this
 have g1:Rd ((wa.alloc (.cells #[] e)).alloc (.cells ys.toArray e)).drew (λk=>k=wa.heap.size+1) s (some ⟨wa.heap.size+1,0,none⟩) 1 ys:=by
  have h0:=heap_alloc_new (wa.alloc (.cells #[] e)) (.cells ys.toArray e);rw[show (wa.alloc (.cells #[] e)).heap.size=wa.heap.size+1 by simp] at h0;exact Rd.of_obj (cs:=ys.toArray) (t:=e) (fr:=(0,0)) h0 1 (by simp[hl])
 have g3:Rd ((wa.alloc (.cells ys.toArray e)).alloc (.cells #[] e)).drew (λk=>k=wa.heap.size) s (some ⟨wa.heap.size,0,none⟩) 1 ys:=by
  have h0:=heap_alloc_new wa (.cells ys.toArray e);exact Rd.of_obj (cs:=ys.toArray) (t:=e) (fr:=(0,0)) ((((fR (wa.alloc _)).alloc (.cells #[] e)).block wa.heap.size (by simp) id).trans h0) 1 (by simp[hl])
 obtain⟨v11,zQ,v12,zR,A1,c1,Et,a1,a2,a3,a4,a5,a6⟩:=yg (B:=wa.heap.size+1) (c:=c) (rc:=rc) E S1 hr MN g1 (by simp[Value.ownBlock]) h1 hy hn hp hby;obtain⟨v21,xc,v22,zS,A2,c2,Eu,b1,b2,b3,b4,b5,b6⟩:=Dq (c:=c) (rc:=rc) E S2 hr MN hl h1 hy hn hp hby;obtain⟨v31,zT,v32,zU,A3,c3,Ew,d1,d2,d3,d4,d5,d6⟩:=yg (B:=wa.heap.size) (c:=c) (rc:=rc) E S3 hr MN g3 (by simp[Value.ownBlock]) h1 hy hn hp hby;exact⟨⟨v11,zQ,v12,zR,A1,c1,Et,a1,a2,a3,a4,a5,a6⟩,⟨v21,xc,v22,zS,A2,c2,Eu,b1,b2,b3,b4,b5,b6⟩,⟨v31,zT,v32,zU,A3,c3,Ew,d1,d2,d3,d4,d5,d6⟩⟩
theorem tH(l:List (Sl×aR)):∀u∈l.flatMap io,u.oneCell'=true:=by
 intro u hu;obtain⟨f,-,hu⟩:=List.mem_flatMap.1 hu;simp[io] at hu;rcases hu with rfl|rfl|rfl|rfl|rfl|rfl|rfl|rfl|rfl<;>rfl
theorem wR{t e:TypeId}{s bytes:Nat}(E:mJ P t e s bytes)(hp:p≤n)(W:World):
  (Instr.sliceAt t (U A n c) (some (I J (p:Int))) none none).run P W=.ok (U (if c=p then A else A.map (·.add (p * s))) (n-p) (c-p)) W:=by
 obtain⟨z,hi,hzs⟩:=E.i;obtain⟨i0,GK,hz0,hz1,hz2⟩:=info_parts hi;have hu:(underlying t).run P W=.ok (.slice e) W:=by simp[underlying,go_sem,E.t]
 have hz:(sizeOf e).run P W=.ok s W:=by simp[sizeOf,typeInfo,go_sem,GK,hz1]
 simp[Instr.sliceAt,Instr.slice,Instr.sliceBounds,Instr.sliceBound,go_sem,hu,hz,hp]
theorem jL{t e:TypeId}{s bytes:Nat}(E:mJ P t e s bytes){W:World}
  {ops:Array Oper} {rest:List Oper} {o:Oper} {a:Act} (x i:Operand) (hgd:o.guard=none)
  (ho:o.op=.slice t x (some i) none none) (hx:a.eval x=U A n c) (hi:a.eval i=I J (p:Int)) (hp:p≤n) {v:Value} (hv:v=U (if c=p then A else A.map (·.add (p * s))) (n-p) (c-p))
  (h:wpList P ops Q rest (a.put o.dst v) W):wpList P ops Q (o::rest) a W:=
 wpList_plain hgd λ_ hK=>by
  unfold Oper.wp execOp;simp only[ho,Option.map_some,Option.map_none,hx,hi,wR E hp,Sem.run_bind,Sem.run_pure,Result.andThen_ok,←hv];exact hK _ _ h
theorem MO{a b n':Int}{s t u:ByteArray}
  (hb:aj wa bs 36 cs) (hcs:cs[1]? =some (U A n c)) (he:aj wa (bs+1) 42 #[I J 1,I J a,I J b,I J n',V s,V t,V u]) (hk:k≤n) (zw:n≤c) (hcm:c≤maxLen)
  (Dr:∀ty,(Builtin.append_ #[31,31] ty #[U (some ⟨wa.heap.size,0,none⟩) 0 0,U A k c]).run pQ ((wa.alloc (.cells #[] 79)).alloc (.cells #[I J a,I J b,V s] 79)).drew=.ok v11 zQ)
  (Ds:∀ty,(Builtin.append_ #[31,31] ty #[v11,U (some ⟨wa.heap.size+1,0,none⟩) 1 1]).run pQ zQ=.ok v12 zR)
  (Dt:∀ty,(Builtin.append_ #[31,31] ty #[v12,U rA (n-k) rc]).run pQ zR=.ok (U B1 (k+1+(n-k)) d1) Et)
  (h1:aI 79 3 wa Et (U B1 (k+1+(n-k)) d1) (k+1+(n-k)) rows) (f11:aa ag wa zQ) (f12:aa ag wa zR)
  (Ip:∀ty,(Builtin.append_ #[31,31] ty #[U (some ⟨wa.heap.size,0,none⟩) 0 0,U A k c]).run pQ (wa.alloc (.cells #[] 79)).drew=.ok v21 xc)
  (Iq:∀ty,(Builtin.append_ #[31,31] ty #[v21,U (some ⟨xc.heap.size,0,none⟩) 1 1]).run pQ (xc.alloc (.cells #[I J a,I J b,V s] 79))=.ok v22 zS)
  (Ir:∀ty,(Builtin.append_ #[31,31] ty #[v22,U rA (n-k) rc]).run pQ zS=.ok (U B2 (k+1+(n-k)) d2) Eu)
  (h2:aI 79 3 wa Eu (U B2 (k+1+(n-k)) d2) (k+1+(n-k)) rows) (f21:aa ag wa xc) (f22:aa ag wa zS)
  (Du:∀ty,(Builtin.append_ #[31,31] ty #[U (some ⟨wa.heap.size+1,0,none⟩) 0 0,U A k c]).run pQ ((wa.alloc (.cells #[I J a,I J b,V s] 79)).alloc (.cells #[] 79)).drew=.ok v31 zT)
  (Dv:∀ty,(Builtin.append_ #[31,31] ty #[v31,U (some ⟨wa.heap.size,0,none⟩) 1 1]).run pQ zT=.ok v32 zU)
  (Dw:∀ty,(Builtin.append_ #[31,31] ty #[v32,U rA (n-k) rc]).run pQ zU=.ok (U B3 (k+1+(n-k)) d3) Ew)
  (h3:aI 79 3 wa Ew (U B3 (k+1+(n-k)) d3) (k+1+(n-k)) rows) (f31:aa ag wa zT) (f32:aa ag wa zU)
 (hP:∀(e:_) (a:Act) (i:Nat) (v:Value) (w:World),Q (.panic e) (a.put (some i) v) w→Q (.panic e) a w) (hQ:∀(wc:World) (B:Option Addr) (d:Nat) (z0 z5 yf Bt:Value),aI 79 3 wa wc (U B (k+1+(n-k)) d) (k+1+(n-k)) rows→Q .normal ⟨#[u0,u1,O (some ⟨bs,0,none⟩),O (some ⟨bs+1,0,none⟩),u4,I J k,U rA (n-k) rc,u7,u8,u9,u10,u11,u12,u13,u14,u15,u16,cG,cH,cI,cR,cS,cT,u23,u24,cN,u26,dc,u28,dm,dp,dr,u32,u33,df,dg,u36,dt,z0,O (some ⟨bs,1,none⟩),U A n c,I J k,U A k c,z5,O (some ⟨bs+1,1,none⟩),I J a,O (some ⟨bs+1,2,none⟩),I J b,O (some ⟨bs+1,4,none⟩),V s,.agg #[I J a,I J b,V s],yf,Bt,U rA (n-k) rc,U B (k+1+(n-k)) d,O (some ⟨bs,1,none⟩),dM,dG,dH,dw,dx,dy,dz,dA,u64,dh,di,dl,cU,cX,fA,fB,fF,fG,fw,iO,iP,iQ,jN,jO,jP,jQ,jR,jS,jT,jU,jJ,jK,jV,jW,jX,jY,kZ,k9,lc,nd,nT,nU,nV,nW,fH,fJ,fK,fM,fO,fP,fQ,fU,ej,eo,ep,ew,ey,eA,eB,eC,eD,eF,eG,eH,eI,eJ,eK,eM,eO,eP,eQ,eU,eV,eW,eX,eY,eZ,fh,fj,fk,fl,fp,u138,fq,fV,fW,fX,fY,fZ,gb,gc,gg,gh,gS,gT,gU,gV,gW,gX,gY,gZ,g9,hZ,ie,ig,ii,jZ,j9,iW,iX,iY,iZ,i7,ja,jb,jc,jd,je,jf,jg,jh,ji,jk,jl,jm,jn,jo,jp,jq,jr,js,jt,ju,jw,jz,jA,jB,u193,jC,jD,ke,kg,u198,kh,ki,kj,km,ko,lG,lH,lI,lJ,lK,lL,lM,lN,lO,lQ,lh,li,lj,lm,lp,lq,lr],[]⟩ (wc.setCell ⟨bs,1,none⟩ (U B (k+1+(n-k)) d))):
  Code.wp pQ (aD (ap (ap (bH (ap (bM (ap (aD (ai 2 (ae Tryz.f31)))))))))) Q ⟨#[u0,u1,O (some ⟨bs,0,none⟩),O (some ⟨bs+1,0,none⟩),u4,I J k,U rA (n-k) rc,u7,u8,u9,u10,u11,u12,u13,u14,u15,u16,cG,cH,cI,cR,cS,cT,u23,u24,cN,u26,dc,u28,dm,dp,dr,u32,u33,df,dg,u36,dt,u38,dB,dC,dO,dP,dQ,u44,u45,dI,dJ,dK,dL,dD,dE,dF,dR,dS,dT,dM,dG,dH,dw,dx,dy,dz,dA,u64,dh,di,dl,cU,cX,fA,fB,fF,fG,fw,iO,iP,iQ,jN,jO,jP,jQ,jR,jS,jT,jU,jJ,jK,jV,jW,jX,jY,kZ,k9,lc,nd,nT,nU,nV,nW,fH,fJ,fK,fM,fO,fP,fQ,fU,ej,eo,ep,ew,ey,eA,eB,eC,eD,eF,eG,eH,eI,eJ,eK,eM,eO,eP,eQ,eU,eV,eW,eX,eY,eZ,fh,fj,fk,fl,fp,u138,fq,fV,fW,fX,fY,fZ,gb,gc,gg,gh,gS,gT,gU,gV,gW,gX,gY,gZ,g9,hZ,ie,ig,ii,jZ,j9,iW,iX,iY,iZ,i7,ja,jb,jc,jd,je,jf,jg,jh,ji,jk,jl,jm,jn,jo,jp,jq,jr,js,jt,ju,jw,jz,jA,jB,u193,jC,jD,ke,kg,u198,kh,ki,kj,km,ko,lG,lH,lI,lJ,lK,lL,lM,lN,lO,lQ,lh,li,lj,lm,lp,lq,lr],[]⟩ wa:=by
 have HB:=h_ hb;have HE:=h_ he;have bu:Hid (∀W,aa ag wa W→W.cell? ⟨bs+1,1,none⟩=some (I J a)∧W.cell? ⟨bs+1,2,none⟩=some (I J b)∧W.cell? ⟨bs+1,4,none⟩=some (V s)):=λW hW=>⟨((he.frm hW id).cell 1).trans rfl,((he.frm hW id).cell 2).trans rfl,((he.frm hW id).cell 4).trans rfl⟩
 have cx:∀{W:World},aa ag wa W→W.cell? ⟨bs,1,none⟩=some (U A n c):=λhW=>((hb.frm hW id).cell 1).trans hcs
 have cf:∀{W:World},aa ag wa W→W.frozen? ⟨bs,1,none⟩=false:=λhW=>(hb.frm hW id).frozen 1
 have HST:Hid (∀(W:World) (B:Option Addr) (d:Nat),(W.cell? ⟨bs+1,1,none⟩=some (I J a)∧W.cell? ⟨bs+1,2,none⟩=some (I J b)∧W.cell? ⟨bs+1,4,none⟩=some (V s))→(λW:World=>W.cell? ⟨bs+1,1,none⟩=some (I J a)∧W.cell? ⟨bs+1,2,none⟩=some (I J b)∧W.cell? ⟨bs+1,4,none⟩=some (V s)) (W.setCell ⟨bs,1,none⟩ (U B (k+1+(n-k)) d))):=by
  rintro W B d ⟨q1,q2,q4⟩;exact⟨(World.cell?_setCell_far _ _ _ _ (by simp)).trans q1,(World.cell?_setCell_far _ _ _ _ (by simp)).trans q2,(World.cell?_setCell_far _ _ _ _ (by simp)).trans q4⟩
 have R0:=fR wa;obtain⟨e1,e2,e4⟩:=bu.out wa R0;have p1:=cx R0;have p2:=cx (R0.alloc (.cells #[] 79));have p3:=cx (R0.alloc (.cells #[I J a,I J b,V s] 79));have p4:=cx ((R0.alloc (.cells #[] 79)).alloc (.cells #[I J a,I J b,V s] 79));have p5:=cx ((R0.alloc (.cells #[I J a,I J b,V s] 79)).alloc (.cells #[] 79));have PP:=cx h1.frm;have Rj:=cx h2.frm;have Rk:=cx h3.frm;have PQ:=cf h1.frm;have Rl:=cf h2.frm;have sf3:=cf h3.frm;have FB:(0:Int)≤(k:Int):=Int.natCast_nonneg _;have FC:(k:Int)≤(c:Int):=by omega
 have FD:(k:Int)≤(n:Int):=by omega
 have HQ:=h_ hQ;have HP:=h_ hP;have H1:=h_ h1;have H2:=h_ h2;have H3:=h_ h3;have bE:=h_ R0;have HF:=h_ (And.intro f11 (And.intro f12 (And.intro f21 (And.intro f22 (And.intro f31 f32)))));clear hb he hcs cx cf R0 h1 h2 h3 f11 f12 f21 f22 f31 f32 hQ hP;simp only[aD,ap,bH,aT,bM,ai,ae,Tryz.f31];refine wp_region_held_drew (S:=λW=>W.cell? ⟨bs+1,1,none⟩=some (I J a)∧W.cell? ⟨bs+1,2,none⟩=some (I J b)∧W.cell? ⟨bs+1,4,none⟩=some (V s)) (by kernel_rfl) (bu.out _ bE.out.drew) λhH=>?_
 refine tk (i:=1) HP rfl rfl hH ?_
 try simp only[lt]
 refine tk (i:=3) HP rfl rfl hH ?_
 try simp only[lt]
 refine tk (i:=6) HP rfl rfl hH ?_
 try simp only[lt]
 refine tk (i:=7) HP rfl rfl hH ?_
 try simp only[lt]
 refine tk (i:=8) HP rfl rfl hH ?_
 try simp only[lt]
 refine tk (i:=9) HP rfl rfl hH ?_
 try simp only[lt]
 refine tk (i:=10) HP rfl rfl hH ?_
 try simp only[lt]
 refine tk (i:=11) HP rfl rfl hH ?_
 try simp only[lt]
 refine tk (i:=12) HP rfl rfl hH ?_
 try simp only[lt]
 refine tk (i:=15) HP rfl rfl hH ?_
 try simp only[lt]
 refine E5 (i:=0) (j:=2) (k:=13) rfl rfl rfl (λK hK=>?_) (λK hK=>?_) (λK hK=>?_)
 ·go_simp
  refine hK.out _ _ (bu.out _ ((bE.out.alloc _).drew)) (λhH=>?_);clear hK K
  try simp only[lt]
  refine kW (i:=2) (j:=13) rfl rfl (λK hK=>?_) (λK hK=>?_)
  ·go_simp
   refine hK.out _ _ (bu.out _ ((bE.out.alloc _).drew)) (λhH=>?_);clear hK K
   try simp only[lt]
   refine tk (i:=4) HP rfl rfl hH ?_
   try simp only[lt]
   refine kW (i:=5) (j:=13) rfl rfl (λK hK=>?_) (λK hK=>?_)
   ·refine bW Ip ?_
    refine hK.out _ _ (bu.out _ (HF.out.2.2.1)) (λhH=>?_);clear hK K
    try simp only[lt]
    refine aw (i:=13) rfl (λK hK=>?_);go_simp;refine hK.out _ _ (bu.out _ (HF.out.2.2.1.alloc _)) (λhH=>?_);clear hK K
    try simp only[lt]
    refine aw (i:=14) rfl (λK hK=>?_);refine bW Iq ?_;refine hK.out _ _ (bu.out _ (HF.out.2.2.2.1)) (λhH=>?_);clear hK K
    try simp only[lt]
    refine aw (i:=16) rfl (λK hK=>?_);refine bW Ir ?_;refine hK.out _ _ (bu.out _ (H2.out.frm)) (λhH=>?_);clear hK K
    try simp only[lt]
    refine tk (i:=17) HP rfl rfl hH ?_
    try simp only[lt]
    refine aw (i:=18) rfl (λK hK=>?_);go_simp;refine hK.out _ _ (HST.out _ _ _ hH) (λhH=>?_);clear hK K
    try simp only[lt]
    refine wpAnyH_done (by kernel_rfl) ?_ _;exact HQ.out _ _ _ _ _ _ _ H2.out
   ·go_simp
    refine hK.out _ _ (bu.out _ (((bE.out.alloc _).alloc _).drew)) (λhH=>?_);clear hK K
    try simp only[lt]
    refine aw (i:=5) rfl (λK hK=>?_);refine bW Dr ?_;refine hK.out _ _ (bu.out _ (HF.out.1)) (λhH=>?_);clear hK K
    try simp only[lt]
    refine aw (i:=14) rfl (λK hK=>?_);refine bW Ds ?_;refine hK.out _ _ (bu.out _ (HF.out.2.1)) (λhH=>?_);clear hK K
    try simp only[lt]
    refine aw (i:=16) rfl (λK hK=>?_);refine bW Dt ?_;refine hK.out _ _ (bu.out _ (H1.out.frm)) (λhH=>?_);clear hK K
    try simp only[lt]
    refine tk (i:=17) HP rfl rfl hH ?_
    try simp only[lt]
    refine aw (i:=18) rfl (λK hK=>?_);go_simp;refine hK.out _ _ (HST.out _ _ _ hH) (λhH=>?_);clear hK K
    try simp only[lt]
    refine wpAnyH_done (by kernel_rfl) ?_ _;exact HQ.out _ _ _ _ _ _ _ H1.out
  ·go_simp
   refine hK.out _ _ (bu.out _ (((bE.out.alloc _).alloc _).drew)) (λhH=>?_);clear hK K
   try simp only[lt]
   refine aw (i:=2) rfl (λK hK=>?_);go_simp;refine hK.out _ _ (bu.out _ (((bE.out.alloc _).alloc _).drew)) (λhH=>?_);clear hK K
   try simp only[lt]
   refine tk (i:=4) HP rfl rfl hH ?_
   try simp only[lt]
   refine aw (i:=5) rfl (λK hK=>?_);refine bW Dr ?_;refine hK.out _ _ (bu.out _ (HF.out.1)) (λhH=>?_);clear hK K
   try simp only[lt]
   refine aw (i:=14) rfl (λK hK=>?_);refine bW Ds ?_;refine hK.out _ _ (bu.out _ (HF.out.2.1)) (λhH=>?_);clear hK K
   try simp only[lt]
   refine aw (i:=16) rfl (λK hK=>?_);refine bW Dt ?_;refine hK.out _ _ (bu.out _ (H1.out.frm)) (λhH=>?_);clear hK K
   try simp only[lt]
   refine tk (i:=17) HP rfl rfl hH ?_
   try simp only[lt]
   refine aw (i:=18) rfl (λK hK=>?_);go_simp;refine hK.out _ _ (HST.out _ _ _ hH) (λhH=>?_);clear hK K
   try simp only[lt]
   refine wpAnyH_done (by kernel_rfl) ?_ _;exact HQ.out _ _ _ _ _ _ _ H1.out
 ·go_simp
  refine hK.out _ _ (bu.out _ ((bE.out).drew)) (λhH=>?_);clear hK K
  try simp only[lt]
  refine tk (i:=4) HP rfl rfl hH ?_
  try simp only[lt]
  refine kW (i:=0) (j:=13) rfl rfl (λK hK=>?_) (λK hK=>?_)
  ·go_simp
   refine hK.out _ _ (bu.out _ ((bE.out.alloc _).drew)) (λhH=>?_);clear hK K
   try simp only[lt]
   refine kW (i:=5) (j:=13) rfl rfl (λK hK=>?_) (λK hK=>?_)
   ·refine bW Ip ?_
    refine hK.out _ _ (bu.out _ (HF.out.2.2.1)) (λhH=>?_);clear hK K
    try simp only[lt]
    refine aw (i:=13) rfl (λK hK=>?_);go_simp;refine hK.out _ _ (bu.out _ (HF.out.2.2.1.alloc _)) (λhH=>?_);clear hK K
    try simp only[lt]
    refine aw (i:=14) rfl (λK hK=>?_);refine bW Iq ?_;refine hK.out _ _ (bu.out _ (HF.out.2.2.2.1)) (λhH=>?_);clear hK K
    try simp only[lt]
    refine aw (i:=16) rfl (λK hK=>?_);refine bW Ir ?_;refine hK.out _ _ (bu.out _ (H2.out.frm)) (λhH=>?_);clear hK K
    try simp only[lt]
    refine tk (i:=17) HP rfl rfl hH ?_
    try simp only[lt]
    refine aw (i:=18) rfl (λK hK=>?_);go_simp;refine hK.out _ _ (HST.out _ _ _ hH) (λhH=>?_);clear hK K
    try simp only[lt]
    refine wpAnyH_done (by kernel_rfl) ?_ _;exact HQ.out _ _ _ _ _ _ _ H2.out
   ·go_simp
    refine hK.out _ _ (bu.out _ (((bE.out.alloc _).alloc _).drew)) (λhH=>?_);clear hK K
    try simp only[lt]
    refine aw (i:=5) rfl (λK hK=>?_);refine bW Dr ?_;refine hK.out _ _ (bu.out _ (HF.out.1)) (λhH=>?_);clear hK K
    try simp only[lt]
    refine aw (i:=14) rfl (λK hK=>?_);refine bW Ds ?_;refine hK.out _ _ (bu.out _ (HF.out.2.1)) (λhH=>?_);clear hK K
    try simp only[lt]
    refine aw (i:=16) rfl (λK hK=>?_);refine bW Dt ?_;refine hK.out _ _ (bu.out _ (H1.out.frm)) (λhH=>?_);clear hK K
    try simp only[lt]
    refine tk (i:=17) HP rfl rfl hH ?_
    try simp only[lt]
    refine aw (i:=18) rfl (λK hK=>?_);go_simp;refine hK.out _ _ (HST.out _ _ _ hH) (λhH=>?_);clear hK K
    try simp only[lt]
    refine wpAnyH_done (by kernel_rfl) ?_ _;exact HQ.out _ _ _ _ _ _ _ H1.out
  ·go_simp
   refine hK.out _ _ (bu.out _ ((bE.out.alloc _).drew)) (λhH=>?_);clear hK K
   try simp only[lt]
   refine aw (i:=0) rfl (λK hK=>?_);go_simp;refine hK.out _ _ (bu.out _ (((bE.out.alloc _).alloc _).drew)) (λhH=>?_);clear hK K
   try simp only[lt]
   refine aw (i:=5) rfl (λK hK=>?_);refine bW Du ?_;refine hK.out _ _ (bu.out _ (HF.out.2.2.2.2.1)) (λhH=>?_);clear hK K
   try simp only[lt]
   refine aw (i:=14) rfl (λK hK=>?_);refine bW Dv ?_;refine hK.out _ _ (bu.out _ (HF.out.2.2.2.2.2)) (λhH=>?_);clear hK K
   try simp only[lt]
   refine aw (i:=16) rfl (λK hK=>?_);refine bW Dw ?_;refine hK.out _ _ (bu.out _ (H3.out.frm)) (λhH=>?_);clear hK K
   try simp only[lt]
   refine tk (i:=17) HP rfl rfl hH ?_
   try simp only[lt]
   refine aw (i:=18) rfl (λK hK=>?_);go_simp;refine hK.out _ _ (HST.out _ _ _ hH) (λhH=>?_);clear hK K
   try simp only[lt]
   refine wpAnyH_done (by kernel_rfl) ?_ _;exact HQ.out _ _ _ _ _ _ _ H3.out
 ·go_simp
  refine hK.out _ _ (bu.out _ ((bE.out.alloc _).drew)) (λhH=>?_);clear hK K
  try simp only[lt]
  refine kW (i:=0) (j:=2) rfl rfl (λK hK=>?_) (λK hK=>?_)
  ·go_simp
   refine hK.out _ _ (bu.out _ (((bE.out.alloc _).alloc _).drew)) (λhH=>?_);clear hK K
   try simp only[lt]
   refine aw (i:=2) rfl (λK hK=>?_);go_simp;refine hK.out _ _ (bu.out _ (((bE.out.alloc _).alloc _).drew)) (λhH=>?_);clear hK K
   try simp only[lt]
   refine tk (i:=4) HP rfl rfl hH ?_
   try simp only[lt]
   refine aw (i:=5) rfl (λK hK=>?_);refine bW Du ?_;refine hK.out _ _ (bu.out _ (HF.out.2.2.2.2.1)) (λhH=>?_);clear hK K
   try simp only[lt]
   refine aw (i:=14) rfl (λK hK=>?_);refine bW Dv ?_;refine hK.out _ _ (bu.out _ (HF.out.2.2.2.2.2)) (λhH=>?_);clear hK K
   try simp only[lt]
   refine aw (i:=16) rfl (λK hK=>?_);refine bW Dw ?_;refine hK.out _ _ (bu.out _ (H3.out.frm)) (λhH=>?_);clear hK K
   try simp only[lt]
   refine tk (i:=17) HP rfl rfl hH ?_
   try simp only[lt]
   refine aw (i:=18) rfl (λK hK=>?_);go_simp;refine hK.out _ _ (HST.out _ _ _ hH) (λhH=>?_);clear hK K
   try simp only[lt]
   refine wpAnyH_done (by kernel_rfl) ?_ _;exact HQ.out _ _ _ _ _ _ _ H3.out
  ·go_simp
   refine hK.out _ _ (bu.out _ ((bE.out.alloc _).drew)) (λhH=>?_);clear hK K
   try simp only[lt]
   refine tk (i:=4) HP rfl rfl hH ?_
   try simp only[lt]
   refine aw (i:=0) rfl (λK hK=>?_);go_simp;refine hK.out _ _ (bu.out _ (((bE.out.alloc _).alloc _).drew)) (λhH=>?_);clear hK K
   try simp only[lt]
   refine aw (i:=5) rfl (λK hK=>?_);refine bW Du ?_;refine hK.out _ _ (bu.out _ (HF.out.2.2.2.2.1)) (λhH=>?_);clear hK K
   try simp only[lt]
   refine aw (i:=14) rfl (λK hK=>?_);refine bW Dv ?_;refine hK.out _ _ (bu.out _ (HF.out.2.2.2.2.2)) (λhH=>?_);clear hK K
   try simp only[lt]
   refine aw (i:=16) rfl (λK hK=>?_);refine bW Dw ?_;refine hK.out _ _ (bu.out _ (H3.out.frm)) (λhH=>?_);clear hK K
   try simp only[lt]
   refine tk (i:=17) HP rfl rfl hH ?_
   try simp only[lt]
   refine aw (i:=18) rfl (λK hK=>?_);go_simp;refine hK.out _ _ (HST.out _ _ _ hH) (λhH=>?_);clear hK K
   try simp only[lt]
   refine wpAnyH_done (by kernel_rfl) ?_ _;exact HQ.out _ _ _ _ _ _ _ H3.out
theorem MP{a b n':Int}{s t u:ByteArray}
  (hb:aj wa bs 36 cs) (hcs:cs[2]? =some (U A n c)) (he:aj wa (bs+1) 42 #[I J 3,I J a,I J b,I J n',V s,V t,V u]) (hk:k≤n) (zw:n≤c) (hcm:c≤maxLen)
  (Dr:∀ty,(Builtin.append_ #[32,32] ty #[U (some ⟨wa.heap.size,0,none⟩) 0 0,U A k c]).run pQ ((wa.alloc (.cells #[] 64)).alloc (.cells #[I J a,I J b,V s,V t] 64)).drew=.ok v11 zQ)
  (Ds:∀ty,(Builtin.append_ #[32,32] ty #[v11,U (some ⟨wa.heap.size+1,0,none⟩) 1 1]).run pQ zQ=.ok v12 zR)
  (Dt:∀ty,(Builtin.append_ #[32,32] ty #[v12,U rA (n-k) rc]).run pQ zR=.ok (U B1 (k+1+(n-k)) d1) Et)
  (h1:aI 64 4 wa Et (U B1 (k+1+(n-k)) d1) (k+1+(n-k)) rows) (f11:aa ag wa zQ) (f12:aa ag wa zR)
  (Ip:∀ty,(Builtin.append_ #[32,32] ty #[U (some ⟨wa.heap.size,0,none⟩) 0 0,U A k c]).run pQ (wa.alloc (.cells #[] 64)).drew=.ok v21 xc)
  (Iq:∀ty,(Builtin.append_ #[32,32] ty #[v21,U (some ⟨xc.heap.size,0,none⟩) 1 1]).run pQ (xc.alloc (.cells #[I J a,I J b,V s,V t] 64))=.ok v22 zS)
  (Ir:∀ty,(Builtin.append_ #[32,32] ty #[v22,U rA (n-k) rc]).run pQ zS=.ok (U B2 (k+1+(n-k)) d2) Eu)
  (h2:aI 64 4 wa Eu (U B2 (k+1+(n-k)) d2) (k+1+(n-k)) rows) (f21:aa ag wa xc) (f22:aa ag wa zS)
  (Du:∀ty,(Builtin.append_ #[32,32] ty #[U (some ⟨wa.heap.size+1,0,none⟩) 0 0,U A k c]).run pQ ((wa.alloc (.cells #[I J a,I J b,V s,V t] 64)).alloc (.cells #[] 64)).drew=.ok v31 zT)
  (Dv:∀ty,(Builtin.append_ #[32,32] ty #[v31,U (some ⟨wa.heap.size,0,none⟩) 1 1]).run pQ zT=.ok v32 zU)
  (Dw:∀ty,(Builtin.append_ #[32,32] ty #[v32,U rA (n-k) rc]).run pQ zU=.ok (U B3 (k+1+(n-k)) d3) Ew)
  (h3:aI 64 4 wa Ew (U B3 (k+1+(n-k)) d3) (k+1+(n-k)) rows) (f31:aa ag wa zT) (f32:aa ag wa zU)
 (hP:∀(e:_) (a:Act) (i:Nat) (v:Value) (w:World),Q (.panic e) (a.put (some i) v) w→Q (.panic e) a w) (hQ:∀(wc:World) (B:Option Addr) (d:Nat) (z0 z5 yf Bt:Value),aI 64 4 wa wc (U B (k+1+(n-k)) d) (k+1+(n-k)) rows→Q .normal ⟨#[u0,u1,O (some ⟨bs,0,none⟩),O (some ⟨bs+1,0,none⟩),u4,I J k,u6,U rA (n-k) rc,u8,u9,u10,u11,u12,u13,u14,u15,u16,cG,cH,cI,cR,cS,cT,u23,u24,cN,u26,dc,u28,dm,dp,dr,u32,u33,df,dg,u36,dt,u38,dB,dC,dO,dP,dQ,u44,u45,dI,dJ,dK,dL,dD,dE,dF,dR,dS,dT,dM,dG,dH,dw,dx,dy,dz,dA,u64,dh,di,dl,cU,cX,fA,fB,fF,fG,fw,iO,iP,iQ,jN,jO,jP,jQ,jR,jS,jT,jU,jJ,jK,z0,O (some ⟨bs,2,none⟩),U A n c,I J k,U A k c,z5,O (some ⟨bs+1,1,none⟩),I J a,O (some ⟨bs+1,2,none⟩),I J b,O (some ⟨bs+1,4,none⟩),V s,O (some ⟨bs+1,5,none⟩),V t,.agg #[I J a,I J b,V s,V t],yf,Bt,U rA (n-k) rc,U B (k+1+(n-k)) d,O (some ⟨bs,2,none⟩),ej,eo,ep,ew,ey,eA,eB,eC,eD,eF,eG,eH,eI,eJ,eK,eM,eO,eP,eQ,eU,eV,eW,eX,eY,eZ,fh,fj,fk,fl,fp,u138,fq,fV,fW,fX,fY,fZ,gb,gc,gg,gh,gS,gT,gU,gV,gW,gX,gY,gZ,g9,hZ,ie,ig,ii,jZ,j9,iW,iX,iY,iZ,i7,ja,jb,jc,jd,je,jf,jg,jh,ji,jk,jl,jm,jn,jo,jp,jq,jr,js,jt,ju,jw,jz,jA,jB,u193,jC,jD,ke,kg,u198,kh,ki,kj,km,ko,lG,lH,lI,lJ,lK,lL,lM,lN,lO,lQ,lh,li,lj,lm,lp,lq,lr],[]⟩ (wc.setCell ⟨bs,2,none⟩ (U B (k+1+(n-k)) d))):
  Code.wp pQ (aD (ap (ap (bH (ap (aT (ap (bM (ap (aD (ai 2 (ae Tryz.f31)))))))))))) Q ⟨#[u0,u1,O (some ⟨bs,0,none⟩),O (some ⟨bs+1,0,none⟩),u4,I J k,u6,U rA (n-k) rc,u8,u9,u10,u11,u12,u13,u14,u15,u16,cG,cH,cI,cR,cS,cT,u23,u24,cN,u26,dc,u28,dm,dp,dr,u32,u33,df,dg,u36,dt,u38,dB,dC,dO,dP,dQ,u44,u45,dI,dJ,dK,dL,dD,dE,dF,dR,dS,dT,dM,dG,dH,dw,dx,dy,dz,dA,u64,dh,di,dl,cU,cX,fA,fB,fF,fG,fw,iO,iP,iQ,jN,jO,jP,jQ,jR,jS,jT,jU,jJ,jK,jV,jW,jX,jY,kZ,k9,lc,nd,nT,nU,nV,nW,fH,fJ,fK,fM,fO,fP,fQ,fU,ej,eo,ep,ew,ey,eA,eB,eC,eD,eF,eG,eH,eI,eJ,eK,eM,eO,eP,eQ,eU,eV,eW,eX,eY,eZ,fh,fj,fk,fl,fp,u138,fq,fV,fW,fX,fY,fZ,gb,gc,gg,gh,gS,gT,gU,gV,gW,gX,gY,gZ,g9,hZ,ie,ig,ii,jZ,j9,iW,iX,iY,iZ,i7,ja,jb,jc,jd,je,jf,jg,jh,ji,jk,jl,jm,jn,jo,jp,jq,jr,js,jt,ju,jw,jz,jA,jB,u193,jC,jD,ke,kg,u198,kh,ki,kj,km,ko,lG,lH,lI,lJ,lK,lL,lM,lN,lO,lQ,lh,li,lj,lm,lp,lq,lr],[]⟩ wa:=by
 have HB:=h_ hb;have HE:=h_ he;have bu:Hid (∀W,aa ag wa W→W.cell? ⟨bs+1,1,none⟩=some (I J a)∧W.cell? ⟨bs+1,2,none⟩=some (I J b)∧W.cell? ⟨bs+1,4,none⟩=some (V s)∧W.cell? ⟨bs+1,5,none⟩=some (V t)):=λW hW=>⟨((he.frm hW id).cell 1).trans rfl,((he.frm hW id).cell 2).trans rfl,((he.frm hW id).cell 4).trans rfl,((he.frm hW id).cell 5).trans rfl⟩
 have cx:∀{W:World},aa ag wa W→W.cell? ⟨bs,2,none⟩=some (U A n c):=λhW=>((hb.frm hW id).cell 2).trans hcs
 have cf:∀{W:World},aa ag wa W→W.frozen? ⟨bs,2,none⟩=false:=λhW=>(hb.frm hW id).frozen 2
 have HST:Hid (∀(W:World) (B:Option Addr) (d:Nat),(W.cell? ⟨bs+1,1,none⟩=some (I J a)∧W.cell? ⟨bs+1,2,none⟩=some (I J b)∧W.cell? ⟨bs+1,4,none⟩=some (V s)∧W.cell? ⟨bs+1,5,none⟩=some (V t))→(λW:World=>W.cell? ⟨bs+1,1,none⟩=some (I J a)∧W.cell? ⟨bs+1,2,none⟩=some (I J b)∧W.cell? ⟨bs+1,4,none⟩=some (V s)∧W.cell? ⟨bs+1,5,none⟩=some (V t)) (W.setCell ⟨bs,2,none⟩ (U B (k+1+(n-k)) d))):=by
  rintro W B d ⟨q1,q2,q4,q5⟩;exact⟨(World.cell?_setCell_far _ _ _ _ (by simp)).trans q1,(World.cell?_setCell_far _ _ _ _ (by simp)).trans q2,(World.cell?_setCell_far _ _ _ _ (by simp)).trans q4,(World.cell?_setCell_far _ _ _ _ (by simp)).trans q5⟩
 have R0:=fR wa;obtain⟨e1,e2,e4,e5⟩:=bu.out wa R0;have p1:=cx R0;have p2:=cx (R0.alloc (.cells #[] 64));have p3:=cx (R0.alloc (.cells #[I J a,I J b,V s,V t] 64));have p4:=cx ((R0.alloc (.cells #[] 64)).alloc (.cells #[I J a,I J b,V s,V t] 64));have p5:=cx ((R0.alloc (.cells #[I J a,I J b,V s,V t] 64)).alloc (.cells #[] 64));have PP:=cx h1.frm;have Rj:=cx h2.frm;have Rk:=cx h3.frm;have PQ:=cf h1.frm;have Rl:=cf h2.frm;have sf3:=cf h3.frm;have FB:(0:Int)≤(k:Int):=Int.natCast_nonneg _;have FC:(k:Int)≤(c:Int):=by omega
 have FD:(k:Int)≤(n:Int):=by omega
 have HQ:=h_ hQ;have HP:=h_ hP;have H1:=h_ h1;have H2:=h_ h2;have H3:=h_ h3;have bE:=h_ R0;have HF:=h_ (And.intro f11 (And.intro f12 (And.intro f21 (And.intro f22 (And.intro f31 f32)))));clear hb he hcs cx cf R0 h1 h2 h3 f11 f12 f21 f22 f31 f32 hQ hP;simp only[aD,ap,bH,aT,bM,ai,ae,Tryz.f31];refine wp_region_held_drew (S:=λW=>W.cell? ⟨bs+1,1,none⟩=some (I J a)∧W.cell? ⟨bs+1,2,none⟩=some (I J b)∧W.cell? ⟨bs+1,4,none⟩=some (V s)∧W.cell? ⟨bs+1,5,none⟩=some (V t)) (by kernel_rfl) (bu.out _ bE.out.drew) λhH=>?_
 refine tk (i:=1) HP rfl rfl hH ?_
 try simp only[lt]
 refine tk (i:=3) HP rfl rfl hH ?_
 try simp only[lt]
 refine tk (i:=6) HP rfl rfl hH ?_
 try simp only[lt]
 refine tk (i:=7) HP rfl rfl hH ?_
 try simp only[lt]
 refine tk (i:=8) HP rfl rfl hH ?_
 try simp only[lt]
 refine tk (i:=9) HP rfl rfl hH ?_
 try simp only[lt]
 refine tk (i:=10) HP rfl rfl hH ?_
 try simp only[lt]
 refine tk (i:=11) HP rfl rfl hH ?_
 try simp only[lt]
 refine tk (i:=12) HP rfl rfl hH ?_
 try simp only[lt]
 refine tk (i:=13) HP rfl rfl hH ?_
 try simp only[lt]
 refine tk (i:=14) HP rfl rfl hH ?_
 try simp only[lt]
 refine tk (i:=17) HP rfl rfl hH ?_
 try simp only[lt]
 refine E5 (i:=0) (j:=2) (k:=15) rfl rfl rfl (λK hK=>?_) (λK hK=>?_) (λK hK=>?_)
 ·go_simp
  refine hK.out _ _ (bu.out _ ((bE.out.alloc _).drew)) (λhH=>?_);clear hK K
  try simp only[lt]
  refine kW (i:=2) (j:=15) rfl rfl (λK hK=>?_) (λK hK=>?_)
  ·go_simp
   refine hK.out _ _ (bu.out _ ((bE.out.alloc _).drew)) (λhH=>?_);clear hK K
   try simp only[lt]
   refine tk (i:=4) HP rfl rfl hH ?_
   try simp only[lt]
   refine kW (i:=5) (j:=15) rfl rfl (λK hK=>?_) (λK hK=>?_)
   ·refine bW Ip ?_
    refine hK.out _ _ (bu.out _ (HF.out.2.2.1)) (λhH=>?_);clear hK K
    try simp only[lt]
    refine aw (i:=15) rfl (λK hK=>?_);go_simp;refine hK.out _ _ (bu.out _ (HF.out.2.2.1.alloc _)) (λhH=>?_);clear hK K
    try simp only[lt]
    refine aw (i:=16) rfl (λK hK=>?_);refine bW Iq ?_;refine hK.out _ _ (bu.out _ (HF.out.2.2.2.1)) (λhH=>?_);clear hK K
    try simp only[lt]
    refine aw (i:=18) rfl (λK hK=>?_);refine bW Ir ?_;refine hK.out _ _ (bu.out _ (H2.out.frm)) (λhH=>?_);clear hK K
    try simp only[lt]
    refine tk (i:=19) HP rfl rfl hH ?_
    try simp only[lt]
    refine aw (i:=20) rfl (λK hK=>?_);go_simp;refine hK.out _ _ (HST.out _ _ _ hH) (λhH=>?_);clear hK K
    try simp only[lt]
    refine wpAnyH_done (by kernel_rfl) ?_ _;exact HQ.out _ _ _ _ _ _ _ H2.out
   ·go_simp
    refine hK.out _ _ (bu.out _ (((bE.out.alloc _).alloc _).drew)) (λhH=>?_);clear hK K
    try simp only[lt]
    refine aw (i:=5) rfl (λK hK=>?_);refine bW Dr ?_;refine hK.out _ _ (bu.out _ (HF.out.1)) (λhH=>?_);clear hK K
    try simp only[lt]
    refine aw (i:=16) rfl (λK hK=>?_);refine bW Ds ?_;refine hK.out _ _ (bu.out _ (HF.out.2.1)) (λhH=>?_);clear hK K
    try simp only[lt]
    refine aw (i:=18) rfl (λK hK=>?_);refine bW Dt ?_;refine hK.out _ _ (bu.out _ (H1.out.frm)) (λhH=>?_);clear hK K
    try simp only[lt]
    refine tk (i:=19) HP rfl rfl hH ?_
    try simp only[lt]
    refine aw (i:=20) rfl (λK hK=>?_);go_simp;refine hK.out _ _ (HST.out _ _ _ hH) (λhH=>?_);clear hK K
    try simp only[lt]
    refine wpAnyH_done (by kernel_rfl) ?_ _;exact HQ.out _ _ _ _ _ _ _ H1.out
  ·go_simp
   refine hK.out _ _ (bu.out _ (((bE.out.alloc _).alloc _).drew)) (λhH=>?_);clear hK K
   try simp only[lt]
   refine aw (i:=2) rfl (λK hK=>?_);go_simp;refine hK.out _ _ (bu.out _ (((bE.out.alloc _).alloc _).drew)) (λhH=>?_);clear hK K
   try simp only[lt]
   refine tk (i:=4) HP rfl rfl hH ?_
   try simp only[lt]
   refine aw (i:=5) rfl (λK hK=>?_);refine bW Dr ?_;refine hK.out _ _ (bu.out _ (HF.out.1)) (λhH=>?_);clear hK K
   try simp only[lt]
   refine aw (i:=16) rfl (λK hK=>?_);refine bW Ds ?_;refine hK.out _ _ (bu.out _ (HF.out.2.1)) (λhH=>?_);clear hK K
   try simp only[lt]
   refine aw (i:=18) rfl (λK hK=>?_);refine bW Dt ?_;refine hK.out _ _ (bu.out _ (H1.out.frm)) (λhH=>?_);clear hK K
   try simp only[lt]
   refine tk (i:=19) HP rfl rfl hH ?_
   try simp only[lt]
   refine aw (i:=20) rfl (λK hK=>?_);go_simp;refine hK.out _ _ (HST.out _ _ _ hH) (λhH=>?_);clear hK K
   try simp only[lt]
   refine wpAnyH_done (by kernel_rfl) ?_ _;exact HQ.out _ _ _ _ _ _ _ H1.out
 ·go_simp
  refine hK.out _ _ (bu.out _ ((bE.out).drew)) (λhH=>?_);clear hK K
  try simp only[lt]
  refine tk (i:=4) HP rfl rfl hH ?_
  try simp only[lt]
  refine kW (i:=0) (j:=15) rfl rfl (λK hK=>?_) (λK hK=>?_)
  ·go_simp
   refine hK.out _ _ (bu.out _ ((bE.out.alloc _).drew)) (λhH=>?_);clear hK K
   try simp only[lt]
   refine kW (i:=5) (j:=15) rfl rfl (λK hK=>?_) (λK hK=>?_)
   ·refine bW Ip ?_
    refine hK.out _ _ (bu.out _ (HF.out.2.2.1)) (λhH=>?_);clear hK K
    try simp only[lt]
    refine aw (i:=15) rfl (λK hK=>?_);go_simp;refine hK.out _ _ (bu.out _ (HF.out.2.2.1.alloc _)) (λhH=>?_);clear hK K
    try simp only[lt]
    refine aw (i:=16) rfl (λK hK=>?_);refine bW Iq ?_;refine hK.out _ _ (bu.out _ (HF.out.2.2.2.1)) (λhH=>?_);clear hK K
    try simp only[lt]
    refine aw (i:=18) rfl (λK hK=>?_);refine bW Ir ?_;refine hK.out _ _ (bu.out _ (H2.out.frm)) (λhH=>?_);clear hK K
    try simp only[lt]
    refine tk (i:=19) HP rfl rfl hH ?_
    try simp only[lt]
    refine aw (i:=20) rfl (λK hK=>?_);go_simp;refine hK.out _ _ (HST.out _ _ _ hH) (λhH=>?_);clear hK K
    try simp only[lt]
    refine wpAnyH_done (by kernel_rfl) ?_ _;exact HQ.out _ _ _ _ _ _ _ H2.out
   ·go_simp
    refine hK.out _ _ (bu.out _ (((bE.out.alloc _).alloc _).drew)) (λhH=>?_);clear hK K
    try simp only[lt]
    refine aw (i:=5) rfl (λK hK=>?_);refine bW Dr ?_;refine hK.out _ _ (bu.out _ (HF.out.1)) (λhH=>?_);clear hK K
    try simp only[lt]
    refine aw (i:=16) rfl (λK hK=>?_);refine bW Ds ?_;refine hK.out _ _ (bu.out _ (HF.out.2.1)) (λhH=>?_);clear hK K
    try simp only[lt]
    refine aw (i:=18) rfl (λK hK=>?_);refine bW Dt ?_;refine hK.out _ _ (bu.out _ (H1.out.frm)) (λhH=>?_);clear hK K
    try simp only[lt]
    refine tk (i:=19) HP rfl rfl hH ?_
    try simp only[lt]
    refine aw (i:=20) rfl (λK hK=>?_);go_simp;refine hK.out _ _ (HST.out _ _ _ hH) (λhH=>?_);clear hK K
    try simp only[lt]
    refine wpAnyH_done (by kernel_rfl) ?_ _;exact HQ.out _ _ _ _ _ _ _ H1.out
  ·go_simp
   refine hK.out _ _ (bu.out _ ((bE.out.alloc _).drew)) (λhH=>?_);clear hK K
   try simp only[lt]
   refine aw (i:=0) rfl (λK hK=>?_);go_simp;refine hK.out _ _ (bu.out _ (((bE.out.alloc _).alloc _).drew)) (λhH=>?_);clear hK K
   try simp only[lt]
   refine aw (i:=5) rfl (λK hK=>?_);refine bW Du ?_;refine hK.out _ _ (bu.out _ (HF.out.2.2.2.2.1)) (λhH=>?_);clear hK K
   try simp only[lt]
   refine aw (i:=16) rfl (λK hK=>?_);refine bW Dv ?_;refine hK.out _ _ (bu.out _ (HF.out.2.2.2.2.2)) (λhH=>?_);clear hK K
   try simp only[lt]
   refine aw (i:=18) rfl (λK hK=>?_);refine bW Dw ?_;refine hK.out _ _ (bu.out _ (H3.out.frm)) (λhH=>?_);clear hK K
   try simp only[lt]
   refine tk (i:=19) HP rfl rfl hH ?_
   try simp only[lt]
   refine aw (i:=20) rfl (λK hK=>?_);go_simp;refine hK.out _ _ (HST.out _ _ _ hH) (λhH=>?_);clear hK K
   try simp only[lt]
   refine wpAnyH_done (by kernel_rfl) ?_ _;exact HQ.out _ _ _ _ _ _ _ H3.out
 ·go_simp
  refine hK.out _ _ (bu.out _ ((bE.out.alloc _).drew)) (λhH=>?_);clear hK K
  try simp only[lt]
  refine kW (i:=0) (j:=2) rfl rfl (λK hK=>?_) (λK hK=>?_)
  ·go_simp
   refine hK.out _ _ (bu.out _ (((bE.out.alloc _).alloc _).drew)) (λhH=>?_);clear hK K
   try simp only[lt]
   refine aw (i:=2) rfl (λK hK=>?_);go_simp;refine hK.out _ _ (bu.out _ (((bE.out.alloc _).alloc _).drew)) (λhH=>?_);clear hK K
   try simp only[lt]
   refine tk (i:=4) HP rfl rfl hH ?_
   try simp only[lt]
   refine aw (i:=5) rfl (λK hK=>?_);refine bW Du ?_;refine hK.out _ _ (bu.out _ (HF.out.2.2.2.2.1)) (λhH=>?_);clear hK K
   try simp only[lt]
   refine aw (i:=16) rfl (λK hK=>?_);refine bW Dv ?_;refine hK.out _ _ (bu.out _ (HF.out.2.2.2.2.2)) (λhH=>?_);clear hK K
   try simp only[lt]
   refine aw (i:=18) rfl (λK hK=>?_);refine bW Dw ?_;refine hK.out _ _ (bu.out _ (H3.out.frm)) (λhH=>?_);clear hK K
   try simp only[lt]
   refine tk (i:=19) HP rfl rfl hH ?_
   try simp only[lt]
   refine aw (i:=20) rfl (λK hK=>?_);go_simp;refine hK.out _ _ (HST.out _ _ _ hH) (λhH=>?_);clear hK K
   try simp only[lt]
   refine wpAnyH_done (by kernel_rfl) ?_ _;exact HQ.out _ _ _ _ _ _ _ H3.out
  ·go_simp
   refine hK.out _ _ (bu.out _ ((bE.out.alloc _).drew)) (λhH=>?_);clear hK K
   try simp only[lt]
   refine tk (i:=4) HP rfl rfl hH ?_
   try simp only[lt]
   refine aw (i:=0) rfl (λK hK=>?_);go_simp;refine hK.out _ _ (bu.out _ (((bE.out.alloc _).alloc _).drew)) (λhH=>?_);clear hK K
   try simp only[lt]
   refine aw (i:=5) rfl (λK hK=>?_);refine bW Du ?_;refine hK.out _ _ (bu.out _ (HF.out.2.2.2.2.1)) (λhH=>?_);clear hK K
   try simp only[lt]
   refine aw (i:=16) rfl (λK hK=>?_);refine bW Dv ?_;refine hK.out _ _ (bu.out _ (HF.out.2.2.2.2.2)) (λhH=>?_);clear hK K
   try simp only[lt]
   refine aw (i:=18) rfl (λK hK=>?_);refine bW Dw ?_;refine hK.out _ _ (bu.out _ (H3.out.frm)) (λhH=>?_);clear hK K
   try simp only[lt]
   refine tk (i:=19) HP rfl rfl hH ?_
   try simp only[lt]
   refine aw (i:=20) rfl (λK hK=>?_);go_simp;refine hK.out _ _ (HST.out _ _ _ hH) (λhH=>?_);clear hK K
   try simp only[lt]
   refine wpAnyH_done (by kernel_rfl) ?_ _;exact HQ.out _ _ _ _ _ _ _ H3.out
theorem MQ{a b n':Int}{s t u:ByteArray}
  (hb:aj wa bs 36 cs) (hcs:cs[3]? =some (U A n c)) (he:aj wa (bs+1) 42 #[I J 7,I J a,I J b,I J n',V s,V t,V u]) (hk:k≤n) (zw:n≤c) (hcm:c≤maxLen)
  (Dr:∀ty,(Builtin.append_ #[33,33] ty #[U (some ⟨wa.heap.size,0,none⟩) 0 0,U A k c]).run pQ ((wa.alloc (.cells #[] 82)).alloc (.cells #[I J a,I J b,I J n',V s,V t,V u,.bool false,.bool false,U none 0 0] 82)).drew=.ok v11 zQ)
  (Ds:∀ty,(Builtin.append_ #[33,33] ty #[v11,U (some ⟨wa.heap.size+1,0,none⟩) 1 1]).run pQ zQ=.ok v12 zR)
  (Dt:∀ty,(Builtin.append_ #[33,33] ty #[v12,U rA (n-k) rc]).run pQ zR=.ok (U B1 (k+1+(n-k)) d1) Et)
  (h1:aI 82 9 wa Et (U B1 (k+1+(n-k)) d1) (k+1+(n-k)) rows) (f11:aa ag wa zQ) (f12:aa ag wa zR)
  (Ip:∀ty,(Builtin.append_ #[33,33] ty #[U (some ⟨wa.heap.size,0,none⟩) 0 0,U A k c]).run pQ (wa.alloc (.cells #[] 82)).drew=.ok v21 xc)
  (Iq:∀ty,(Builtin.append_ #[33,33] ty #[v21,U (some ⟨xc.heap.size,0,none⟩) 1 1]).run pQ (xc.alloc (.cells #[I J a,I J b,I J n',V s,V t,V u,.bool false,.bool false,U none 0 0] 82))=.ok v22 zS)
  (Ir:∀ty,(Builtin.append_ #[33,33] ty #[v22,U rA (n-k) rc]).run pQ zS=.ok (U B2 (k+1+(n-k)) d2) Eu)
  (h2:aI 82 9 wa Eu (U B2 (k+1+(n-k)) d2) (k+1+(n-k)) rows) (f21:aa ag wa xc) (f22:aa ag wa zS)
  (Du:∀ty,(Builtin.append_ #[33,33] ty #[U (some ⟨wa.heap.size+1,0,none⟩) 0 0,U A k c]).run pQ ((wa.alloc (.cells #[I J a,I J b,I J n',V s,V t,V u,.bool false,.bool false,U none 0 0] 82)).alloc (.cells #[] 82)).drew=.ok v31 zT)
  (Dv:∀ty,(Builtin.append_ #[33,33] ty #[v31,U (some ⟨wa.heap.size,0,none⟩) 1 1]).run pQ zT=.ok v32 zU)
  (Dw:∀ty,(Builtin.append_ #[33,33] ty #[v32,U rA (n-k) rc]).run pQ zU=.ok (U B3 (k+1+(n-k)) d3) Ew)
  (h3:aI 82 9 wa Ew (U B3 (k+1+(n-k)) d3) (k+1+(n-k)) rows) (f31:aa ag wa zT) (f32:aa ag wa zU)
 (hP:∀(e:_) (a:Act) (i:Nat) (v:Value) (w:World),Q (.panic e) (a.put (some i) v) w→Q (.panic e) a w) (hQ:∀(wc:World) (B:Option Addr) (d:Nat) (z0 z5 yf Bt:Value),aI 82 9 wa wc (U B (k+1+(n-k)) d) (k+1+(n-k)) rows→Q .normal ⟨#[u0,u1,O (some ⟨bs,0,none⟩),O (some ⟨bs+1,0,none⟩),u4,I J k,u6,u7,U rA (n-k) rc,u9,u10,u11,u12,u13,u14,u15,u16,cG,cH,cI,cR,cS,cT,u23,u24,cN,u26,dc,u28,dm,dp,dr,u32,u33,df,dg,u36,dt,u38,dB,dC,dO,dP,dQ,u44,u45,dI,dJ,dK,dL,dD,dE,dF,dR,dS,dT,dM,dG,dH,dw,dx,dy,dz,dA,u64,dh,di,dl,cU,cX,fA,fB,fF,fG,fw,iO,iP,iQ,jN,jO,jP,jQ,jR,jS,jT,jU,jJ,jK,jV,jW,jX,jY,kZ,k9,lc,nd,nT,nU,nV,nW,fH,fJ,fK,fM,fO,fP,fQ,fU,ej,eo,ep,ew,ey,eA,eB,eC,eD,eF,eG,eH,eI,eJ,eK,eM,eO,eP,eQ,eU,eV,eW,eX,eY,eZ,fh,fj,fk,fl,fp,u138,fq,z0,O (some ⟨bs,3,none⟩),U A n c,I J k,U A k c,z5,O (some ⟨bs+1,1,none⟩),I J a,O (some ⟨bs+1,2,none⟩),I J b,O (some ⟨bs+1,3,none⟩),I J n',O (some ⟨bs+1,4,none⟩),V s,O (some ⟨bs+1,5,none⟩),V t,O (some ⟨bs+1,6,none⟩),V u,.agg #[I J a,I J b,I J n',V s,V t,V u,.bool false,.bool false,U none 0 0],yf,Bt,U rA (n-k) rc,U B (k+1+(n-k)) d,O (some ⟨bs,3,none⟩),iW,iX,iY,iZ,i7,ja,jb,jc,jd,je,jf,jg,jh,ji,jk,jl,jm,jn,jo,jp,jq,jr,js,jt,ju,jw,jz,jA,jB,u193,jC,jD,ke,kg,u198,kh,ki,kj,km,ko,lG,lH,lI,lJ,lK,lL,lM,lN,lO,lQ,lh,li,lj,lm,lp,lq,lr],[]⟩ (wc.setCell ⟨bs,3,none⟩ (U B (k+1+(n-k)) d))):
  Code.wp pQ (aD (ap (ap (bH (ap (aT (ap (aT (ap (bM (ap (aD (ai 2 (ae Tryz.f31)))))))))))))) Q ⟨#[u0,u1,O (some ⟨bs,0,none⟩),O (some ⟨bs+1,0,none⟩),u4,I J k,u6,u7,U rA (n-k) rc,u9,u10,u11,u12,u13,u14,u15,u16,cG,cH,cI,cR,cS,cT,u23,u24,cN,u26,dc,u28,dm,dp,dr,u32,u33,df,dg,u36,dt,u38,dB,dC,dO,dP,dQ,u44,u45,dI,dJ,dK,dL,dD,dE,dF,dR,dS,dT,dM,dG,dH,dw,dx,dy,dz,dA,u64,dh,di,dl,cU,cX,fA,fB,fF,fG,fw,iO,iP,iQ,jN,jO,jP,jQ,jR,jS,jT,jU,jJ,jK,jV,jW,jX,jY,kZ,k9,lc,nd,nT,nU,nV,nW,fH,fJ,fK,fM,fO,fP,fQ,fU,ej,eo,ep,ew,ey,eA,eB,eC,eD,eF,eG,eH,eI,eJ,eK,eM,eO,eP,eQ,eU,eV,eW,eX,eY,eZ,fh,fj,fk,fl,fp,u138,fq,fV,fW,fX,fY,fZ,gb,gc,gg,gh,gS,gT,gU,gV,gW,gX,gY,gZ,g9,hZ,ie,ig,ii,jZ,j9,iW,iX,iY,iZ,i7,ja,jb,jc,jd,je,jf,jg,jh,ji,jk,jl,jm,jn,jo,jp,jq,jr,js,jt,ju,jw,jz,jA,jB,u193,jC,jD,ke,kg,u198,kh,ki,kj,km,ko,lG,lH,lI,lJ,lK,lL,lM,lN,lO,lQ,lh,li,lj,lm,lp,lq,lr],[]⟩ wa:=by
 have HB:=h_ hb;have HE:=h_ he;have bu:Hid (∀W,aa ag wa W→W.cell? ⟨bs+1,1,none⟩=some (I J a)∧W.cell? ⟨bs+1,2,none⟩=some (I J b)∧W.cell? ⟨bs+1,3,none⟩=some (I J n')∧W.cell? ⟨bs+1,4,none⟩=some (V s)∧W.cell? ⟨bs+1,5,none⟩=some (V t)∧W.cell? ⟨bs+1,6,none⟩=some (V u)):=λW hW=>⟨((he.frm hW id).cell 1).trans rfl,((he.frm hW id).cell 2).trans rfl,((he.frm hW id).cell 3).trans rfl,((he.frm hW id).cell 4).trans rfl,((he.frm hW id).cell 5).trans rfl,((he.frm hW id).cell 6).trans rfl⟩
 have cx:∀{W:World},aa ag wa W→W.cell? ⟨bs,3,none⟩=some (U A n c):=λhW=>((hb.frm hW id).cell 3).trans hcs
 have cf:∀{W:World},aa ag wa W→W.frozen? ⟨bs,3,none⟩=false:=λhW=>(hb.frm hW id).frozen 3
 have HST:Hid (∀(W:World) (B:Option Addr) (d:Nat),(W.cell? ⟨bs+1,1,none⟩=some (I J a)∧W.cell? ⟨bs+1,2,none⟩=some (I J b)∧W.cell? ⟨bs+1,3,none⟩=some (I J n')∧W.cell? ⟨bs+1,4,none⟩=some (V s)∧W.cell? ⟨bs+1,5,none⟩=some (V t)∧W.cell? ⟨bs+1,6,none⟩=some (V u))→(λW:World=>W.cell? ⟨bs+1,1,none⟩=some (I J a)∧W.cell? ⟨bs+1,2,none⟩=some (I J b)∧W.cell? ⟨bs+1,3,none⟩=some (I J n')∧W.cell? ⟨bs+1,4,none⟩=some (V s)∧W.cell? ⟨bs+1,5,none⟩=some (V t)∧W.cell? ⟨bs+1,6,none⟩=some (V u)) (W.setCell ⟨bs,3,none⟩ (U B (k+1+(n-k)) d))):=by
  rintro W B d ⟨q1,q2,q3,q4,q5,q6⟩;exact⟨(World.cell?_setCell_far _ _ _ _ (by simp)).trans q1,(World.cell?_setCell_far _ _ _ _ (by simp)).trans q2,(World.cell?_setCell_far _ _ _ _ (by simp)).trans q3,(World.cell?_setCell_far _ _ _ _ (by simp)).trans q4,(World.cell?_setCell_far _ _ _ _ (by simp)).trans q5,(World.cell?_setCell_far _ _ _ _ (by simp)).trans q6⟩
 have R0:=fR wa;obtain⟨e1,e2,e3,e4,e5,e6⟩:=bu.out wa R0;have p1:=cx R0;have p2:=cx (R0.alloc (.cells #[] 82));have p3:=cx (R0.alloc (.cells #[I J a,I J b,I J n',V s,V t,V u,.bool false,.bool false,U none 0 0] 82));have p4:=cx ((R0.alloc (.cells #[] 82)).alloc (.cells #[I J a,I J b,I J n',V s,V t,V u,.bool false,.bool false,U none 0 0] 82));have p5:=cx ((R0.alloc (.cells #[I J a,I J b,I J n',V s,V t,V u,.bool false,.bool false,U none 0 0] 82)).alloc (.cells #[] 82));have PP:=cx h1.frm;have Rj:=cx h2.frm;have Rk:=cx h3.frm;have PQ:=cf h1.frm;have Rl:=cf h2.frm;have sf3:=cf h3.frm;have FB:(0:Int)≤(k:Int):=Int.natCast_nonneg _;have FC:(k:Int)≤(c:Int):=by omega
 have FD:(k:Int)≤(n:Int):=by omega
 have HQ:=h_ hQ;have HP:=h_ hP;have H1:=h_ h1;have H2:=h_ h2;have H3:=h_ h3;have bE:=h_ R0;have HF:=h_ (And.intro f11 (And.intro f12 (And.intro f21 (And.intro f22 (And.intro f31 f32)))));clear hb he hcs cx cf R0 h1 h2 h3 f11 f12 f21 f22 f31 f32 hQ hP;simp only[aD,ap,bH,aT,bM,ai,ae,Tryz.f31];refine wp_region_held_drew (S:=λW=>W.cell? ⟨bs+1,1,none⟩=some (I J a)∧W.cell? ⟨bs+1,2,none⟩=some (I J b)∧W.cell? ⟨bs+1,3,none⟩=some (I J n')∧W.cell? ⟨bs+1,4,none⟩=some (V s)∧W.cell? ⟨bs+1,5,none⟩=some (V t)∧W.cell? ⟨bs+1,6,none⟩=some (V u)) (by kernel_rfl) (bu.out _ bE.out.drew) λhH=>?_
 refine tk (i:=1) HP rfl rfl hH ?_
 try simp only[lt]
 refine tk (i:=3) HP rfl rfl hH ?_
 try simp only[lt]
 refine tk (i:=6) HP rfl rfl hH ?_
 try simp only[lt]
 refine tk (i:=7) HP rfl rfl hH ?_
 try simp only[lt]
 refine tk (i:=8) HP rfl rfl hH ?_
 try simp only[lt]
 refine tk (i:=9) HP rfl rfl hH ?_
 try simp only[lt]
 refine tk (i:=10) HP rfl rfl hH ?_
 try simp only[lt]
 refine tk (i:=11) HP rfl rfl hH ?_
 try simp only[lt]
 refine tk (i:=12) HP rfl rfl hH ?_
 try simp only[lt]
 refine tk (i:=13) HP rfl rfl hH ?_
 try simp only[lt]
 refine tk (i:=14) HP rfl rfl hH ?_
 try simp only[lt]
 refine tk (i:=15) HP rfl rfl hH ?_
 try simp only[lt]
 refine tk (i:=16) HP rfl rfl hH ?_
 try simp only[lt]
 refine tk (i:=17) HP rfl rfl hH ?_
 try simp only[lt]
 refine tk (i:=18) HP rfl rfl hH ?_
 try simp only[lt]
 refine tk (i:=21) HP rfl rfl hH ?_
 try simp only[lt]
 refine E5 (i:=0) (j:=2) (k:=19) rfl rfl rfl (λK hK=>?_) (λK hK=>?_) (λK hK=>?_)
 ·go_simp
  refine hK.out _ _ (bu.out _ ((bE.out.alloc _).drew)) (λhH=>?_);clear hK K
  try simp only[lt]
  refine kW (i:=2) (j:=19) rfl rfl (λK hK=>?_) (λK hK=>?_)
  ·go_simp
   refine hK.out _ _ (bu.out _ ((bE.out.alloc _).drew)) (λhH=>?_);clear hK K
   try simp only[lt]
   refine tk (i:=4) HP rfl rfl hH ?_
   try simp only[lt]
   refine kW (i:=5) (j:=19) rfl rfl (λK hK=>?_) (λK hK=>?_)
   ·refine bW Ip ?_
    refine hK.out _ _ (bu.out _ (HF.out.2.2.1)) (λhH=>?_);clear hK K
    try simp only[lt]
    refine aw (i:=19) rfl (λK hK=>?_);go_simp;refine hK.out _ _ (bu.out _ (HF.out.2.2.1.alloc _)) (λhH=>?_);clear hK K
    try simp only[lt]
    refine aw (i:=20) rfl (λK hK=>?_);refine bW Iq ?_;refine hK.out _ _ (bu.out _ (HF.out.2.2.2.1)) (λhH=>?_);clear hK K
    try simp only[lt]
    refine aw (i:=22) rfl (λK hK=>?_);refine bW Ir ?_;refine hK.out _ _ (bu.out _ (H2.out.frm)) (λhH=>?_);clear hK K
    try simp only[lt]
    refine tk (i:=23) HP rfl rfl hH ?_
    try simp only[lt]
    refine aw (i:=24) rfl (λK hK=>?_);go_simp;refine hK.out _ _ (HST.out _ _ _ hH) (λhH=>?_);clear hK K
    try simp only[lt]
    refine wpAnyH_done (by kernel_rfl) ?_ _;exact HQ.out _ _ _ _ _ _ _ H2.out
   ·go_simp
    refine hK.out _ _ (bu.out _ (((bE.out.alloc _).alloc _).drew)) (λhH=>?_);clear hK K
    try simp only[lt]
    refine aw (i:=5) rfl (λK hK=>?_);refine bW Dr ?_;refine hK.out _ _ (bu.out _ (HF.out.1)) (λhH=>?_);clear hK K
    try simp only[lt]
    refine aw (i:=20) rfl (λK hK=>?_);refine bW Ds ?_;refine hK.out _ _ (bu.out _ (HF.out.2.1)) (λhH=>?_);clear hK K
    try simp only[lt]
    refine aw (i:=22) rfl (λK hK=>?_);refine bW Dt ?_;refine hK.out _ _ (bu.out _ (H1.out.frm)) (λhH=>?_);clear hK K
    try simp only[lt]
    refine tk (i:=23) HP rfl rfl hH ?_
    try simp only[lt]
    refine aw (i:=24) rfl (λK hK=>?_);go_simp;refine hK.out _ _ (HST.out _ _ _ hH) (λhH=>?_);clear hK K
    try simp only[lt]
    refine wpAnyH_done (by kernel_rfl) ?_ _;exact HQ.out _ _ _ _ _ _ _ H1.out
  ·go_simp
   refine hK.out _ _ (bu.out _ (((bE.out.alloc _).alloc _).drew)) (λhH=>?_);clear hK K
   try simp only[lt]
   refine aw (i:=2) rfl (λK hK=>?_);go_simp;refine hK.out _ _ (bu.out _ (((bE.out.alloc _).alloc _).drew)) (λhH=>?_);clear hK K
   try simp only[lt]
   refine tk (i:=4) HP rfl rfl hH ?_
   try simp only[lt]
   refine aw (i:=5) rfl (λK hK=>?_);refine bW Dr ?_;refine hK.out _ _ (bu.out _ (HF.out.1)) (λhH=>?_);clear hK K
   try simp only[lt]
   refine aw (i:=20) rfl (λK hK=>?_);refine bW Ds ?_;refine hK.out _ _ (bu.out _ (HF.out.2.1)) (λhH=>?_);clear hK K
   try simp only[lt]
   refine aw (i:=22) rfl (λK hK=>?_);refine bW Dt ?_;refine hK.out _ _ (bu.out _ (H1.out.frm)) (λhH=>?_);clear hK K
   try simp only[lt]
   refine tk (i:=23) HP rfl rfl hH ?_
   try simp only[lt]
   refine aw (i:=24) rfl (λK hK=>?_);go_simp;refine hK.out _ _ (HST.out _ _ _ hH) (λhH=>?_);clear hK K
   try simp only[lt]
   refine wpAnyH_done (by kernel_rfl) ?_ _;exact HQ.out _ _ _ _ _ _ _ H1.out
 ·go_simp
  refine hK.out _ _ (bu.out _ ((bE.out).drew)) (λhH=>?_);clear hK K
  try simp only[lt]
  refine tk (i:=4) HP rfl rfl hH ?_
  try simp only[lt]
  refine kW (i:=0) (j:=19) rfl rfl (λK hK=>?_) (λK hK=>?_)
  ·go_simp
   refine hK.out _ _ (bu.out _ ((bE.out.alloc _).drew)) (λhH=>?_);clear hK K
   try simp only[lt]
   refine kW (i:=5) (j:=19) rfl rfl (λK hK=>?_) (λK hK=>?_)
   ·refine bW Ip ?_
    refine hK.out _ _ (bu.out _ (HF.out.2.2.1)) (λhH=>?_);clear hK K
    try simp only[lt]
    refine aw (i:=19) rfl (λK hK=>?_);go_simp;refine hK.out _ _ (bu.out _ (HF.out.2.2.1.alloc _)) (λhH=>?_);clear hK K
    try simp only[lt]
    refine aw (i:=20) rfl (λK hK=>?_);refine bW Iq ?_;refine hK.out _ _ (bu.out _ (HF.out.2.2.2.1)) (λhH=>?_);clear hK K
    try simp only[lt]
    refine aw (i:=22) rfl (λK hK=>?_);refine bW Ir ?_;refine hK.out _ _ (bu.out _ (H2.out.frm)) (λhH=>?_);clear hK K
    try simp only[lt]
    refine tk (i:=23) HP rfl rfl hH ?_
    try simp only[lt]
    refine aw (i:=24) rfl (λK hK=>?_);go_simp;refine hK.out _ _ (HST.out _ _ _ hH) (λhH=>?_);clear hK K
    try simp only[lt]
    refine wpAnyH_done (by kernel_rfl) ?_ _;exact HQ.out _ _ _ _ _ _ _ H2.out
   ·go_simp
    refine hK.out _ _ (bu.out _ (((bE.out.alloc _).alloc _).drew)) (λhH=>?_);clear hK K
    try simp only[lt]
    refine aw (i:=5) rfl (λK hK=>?_);refine bW Dr ?_;refine hK.out _ _ (bu.out _ (HF.out.1)) (λhH=>?_);clear hK K
    try simp only[lt]
    refine aw (i:=20) rfl (λK hK=>?_);refine bW Ds ?_;refine hK.out _ _ (bu.out _ (HF.out.2.1)) (λhH=>?_);clear hK K
    try simp only[lt]
    refine aw (i:=22) rfl (λK hK=>?_);refine bW Dt ?_;refine hK.out _ _ (bu.out _ (H1.out.frm)) (λhH=>?_);clear hK K
    try simp only[lt]
    refine tk (i:=23) HP rfl rfl hH ?_
    try simp only[lt]
    refine aw (i:=24) rfl (λK hK=>?_);go_simp;refine hK.out _ _ (HST.out _ _ _ hH) (λhH=>?_);clear hK K
    try simp only[lt]
    refine wpAnyH_done (by kernel_rfl) ?_ _;exact HQ.out _ _ _ _ _ _ _ H1.out
  ·go_simp
   refine hK.out _ _ (bu.out _ ((bE.out.alloc _).drew)) (λhH=>?_);clear hK K
   try simp only[lt]
   refine aw (i:=0) rfl (λK hK=>?_);go_simp;refine hK.out _ _ (bu.out _ (((bE.out.alloc _).alloc _).drew)) (λhH=>?_);clear hK K
   try simp only[lt]
   refine aw (i:=5) rfl (λK hK=>?_);refine bW Du ?_;refine hK.out _ _ (bu.out _ (HF.out.2.2.2.2.1)) (λhH=>?_);clear hK K
   try simp only[lt]
   refine aw (i:=20) rfl (λK hK=>?_);refine bW Dv ?_;refine hK.out _ _ (bu.out _ (HF.out.2.2.2.2.2)) (λhH=>?_);clear hK K
   try simp only[lt]
   refine aw (i:=22) rfl (λK hK=>?_);refine bW Dw ?_;refine hK.out _ _ (bu.out _ (H3.out.frm)) (λhH=>?_);clear hK K
   try simp only[lt]
   refine tk (i:=23) HP rfl rfl hH ?_
   try simp only[lt]
   refine aw (i:=24) rfl (λK hK=>?_);go_simp;refine hK.out _ _ (HST.out _ _ _ hH) (λhH=>?_);clear hK K
   try simp only[lt]
   refine wpAnyH_done (by kernel_rfl) ?_ _;exact HQ.out _ _ _ _ _ _ _ H3.out
 ·go_simp
  refine hK.out _ _ (bu.out _ ((bE.out.alloc _).drew)) (λhH=>?_);clear hK K
  try simp only[lt]
  refine kW (i:=0) (j:=2) rfl rfl (λK hK=>?_) (λK hK=>?_)
  ·go_simp
   refine hK.out _ _ (bu.out _ (((bE.out.alloc _).alloc _).drew)) (λhH=>?_);clear hK K
   try simp only[lt]
   refine aw (i:=2) rfl (λK hK=>?_);go_simp;refine hK.out _ _ (bu.out _ (((bE.out.alloc _).alloc _).drew)) (λhH=>?_);clear hK K
   try simp only[lt]
   refine tk (i:=4) HP rfl rfl hH ?_
   try simp only[lt]
   refine aw (i:=5) rfl (λK hK=>?_);refine bW Du ?_;refine hK.out _ _ (bu.out _ (HF.out.2.2.2.2.1)) (λhH=>?_);clear hK K
   try simp only[lt]
   refine aw (i:=20) rfl (λK hK=>?_);refine bW Dv ?_;refine hK.out _ _ (bu.out _ (HF.out.2.2.2.2.2)) (λhH=>?_);clear hK K
   try simp only[lt]
   refine aw (i:=22) rfl (λK hK=>?_);refine bW Dw ?_;refine hK.out _ _ (bu.out _ (H3.out.frm)) (λhH=>?_);clear hK K
   try simp only[lt]
   refine tk (i:=23) HP rfl rfl hH ?_
   try simp only[lt]
   refine aw (i:=24) rfl (λK hK=>?_);go_simp;refine hK.out _ _ (HST.out _ _ _ hH) (λhH=>?_);clear hK K
   try simp only[lt]
   refine wpAnyH_done (by kernel_rfl) ?_ _;exact HQ.out _ _ _ _ _ _ _ H3.out
  ·go_simp
   refine hK.out _ _ (bu.out _ ((bE.out.alloc _).drew)) (λhH=>?_);clear hK K
   try simp only[lt]
   refine tk (i:=4) HP rfl rfl hH ?_
   try simp only[lt]
   refine aw (i:=0) rfl (λK hK=>?_);go_simp;refine hK.out _ _ (bu.out _ (((bE.out.alloc _).alloc _).drew)) (λhH=>?_);clear hK K
   try simp only[lt]
   refine aw (i:=5) rfl (λK hK=>?_);refine bW Du ?_;refine hK.out _ _ (bu.out _ (HF.out.2.2.2.2.1)) (λhH=>?_);clear hK K
   try simp only[lt]
   refine aw (i:=20) rfl (λK hK=>?_);refine bW Dv ?_;refine hK.out _ _ (bu.out _ (HF.out.2.2.2.2.2)) (λhH=>?_);clear hK K
   try simp only[lt]
   refine aw (i:=22) rfl (λK hK=>?_);refine bW Dw ?_;refine hK.out _ _ (bu.out _ (H3.out.frm)) (λhH=>?_);clear hK K
   try simp only[lt]
   refine tk (i:=23) HP rfl rfl hH ?_
   try simp only[lt]
   refine aw (i:=24) rfl (λK hK=>?_);go_simp;refine hK.out _ _ (HST.out _ _ _ hH) (λhH=>?_);clear hK K
   try simp only[lt]
   refine wpAnyH_done (by kernel_rfl) ?_ _;exact HQ.out _ _ _ _ _ _ _ H3.out
theorem Ka{a b n':Int}{s t u:ByteArray}
  (hb:aj wa bs 36 cs) (hcs:cs[4]? =some (U A n c)) (he:aj wa (bs+1) 42 #[I J 11,I J a,I J b,I J n',V s,V t,V u]) (hk:k≤n) (zw:n≤c) (hcm:c≤maxLen)
  (Dr:∀ty,(Builtin.append_ #[34,34] ty #[U (some ⟨wa.heap.size,0,none⟩) 0 0,U A k c]).run pQ ((wa.alloc (.cells #[] 84)).alloc (.cells #[I J a,V s,V t] 84)).drew=.ok v11 zQ)
  (Ds:∀ty,(Builtin.append_ #[34,34] ty #[v11,U (some ⟨wa.heap.size+1,0,none⟩) 1 1]).run pQ zQ=.ok v12 zR)
  (Dt:∀ty,(Builtin.append_ #[34,34] ty #[v12,U rA (n-k) rc]).run pQ zR=.ok (U B1 (k+1+(n-k)) d1) Et)
  (h1:aI 84 3 wa Et (U B1 (k+1+(n-k)) d1) (k+1+(n-k)) rows) (f11:aa ag wa zQ) (f12:aa ag wa zR)
  (Ip:∀ty,(Builtin.append_ #[34,34] ty #[U (some ⟨wa.heap.size,0,none⟩) 0 0,U A k c]).run pQ (wa.alloc (.cells #[] 84)).drew=.ok v21 xc)
  (Iq:∀ty,(Builtin.append_ #[34,34] ty #[v21,U (some ⟨xc.heap.size,0,none⟩) 1 1]).run pQ (xc.alloc (.cells #[I J a,V s,V t] 84))=.ok v22 zS)
  (Ir:∀ty,(Builtin.append_ #[34,34] ty #[v22,U rA (n-k) rc]).run pQ zS=.ok (U B2 (k+1+(n-k)) d2) Eu)
  (h2:aI 84 3 wa Eu (U B2 (k+1+(n-k)) d2) (k+1+(n-k)) rows) (f21:aa ag wa xc) (f22:aa ag wa zS)
  (Du:∀ty,(Builtin.append_ #[34,34] ty #[U (some ⟨wa.heap.size+1,0,none⟩) 0 0,U A k c]).run pQ ((wa.alloc (.cells #[I J a,V s,V t] 84)).alloc (.cells #[] 84)).drew=.ok v31 zT)
  (Dv:∀ty,(Builtin.append_ #[34,34] ty #[v31,U (some ⟨wa.heap.size,0,none⟩) 1 1]).run pQ zT=.ok v32 zU)
  (Dw:∀ty,(Builtin.append_ #[34,34] ty #[v32,U rA (n-k) rc]).run pQ zU=.ok (U B3 (k+1+(n-k)) d3) Ew)
  (h3:aI 84 3 wa Ew (U B3 (k+1+(n-k)) d3) (k+1+(n-k)) rows) (f31:aa ag wa zT) (f32:aa ag wa zU)
 (hP:∀(e:_) (a:Act) (i:Nat) (v:Value) (w:World),Q (.panic e) (a.put (some i) v) w→Q (.panic e) a w) (hQ:∀(wc:World) (B:Option Addr) (d:Nat) (z0 z5 yf Bt:Value),aI 84 3 wa wc (U B (k+1+(n-k)) d) (k+1+(n-k)) rows→Q .normal ⟨#[u0,u1,O (some ⟨bs,0,none⟩),O (some ⟨bs+1,0,none⟩),u4,I J k,u6,u7,u8,U rA (n-k) rc,u10,u11,u12,u13,u14,u15,u16,cG,cH,cI,cR,cS,cT,u23,u24,cN,u26,dc,u28,dm,dp,dr,u32,u33,df,dg,u36,dt,u38,dB,dC,dO,dP,dQ,u44,u45,dI,dJ,dK,dL,dD,dE,dF,dR,dS,dT,dM,dG,dH,dw,dx,dy,dz,dA,u64,dh,di,dl,cU,cX,fA,fB,fF,fG,fw,iO,iP,iQ,jN,jO,jP,jQ,jR,jS,jT,jU,jJ,jK,jV,jW,jX,jY,kZ,k9,lc,nd,nT,nU,nV,nW,fH,fJ,fK,fM,fO,fP,fQ,fU,ej,eo,ep,ew,ey,eA,eB,eC,eD,eF,eG,eH,eI,eJ,eK,eM,eO,eP,eQ,eU,eV,eW,eX,eY,eZ,fh,fj,fk,fl,fp,u138,fq,fV,fW,fX,fY,fZ,gb,gc,gg,gh,gS,gT,gU,gV,gW,gX,gY,gZ,g9,hZ,ie,ig,ii,jZ,j9,iW,iX,iY,iZ,i7,ja,jb,jc,jd,je,jf,jg,jh,ji,jk,jl,jm,jn,jo,jp,jq,jr,js,jt,ju,jw,jz,jA,jB,u193,jC,jD,z0,O (some ⟨bs,4,none⟩),U A n c,I J k,U A k c,z5,O (some ⟨bs+1,1,none⟩),I J a,O (some ⟨bs+1,4,none⟩),V s,O (some ⟨bs+1,5,none⟩),V t,.agg #[I J a,V s,V t],yf,Bt,U rA (n-k) rc,U B (k+1+(n-k)) d,O (some ⟨bs,4,none⟩),lh,li,lj,lm,lp,lq,lr],[]⟩ (wc.setCell ⟨bs,4,none⟩ (U B (k+1+(n-k)) d))):
  Code.wp pQ (aD (ap (ap (bH (ap (aT (ap (aT (ap (aT (ap (bM (ap (aD (ai 2 (ae Tryz.f31)))))))))))))))) Q ⟨#[u0,u1,O (some ⟨bs,0,none⟩),O (some ⟨bs+1,0,none⟩),u4,I J k,u6,u7,u8,U rA (n-k) rc,u10,u11,u12,u13,u14,u15,u16,cG,cH,cI,cR,cS,cT,u23,u24,cN,u26,dc,u28,dm,dp,dr,u32,u33,df,dg,u36,dt,u38,dB,dC,dO,dP,dQ,u44,u45,dI,dJ,dK,dL,dD,dE,dF,dR,dS,dT,dM,dG,dH,dw,dx,dy,dz,dA,u64,dh,di,dl,cU,cX,fA,fB,fF,fG,fw,iO,iP,iQ,jN,jO,jP,jQ,jR,jS,jT,jU,jJ,jK,jV,jW,jX,jY,kZ,k9,lc,nd,nT,nU,nV,nW,fH,fJ,fK,fM,fO,fP,fQ,fU,ej,eo,ep,ew,ey,eA,eB,eC,eD,eF,eG,eH,eI,eJ,eK,eM,eO,eP,eQ,eU,eV,eW,eX,eY,eZ,fh,fj,fk,fl,fp,u138,fq,fV,fW,fX,fY,fZ,gb,gc,gg,gh,gS,gT,gU,gV,gW,gX,gY,gZ,g9,hZ,ie,ig,ii,jZ,j9,iW,iX,iY,iZ,i7,ja,jb,jc,jd,je,jf,jg,jh,ji,jk,jl,jm,jn,jo,jp,jq,jr,js,jt,ju,jw,jz,jA,jB,u193,jC,jD,ke,kg,u198,kh,ki,kj,km,ko,lG,lH,lI,lJ,lK,lL,lM,lN,lO,lQ,lh,li,lj,lm,lp,lq,lr],[]⟩ wa:=by
 have HB:=h_ hb;have HE:=h_ he;have bu:Hid (∀W,aa ag wa W→W.cell? ⟨bs+1,1,none⟩=some (I J a)∧W.cell? ⟨bs+1,4,none⟩=some (V s)∧W.cell? ⟨bs+1,5,none⟩=some (V t)):=λW hW=>⟨((he.frm hW id).cell 1).trans rfl,((he.frm hW id).cell 4).trans rfl,((he.frm hW id).cell 5).trans rfl⟩
 have cx:∀{W:World},aa ag wa W→W.cell? ⟨bs,4,none⟩=some (U A n c):=λhW=>((hb.frm hW id).cell 4).trans hcs
 have cf:∀{W:World},aa ag wa W→W.frozen? ⟨bs,4,none⟩=false:=λhW=>(hb.frm hW id).frozen 4
 have HST:Hid (∀(W:World) (B:Option Addr) (d:Nat),(W.cell? ⟨bs+1,1,none⟩=some (I J a)∧W.cell? ⟨bs+1,4,none⟩=some (V s)∧W.cell? ⟨bs+1,5,none⟩=some (V t))→(λW:World=>W.cell? ⟨bs+1,1,none⟩=some (I J a)∧W.cell? ⟨bs+1,4,none⟩=some (V s)∧W.cell? ⟨bs+1,5,none⟩=some (V t)) (W.setCell ⟨bs,4,none⟩ (U B (k+1+(n-k)) d))):=by
  rintro W B d ⟨q1,q4,q5⟩;exact⟨(World.cell?_setCell_far _ _ _ _ (by simp)).trans q1,(World.cell?_setCell_far _ _ _ _ (by simp)).trans q4,(World.cell?_setCell_far _ _ _ _ (by simp)).trans q5⟩
 have R0:=fR wa;obtain⟨e1,e4,e5⟩:=bu.out wa R0;have p1:=cx R0;have p2:=cx (R0.alloc (.cells #[] 84));have p3:=cx (R0.alloc (.cells #[I J a,V s,V t] 84));have p4:=cx ((R0.alloc (.cells #[] 84)).alloc (.cells #[I J a,V s,V t] 84));have p5:=cx ((R0.alloc (.cells #[I J a,V s,V t] 84)).alloc (.cells #[] 84));have PP:=cx h1.frm;have Rj:=cx h2.frm;have Rk:=cx h3.frm;have PQ:=cf h1.frm;have Rl:=cf h2.frm;have sf3:=cf h3.frm;have FB:(0:Int)≤(k:Int):=Int.natCast_nonneg _;have FC:(k:Int)≤(c:Int):=by omega
 have FD:(k:Int)≤(n:Int):=by omega
 have HQ:=h_ hQ;have HP:=h_ hP;have H1:=h_ h1;have H2:=h_ h2;have H3:=h_ h3;have bE:=h_ R0;have HF:=h_ (And.intro f11 (And.intro f12 (And.intro f21 (And.intro f22 (And.intro f31 f32)))));clear hb he hcs cx cf R0 h1 h2 h3 f11 f12 f21 f22 f31 f32 hQ hP;simp only[aD,ap,bH,aT,bM,ai,ae,Tryz.f31];refine wp_region_held_drew (S:=λW=>W.cell? ⟨bs+1,1,none⟩=some (I J a)∧W.cell? ⟨bs+1,4,none⟩=some (V s)∧W.cell? ⟨bs+1,5,none⟩=some (V t)) (by kernel_rfl) (bu.out _ bE.out.drew) λhH=>?_
 refine tk (i:=1) HP rfl rfl hH ?_
 try simp only[lt]
 refine tk (i:=3) HP rfl rfl hH ?_
 try simp only[lt]
 refine tk (i:=6) HP rfl rfl hH ?_
 try simp only[lt]
 refine tk (i:=7) HP rfl rfl hH ?_
 try simp only[lt]
 refine tk (i:=8) HP rfl rfl hH ?_
 try simp only[lt]
 refine tk (i:=9) HP rfl rfl hH ?_
 try simp only[lt]
 refine tk (i:=10) HP rfl rfl hH ?_
 try simp only[lt]
 refine tk (i:=11) HP rfl rfl hH ?_
 try simp only[lt]
 refine tk (i:=12) HP rfl rfl hH ?_
 try simp only[lt]
 refine tk (i:=15) HP rfl rfl hH ?_
 try simp only[lt]
 refine E5 (i:=0) (j:=2) (k:=13) rfl rfl rfl (λK hK=>?_) (λK hK=>?_) (λK hK=>?_)
 ·go_simp
  refine hK.out _ _ (bu.out _ ((bE.out.alloc _).drew)) (λhH=>?_);clear hK K
  try simp only[lt]
  refine kW (i:=2) (j:=13) rfl rfl (λK hK=>?_) (λK hK=>?_)
  ·go_simp
   refine hK.out _ _ (bu.out _ ((bE.out.alloc _).drew)) (λhH=>?_);clear hK K
   try simp only[lt]
   refine tk (i:=4) HP rfl rfl hH ?_
   try simp only[lt]
   refine kW (i:=5) (j:=13) rfl rfl (λK hK=>?_) (λK hK=>?_)
   ·refine bW Ip ?_
    refine hK.out _ _ (bu.out _ (HF.out.2.2.1)) (λhH=>?_);clear hK K
    try simp only[lt]
    refine aw (i:=13) rfl (λK hK=>?_);go_simp;refine hK.out _ _ (bu.out _ (HF.out.2.2.1.alloc _)) (λhH=>?_);clear hK K
    try simp only[lt]
    refine aw (i:=14) rfl (λK hK=>?_);refine bW Iq ?_;refine hK.out _ _ (bu.out _ (HF.out.2.2.2.1)) (λhH=>?_);clear hK K
    try simp only[lt]
    refine aw (i:=16) rfl (λK hK=>?_);refine bW Ir ?_;refine hK.out _ _ (bu.out _ (H2.out.frm)) (λhH=>?_);clear hK K
    try simp only[lt]
    refine tk (i:=17) HP rfl rfl hH ?_
    try simp only[lt]
    refine aw (i:=18) rfl (λK hK=>?_);go_simp;refine hK.out _ _ (HST.out _ _ _ hH) (λhH=>?_);clear hK K
    try simp only[lt]
    refine wpAnyH_done (by kernel_rfl) ?_ _;exact HQ.out _ _ _ _ _ _ _ H2.out
   ·go_simp
    refine hK.out _ _ (bu.out _ (((bE.out.alloc _).alloc _).drew)) (λhH=>?_);clear hK K
    try simp only[lt]
    refine aw (i:=5) rfl (λK hK=>?_);refine bW Dr ?_;refine hK.out _ _ (bu.out _ (HF.out.1)) (λhH=>?_);clear hK K
    try simp only[lt]
    refine aw (i:=14) rfl (λK hK=>?_);refine bW Ds ?_;refine hK.out _ _ (bu.out _ (HF.out.2.1)) (λhH=>?_);clear hK K
    try simp only[lt]
    refine aw (i:=16) rfl (λK hK=>?_);refine bW Dt ?_;refine hK.out _ _ (bu.out _ (H1.out.frm)) (λhH=>?_);clear hK K
    try simp only[lt]
    refine tk (i:=17) HP rfl rfl hH ?_
    try simp only[lt]
    refine aw (i:=18) rfl (λK hK=>?_);go_simp;refine hK.out _ _ (HST.out _ _ _ hH) (λhH=>?_);clear hK K
    try simp only[lt]
    refine wpAnyH_done (by kernel_rfl) ?_ _;exact HQ.out _ _ _ _ _ _ _ H1.out
  ·go_simp
   refine hK.out _ _ (bu.out _ (((bE.out.alloc _).alloc _).drew)) (λhH=>?_);clear hK K
   try simp only[lt]
   refine aw (i:=2) rfl (λK hK=>?_);go_simp;refine hK.out _ _ (bu.out _ (((bE.out.alloc _).alloc _).drew)) (λhH=>?_);clear hK K
   try simp only[lt]
   refine tk (i:=4) HP rfl rfl hH ?_
   try simp only[lt]
   refine aw (i:=5) rfl (λK hK=>?_);refine bW Dr ?_;refine hK.out _ _ (bu.out _ (HF.out.1)) (λhH=>?_);clear hK K
   try simp only[lt]
   refine aw (i:=14) rfl (λK hK=>?_);refine bW Ds ?_;refine hK.out _ _ (bu.out _ (HF.out.2.1)) (λhH=>?_);clear hK K
   try simp only[lt]
   refine aw (i:=16) rfl (λK hK=>?_);refine bW Dt ?_;refine hK.out _ _ (bu.out _ (H1.out.frm)) (λhH=>?_);clear hK K
   try simp only[lt]
   refine tk (i:=17) HP rfl rfl hH ?_
   try simp only[lt]
   refine aw (i:=18) rfl (λK hK=>?_);go_simp;refine hK.out _ _ (HST.out _ _ _ hH) (λhH=>?_);clear hK K
   try simp only[lt]
   refine wpAnyH_done (by kernel_rfl) ?_ _;exact HQ.out _ _ _ _ _ _ _ H1.out
 ·go_simp
  refine hK.out _ _ (bu.out _ ((bE.out).drew)) (λhH=>?_);clear hK K
  try simp only[lt]
  refine tk (i:=4) HP rfl rfl hH ?_
  try simp only[lt]
  refine kW (i:=0) (j:=13) rfl rfl (λK hK=>?_) (λK hK=>?_)
  ·go_simp
   refine hK.out _ _ (bu.out _ ((bE.out.alloc _).drew)) (λhH=>?_);clear hK K
   try simp only[lt]
   refine kW (i:=5) (j:=13) rfl rfl (λK hK=>?_) (λK hK=>?_)
   ·refine bW Ip ?_
    refine hK.out _ _ (bu.out _ (HF.out.2.2.1)) (λhH=>?_);clear hK K
    try simp only[lt]
    refine aw (i:=13) rfl (λK hK=>?_);go_simp;refine hK.out _ _ (bu.out _ (HF.out.2.2.1.alloc _)) (λhH=>?_);clear hK K
    try simp only[lt]
    refine aw (i:=14) rfl (λK hK=>?_);refine bW Iq ?_;refine hK.out _ _ (bu.out _ (HF.out.2.2.2.1)) (λhH=>?_);clear hK K
    try simp only[lt]
    refine aw (i:=16) rfl (λK hK=>?_);refine bW Ir ?_;refine hK.out _ _ (bu.out _ (H2.out.frm)) (λhH=>?_);clear hK K
    try simp only[lt]
    refine tk (i:=17) HP rfl rfl hH ?_
    try simp only[lt]
    refine aw (i:=18) rfl (λK hK=>?_);go_simp;refine hK.out _ _ (HST.out _ _ _ hH) (λhH=>?_);clear hK K
    try simp only[lt]
    refine wpAnyH_done (by kernel_rfl) ?_ _;exact HQ.out _ _ _ _ _ _ _ H2.out
   ·go_simp
    refine hK.out _ _ (bu.out _ (((bE.out.alloc _).alloc _).drew)) (λhH=>?_);clear hK K
    try simp only[lt]
    refine aw (i:=5) rfl (λK hK=>?_);refine bW Dr ?_;refine hK.out _ _ (bu.out _ (HF.out.1)) (λhH=>?_);clear hK K
    try simp only[lt]
    refine aw (i:=14) rfl (λK hK=>?_);refine bW Ds ?_;refine hK.out _ _ (bu.out _ (HF.out.2.1)) (λhH=>?_);clear hK K
    try simp only[lt]
    refine aw (i:=16) rfl (λK hK=>?_);refine bW Dt ?_;refine hK.out _ _ (bu.out _ (H1.out.frm)) (λhH=>?_);clear hK K
    try simp only[lt]
    refine tk (i:=17) HP rfl rfl hH ?_
    try simp only[lt]
    refine aw (i:=18) rfl (λK hK=>?_);go_simp;refine hK.out _ _ (HST.out _ _ _ hH) (λhH=>?_);clear hK K
    try simp only[lt]
    refine wpAnyH_done (by kernel_rfl) ?_ _;exact HQ.out _ _ _ _ _ _ _ H1.out
  ·go_simp
   refine hK.out _ _ (bu.out _ ((bE.out.alloc _).drew)) (λhH=>?_);clear hK K
   try simp only[lt]
   refine aw (i:=0) rfl (λK hK=>?_);go_simp;refine hK.out _ _ (bu.out _ (((bE.out.alloc _).alloc _).drew)) (λhH=>?_);clear hK K
   try simp only[lt]
   refine aw (i:=5) rfl (λK hK=>?_);refine bW Du ?_;refine hK.out _ _ (bu.out _ (HF.out.2.2.2.2.1)) (λhH=>?_);clear hK K
   try simp only[lt]
   refine aw (i:=14) rfl (λK hK=>?_);refine bW Dv ?_;refine hK.out _ _ (bu.out _ (HF.out.2.2.2.2.2)) (λhH=>?_);clear hK K
   try simp only[lt]
   refine aw (i:=16) rfl (λK hK=>?_);refine bW Dw ?_;refine hK.out _ _ (bu.out _ (H3.out.frm)) (λhH=>?_);clear hK K
   try simp only[lt]
   refine tk (i:=17) HP rfl rfl hH ?_
   try simp only[lt]
   refine aw (i:=18) rfl (λK hK=>?_);go_simp;refine hK.out _ _ (HST.out _ _ _ hH) (λhH=>?_);clear hK K
   try simp only[lt]
   refine wpAnyH_done (by kernel_rfl) ?_ _;exact HQ.out _ _ _ _ _ _ _ H3.out
 ·go_simp
  refine hK.out _ _ (bu.out _ ((bE.out.alloc _).drew)) (λhH=>?_);clear hK K
  try simp only[lt]
  refine kW (i:=0) (j:=2) rfl rfl (λK hK=>?_) (λK hK=>?_)
  ·go_simp
   refine hK.out _ _ (bu.out _ (((bE.out.alloc _).alloc _).drew)) (λhH=>?_);clear hK K
   try simp only[lt]
   refine aw (i:=2) rfl (λK hK=>?_);go_simp;refine hK.out _ _ (bu.out _ (((bE.out.alloc _).alloc _).drew)) (λhH=>?_);clear hK K
   try simp only[lt]
   refine tk (i:=4) HP rfl rfl hH ?_
   try simp only[lt]
   refine aw (i:=5) rfl (λK hK=>?_);refine bW Du ?_;refine hK.out _ _ (bu.out _ (HF.out.2.2.2.2.1)) (λhH=>?_);clear hK K
   try simp only[lt]
   refine aw (i:=14) rfl (λK hK=>?_);refine bW Dv ?_;refine hK.out _ _ (bu.out _ (HF.out.2.2.2.2.2)) (λhH=>?_);clear hK K
   try simp only[lt]
   refine aw (i:=16) rfl (λK hK=>?_);refine bW Dw ?_;refine hK.out _ _ (bu.out _ (H3.out.frm)) (λhH=>?_);clear hK K
   try simp only[lt]
   refine tk (i:=17) HP rfl rfl hH ?_
   try simp only[lt]
   refine aw (i:=18) rfl (λK hK=>?_);go_simp;refine hK.out _ _ (HST.out _ _ _ hH) (λhH=>?_);clear hK K
   try simp only[lt]
   refine wpAnyH_done (by kernel_rfl) ?_ _;exact HQ.out _ _ _ _ _ _ _ H3.out
  ·go_simp
   refine hK.out _ _ (bu.out _ ((bE.out.alloc _).drew)) (λhH=>?_);clear hK K
   try simp only[lt]
   refine tk (i:=4) HP rfl rfl hH ?_
   try simp only[lt]
   refine aw (i:=0) rfl (λK hK=>?_);go_simp;refine hK.out _ _ (bu.out _ (((bE.out.alloc _).alloc _).drew)) (λhH=>?_);clear hK K
   try simp only[lt]
   refine aw (i:=5) rfl (λK hK=>?_);refine bW Du ?_;refine hK.out _ _ (bu.out _ (HF.out.2.2.2.2.1)) (λhH=>?_);clear hK K
   try simp only[lt]
   refine aw (i:=14) rfl (λK hK=>?_);refine bW Dv ?_;refine hK.out _ _ (bu.out _ (HF.out.2.2.2.2.2)) (λhH=>?_);clear hK K
   try simp only[lt]
   refine aw (i:=16) rfl (λK hK=>?_);refine bW Dw ?_;refine hK.out _ _ (bu.out _ (H3.out.frm)) (λhH=>?_);clear hK K
   try simp only[lt]
   refine tk (i:=17) HP rfl rfl hH ?_
   try simp only[lt]
   refine aw (i:=18) rfl (λK hK=>?_);go_simp;refine hK.out _ _ (HST.out _ _ _ hH) (λhH=>?_);clear hK K
   try simp only[lt]
   refine wpAnyH_done (by kernel_rfl) ?_ _;exact HQ.out _ _ _ _ _ _ _ H3.out
end Go.Proofs.YtaecjmiobllhmaaGreat
