/- Words. -/
import Derived.Test.YtaecjmiobllhmaaGreatGp27
import Derived.Test.YtaecjmiobllhmaaGreatGp13
set_option linter.unusedVariables false
set_option linter.unusedSimpArgs false
set_option maxRecDepth 100000
set_option maxHeartbeats 16000000
namespace Go.Proofs.YtaecjmiobllhmaaGreat
open Go.RowKit Go.Lib
def cntI{α:Type}(g:α→Int)(id:Int)(l:List α):Nat:=l.findIdx λy=>!decide (g y<id)
theorem insI_take{α:Type}{g:α→Int}{a:α}{l:List α}:insI g a l=l.take (cntI g (g a) l)++a::l.drop (cntI g (g a) l):=by
 unfold insI cntI;rw[List.takeWhile_eq_take_findIdx_not,List.dropWhile_eq_drop_findIdx_not]
theorem cntI_le{α:Type}{g:α→Int}{id:Int}{l:List α}:cntI g id l≤l.length:=List.findIdx_le_length
theorem cntI_lt{α:Type}{g:α→Int}{id:Int}{l:List α}{k:Nat}(h:k<cntI g id l)(hk:k<l.length):g l[k]<id:=by
 have:=List.not_of_lt_findIdx h
 simpa using this
theorem cntI_at{α:Type}{g:α→Int}{id:Int}{l:List α}(hk:cntI g id l<l.length):¬g l[cntI g id l]<id:=by
 have:=List.findIdx_getElem (w:=hk);unfold cntI
 simpa using this
theorem ins_ahead{P:Program}{t e:TypeId}{s bytes:Nat}(E:ElemK P t e s bytes){w1 ws:World}{v0:Value}(S:RowK e s w1 ws v0 0 []){G G':Nat→Prop}{A rA bA:Option Addr}{B c rc n p:Nat}{xs ys:List Value}
  (hr:Rd w1 G s A n xs) (hrr:Rd w1 G' s rA (n - p) (xs.drop (p * s))) (hbx:Rd ws (λk=>k=B) s bA 1 ys) (hne:v0.ownBlock≠some B)
  (h1:∀u∈xs,u.oneCell'=true) (hy:∀u∈ys,u.oneCell'=true) (hn:n≤100000) (hp:p≤n) (hby:bytes≤1000):
  ∃v1 wa v2 wb A3 c3 wc,(∀ty,(Builtin.append_ #[t,t] ty #[v0,.slice A p c]).run P ws=.ok v1 wa)∧
    (∀ty,(Builtin.append_ #[t,t] ty #[v1,.slice bA 1 1]).run P wa=.ok v2 wb)∧
    (∀ty,(Builtin.append_ #[t,t] ty #[v2,.slice rA (n - p) rc]).run P wb=.ok (.slice A3 (p+1+(n - p)) c3) wc)∧
    RowK e s w1 wc (.slice A3 (p+1+(n - p)) c3) (p+1+(n - p)) (xs.take (p * s)++ys++xs.drop (p * s))∧Frm Nix w1 wa∧Frm Nix w1 wb:=by
 have hb1:(0+p) * bytes≤140737488355328:=by
  have:=Nat.mul_le_mul (show 0+p≤100000 by omega) hby;omega
 have hb2:(p+1) * bytes≤140737488355328:=by
  have:=Nat.mul_le_mul (show p+1≤100001 by omega) hby;omega
 have hb3:(p+1+(n - p)) * bytes≤140737488355328:=by
  have:=Nat.mul_le_mul (show p+1+(n - p)≤100001 by omega) hby;omega
 obtain⟨v1,wa,q1,r1,f1,-⟩:=S.app E c ((hr.take hp).frm S.frm λ_ _=>id) (λu hu=>h1 u (List.mem_of_mem_take hu)) (by unfold maxLen;omega) hb1;rw[Nat.zero_add,List.nil_append] at r1;obtain⟨v2,wb,q2,r2,-,-⟩:=r1.app E 1 (hbx.frm f1 λk hk e=>hne (by rw[e,hk])) hy (by unfold maxLen;omega) hb2;obtain⟨v3,wc,q3,r3,-,-⟩:=r2.app E rc (hrr.frm r2.frm λ_ _=>id) (λu hu=>h1 u (List.mem_of_mem_drop hu)) (by unfold maxLen;omega) hb3;obtain⟨A3,c3,rfl,-⟩:=r3.shape;exact⟨v1,wa,v2,wb,A3,c3,wc,q1,q2,q3,r3,r1.frm,r2.frm⟩
theorem ins_behind{P:Program}{t e:TypeId}{s bytes:Nat}(E:ElemK P t e s bytes){w1 ws:World}{v0:Value}(S:RowK e s w1 ws v0 0 []){G G':Nat→Prop}{A rA:Option Addr}{c rc n p:Nat}{xs ys:List Value}
  (hr:Rd w1 G s A n xs) (hrr:Rd w1 G' s rA (n - p) (xs.drop (p * s))) (hl:ys.length=s)
  (h1:∀u∈xs,u.oneCell'=true) (hy:∀u∈ys,u.oneCell'=true) (hn:n≤100000) (hp:p≤n) (hby:bytes≤1000):
  ∃v1 wa v2 wb A3 c3 wc,(∀ty,(Builtin.append_ #[t,t] ty #[v0,.slice A p c]).run P ws=.ok v1 wa)∧
    (∀ty,(Builtin.append_ #[t,t] ty #[v1,.slice (some ⟨wa.heap.size,0,none⟩) 1 1]).run P (wa.alloc (.cells ys.toArray e))=.ok v2 wb)∧
    (∀ty,(Builtin.append_ #[t,t] ty #[v2,.slice rA (n - p) rc]).run P wb=.ok (.slice A3 (p+1+(n - p)) c3) wc)∧
    RowK e s w1 wc (.slice A3 (p+1+(n - p)) c3) (p+1+(n - p)) (xs.take (p * s)++ys++xs.drop (p * s))∧Frm Nix w1 wa∧Frm Nix w1 wb:=by
 have hb1:(0+p) * bytes≤140737488355328:=by
  have:=Nat.mul_le_mul (show 0+p≤100000 by omega) hby;omega
 have hb2:(p+1) * bytes≤140737488355328:=by
  have:=Nat.mul_le_mul (show p+1≤100001 by omega) hby;omega
 have hb3:(p+1+(n - p)) * bytes≤140737488355328:=by
  have:=Nat.mul_le_mul (show p+1+(n - p)≤100001 by omega) hby;omega
 obtain⟨v1,wa,q1,r1,f1,-⟩:=S.app E c ((hr.take hp).frm S.frm λ_ _=>id) (λu hu=>h1 u (List.mem_of_mem_take hu)) (by unfold maxLen;omega) hb1;rw[Nat.zero_add,List.nil_append] at r1;obtain⟨v2,wb,q2,r2,-,-⟩:=r1.push E ys hl hy (by unfold maxLen;omega) hb2;obtain⟨v3,wc,q3,r3,-,-⟩:=r2.app E rc (hrr.frm r2.frm λ_ _=>id) (λu hu=>h1 u (List.mem_of_mem_drop hu)) (by unfold maxLen;omega) hb3;obtain⟨A3,c3,rfl,-⟩:=r3.shape;exact⟨v1,wa,v2,wb,A3,c3,wc,q1,q2,q3,r3,r1.frm,r2.frm⟩
theorem rest_run{P:Program}{t e:TypeId}{s bytes:Nat}(E:ElemK P t e s bytes){w1:World}{G:Nat→Prop}{A:Option Addr}{c n p:Nat}{xs:List Value}
  (hs:SlIn w1 G s (A,c) n xs) (h1:∀u∈xs,u.oneCell'=true) (hn:n≤100000) (hp:p≤n) (hby:bytes≤1000):
  ∃sv rA rc wa,sv=.slice (if c=p then A else A.map (·.add (p * s))) (n - p) (c - p)∧(∀ty,(Builtin.append_ #[t,t] ty #[.slice (some ⟨w1.heap.size,0,none⟩) 0 0,sv]).run P (w1.alloc (.cells #[] e))=.ok (.slice rA (n - p) rc) wa)∧
    RowK e s w1 wa (.slice rA (n - p) rc) (n - p) (xs.drop (p * s)):=by
 have hb1:(0+(n - p)) * bytes≤140737488355328:=by
  have:=Nat.mul_le_mul (show 0+(n - p)≤100000 by omega) hby;omega
 have hr:=hs.rd;have hc:n≤c:=hs.cap;have r0:=RowK.empty (w0:=w1) e s (fR w1);obtain⟨v1,wa,q1,r1,-,-⟩:=r0.app E (c - p) ((hr.cut (k:=p) hp hc).frm r0.frm λ_ _=>id) (λu hu=>h1 u (List.mem_of_mem_drop hu)) (by unfold maxLen;omega) hb1;rw[Nat.zero_add,List.nil_append] at r1;obtain⟨rA,rc,rfl,-⟩:=r1.shape;exact⟨_,rA,rc,wa,rfl,q1,r1⟩
theorem ins_three{P:Program}{t e:TypeId}{s bytes:Nat}(E:ElemK P t e s bytes){wa:World}{G G':Nat→Prop}{A rA:Option Addr}{c rc n p:Nat}{xs ys:List Value}
  (hs:SlIn wa G s (A,c) n xs) (hrr:Rd wa G' s rA (n - p) (xs.drop (p * s))) (hl:ys.length=s)
  (h1:∀u∈xs,u.oneCell'=true) (hy:∀u∈ys,u.oneCell'=true) (hn:n≤100000) (hp:p≤n) (hby:bytes≤1000):
  (∃v1 w1 v2 w2 B c3 w3,(∀ty,(Builtin.append_ #[t,t] ty #[.slice (some ⟨wa.heap.size,0,none⟩) 0 0,.slice A p c]).run P ((wa.alloc (.cells #[] e)).alloc (.cells ys.toArray e)).drew=.ok v1 w1)∧
   (∀ty,(Builtin.append_ #[t,t] ty #[v1,.slice (some ⟨wa.heap.size+1,0,none⟩) 1 1]).run P w1=.ok v2 w2)∧
   (∀ty,(Builtin.append_ #[t,t] ty #[v2,.slice rA (n - p) rc]).run P w2=.ok (.slice B (p+1+(n - p)) c3) w3)∧
   RowK e s wa w3 (.slice B (p+1+(n - p)) c3) (p+1+(n - p)) (xs.take (p * s)++ys++xs.drop (p * s))∧Frm Nix wa w1∧Frm Nix wa w2)∧
  (∃v1 w1 v2 w2 B c3 w3,(∀ty,(Builtin.append_ #[t,t] ty #[.slice (some ⟨wa.heap.size,0,none⟩) 0 0,.slice A p c]).run P (wa.alloc (.cells #[] e)).drew=.ok v1 w1)∧
   (∀ty,(Builtin.append_ #[t,t] ty #[v1,.slice (some ⟨w1.heap.size,0,none⟩) 1 1]).run P (w1.alloc (.cells ys.toArray e))=.ok v2 w2)∧
   (∀ty,(Builtin.append_ #[t,t] ty #[v2,.slice rA (n - p) rc]).run P w2=.ok (.slice B (p+1+(n - p)) c3) w3)∧
   RowK e s wa w3 (.slice B (p+1+(n - p)) c3) (p+1+(n - p)) (xs.take (p * s)++ys++xs.drop (p * s))∧Frm Nix wa w1∧Frm Nix wa w2)∧
  (∃v1 w1 v2 w2 B c3 w3,(∀ty,(Builtin.append_ #[t,t] ty #[.slice (some ⟨wa.heap.size+1,0,none⟩) 0 0,.slice A p c]).run P ((wa.alloc (.cells ys.toArray e)).alloc (.cells #[] e)).drew=.ok v1 w1)∧
   (∀ty,(Builtin.append_ #[t,t] ty #[v1,.slice (some ⟨wa.heap.size,0,none⟩) 1 1]).run P w1=.ok v2 w2)∧
   (∀ty,(Builtin.append_ #[t,t] ty #[v2,.slice rA (n - p) rc]).run P w2=.ok (.slice B (p+1+(n - p)) c3) w3)∧
   RowK e s wa w3 (.slice B (p+1+(n - p)) c3) (p+1+(n - p)) (xs.take (p * s)++ys++xs.drop (p * s))∧Frm Nix wa w1∧Frm Nix wa w2):=by
 have hr:=hs.rd;have R0:=fR wa;have S1:RowK e s wa ((wa.alloc (.cells #[] e)).alloc (.cells ys.toArray e)).drew (.slice (some ⟨wa.heap.size,0,none⟩) 0 0) 0 []:=(RowK.empty (w0:=wa) e s R0).more (((fR _).alloc _).drew);have S2:RowK e s wa (wa.alloc (.cells #[] e)).drew (.slice (some ⟨wa.heap.size,0,none⟩) 0 0) 0 []:=(RowK.empty (w0:=wa) e s R0).more ((fR _).drew)
 have S3:RowK e s wa ((wa.alloc (.cells ys.toArray e)).alloc (.cells #[] e)).drew (.slice (some ⟨wa.heap.size+1,0,none⟩) 0 0) 0 []:=by
  have:=(RowK.empty (w0:=wa) e s (R0.alloc (.cells ys.toArray e))).more ((fR _).drew)
  simpa using this
 have g1:Rd ((wa.alloc (.cells #[] e)).alloc (.cells ys.toArray e)).drew (λk=>k=wa.heap.size+1) s (some ⟨wa.heap.size+1,0,none⟩) 1 ys:=by
  have h0:=heap_alloc_new (wa.alloc (.cells #[] e)) (.cells ys.toArray e);rw[show (wa.alloc (.cells #[] e)).heap.size=wa.heap.size+1 by simp] at h0;exact Rd.of_obj (cs:=ys.toArray) (t:=e) (fr:=(0,0)) h0 1 (by simp[hl])
 have g3:Rd ((wa.alloc (.cells ys.toArray e)).alloc (.cells #[] e)).drew (λk=>k=wa.heap.size) s (some ⟨wa.heap.size,0,none⟩) 1 ys:=by
  have h0:=heap_alloc_new wa (.cells ys.toArray e);exact Rd.of_obj (cs:=ys.toArray) (t:=e) (fr:=(0,0)) ((((fR (wa.alloc _)).alloc (.cells #[] e)).block wa.heap.size (by simp) id).trans h0) 1 (by simp[hl])
 obtain⟨v11,w11,v12,w12,A1,c1,w13,a1,a2,a3,a4,a5,a6⟩:=ins_ahead (B:=wa.heap.size+1) (c:=c) (rc:=rc) E S1 hr hrr g1 (by simp[Value.ownBlock]) h1 hy hn hp hby;obtain⟨v21,w21,v22,w22,A2,c2,w23,b1,b2,b3,b4,b5,b6⟩:=ins_behind (c:=c) (rc:=rc) E S2 hr hrr hl h1 hy hn hp hby;obtain⟨v31,w31,v32,w32,A3,c3,w33,d1,d2,d3,d4,d5,d6⟩:=ins_ahead (B:=wa.heap.size) (c:=c) (rc:=rc) E S3 hr hrr g3 (by simp[Value.ownBlock]) h1 hy hn hp hby;exact⟨⟨v11,w11,v12,w12,A1,c1,w13,a1,a2,a3,a4,a5,a6⟩,⟨v21,w21,v22,w22,A2,c2,w23,b1,b2,b3,b4,b5,b6⟩,⟨v31,w31,v32,w32,A3,c3,w33,d1,d2,d3,d4,d5,d6⟩⟩
theorem itm_one(l:List (Sl×Itm)):∀u∈l.flatMap itmC,u.oneCell'=true:=by
 intro u hu;obtain⟨f,-,hu⟩:=List.mem_flatMap.1 hu;simp[itmC] at hu;rcases hu with rfl | rfl | rfl | rfl | rfl | rfl | rfl | rfl | rfl<;>rfl
theorem run_slice_from{P:Program}{t e:TypeId}{s bytes:Nat}(E:ElemK P t e s bytes){A:Option Addr}{n c p:Nat}(hp:p≤n)(W:World):
  (Instr.sliceAt t (.slice A n c) (some (.int .i64 (p:Int))) none none).run P W=.ok (.slice (if c=p then A else A.map (·.add (p * s))) (n - p) (c - p)) W:=by
 obtain⟨z,hi,hzs⟩:=E.i;obtain⟨i0,hi0,hz0,hz1,hz2⟩:=info_parts hi;have hu:(underlying t).run P W=.ok (.slice e) W:=by simp[underlying,go_sem,E.t]
 have hz:(sizeOf e).run P W=.ok s W:=by simp[sizeOf,typeInfo,go_sem,hi0,hz1]
 simp[Instr.sliceAt,Instr.slice,Instr.sliceBounds,Instr.sliceBound,go_sem,hu,hz,hp]
theorem wpList_slice_from{P:Program}{t e:TypeId}{s bytes:Nat}(E:ElemK P t e s bytes){A:Option Addr}{n c p:Nat}{W:World}
  {ops:Array Oper} {rest:List Oper} {o:Oper} {a:Act} {Q:Exit→Act→World→Prop} (x i:Operand) (hgd:o.guard=none)
  (ho:o.op=.slice t x (some i) none none) (hx:a.eval x=.slice A n c) (hi:a.eval i=.int .i64 (p:Int)) (hp:p≤n) {v:Value} (hv:v=.slice (if c=p then A else A.map (·.add (p * s))) (n - p) (c - p))
  (h:wpList P ops Q rest (a.put o.dst v) W):wpList P ops Q (o::rest) a W:=
 wpList_plain hgd λ_ hK=>by
  unfold Oper.wp execOp;simp only[ho,Option.map_some,Option.map_none,hx,hi,run_slice_from E hp,Sem.run_bind,Sem.run_pure,Result.andThen_ok,←hv];exact hK _ _ h
theorem madeR1{Q:Exit→Act→World→Prop}{wa w11 w12 w13 w21 w22 w23 w31 w32 w33:World}{bs n c k rc d1 d2 d3:Nat}{A rA B1 B2 B3:Option Addr}{v11 v12 v21 v22 v31 v32:Value}{rows:List Value}{a b n':Int}{s t u:ByteArray}{cs:Array Value}
  (hb:Blk wa bs 36 cs) (hcs:cs[1]? =some (.slice A n c)) (he:Blk wa (bs+1) 42 #[.int .i64 1,.int .i64 a,.int .i64 b,.int .i64 n',.string s,.string t,.string u]) (hk:k≤n) (hkc:n≤c) (hcm:c≤maxLen)
  (r11:∀ty,(Builtin.append_ #[31,31] ty #[.slice (some ⟨wa.heap.size,0,none⟩) 0 0,.slice A k c]).run Tryz.prog ((wa.alloc (.cells #[] 79)).alloc (.cells #[.int .i64 a,.int .i64 b,.string s] 79)).drew=.ok v11 w11)
  (r12:∀ty,(Builtin.append_ #[31,31] ty #[v11,.slice (some ⟨wa.heap.size+1,0,none⟩) 1 1]).run Tryz.prog w11=.ok v12 w12)
  (r13:∀ty,(Builtin.append_ #[31,31] ty #[v12,.slice rA (n - k) rc]).run Tryz.prog w12=.ok (.slice B1 (k+1+(n - k)) d1) w13)
  (h1:RowK 79 3 wa w13 (.slice B1 (k+1+(n - k)) d1) (k+1+(n - k)) rows) (f11:Frm Nix wa w11) (f12:Frm Nix wa w12)
  (r21:∀ty,(Builtin.append_ #[31,31] ty #[.slice (some ⟨wa.heap.size,0,none⟩) 0 0,.slice A k c]).run Tryz.prog (wa.alloc (.cells #[] 79)).drew=.ok v21 w21)
  (r22:∀ty,(Builtin.append_ #[31,31] ty #[v21,.slice (some ⟨w21.heap.size,0,none⟩) 1 1]).run Tryz.prog (w21.alloc (.cells #[.int .i64 a,.int .i64 b,.string s] 79))=.ok v22 w22)
  (r23:∀ty,(Builtin.append_ #[31,31] ty #[v22,.slice rA (n - k) rc]).run Tryz.prog w22=.ok (.slice B2 (k+1+(n - k)) d2) w23)
  (h2:RowK 79 3 wa w23 (.slice B2 (k+1+(n - k)) d2) (k+1+(n - k)) rows) (f21:Frm Nix wa w21) (f22:Frm Nix wa w22)
  (r31:∀ty,(Builtin.append_ #[31,31] ty #[.slice (some ⟨wa.heap.size+1,0,none⟩) 0 0,.slice A k c]).run Tryz.prog ((wa.alloc (.cells #[.int .i64 a,.int .i64 b,.string s] 79)).alloc (.cells #[] 79)).drew=.ok v31 w31)
  (r32:∀ty,(Builtin.append_ #[31,31] ty #[v31,.slice (some ⟨wa.heap.size,0,none⟩) 1 1]).run Tryz.prog w31=.ok v32 w32)
  (r33:∀ty,(Builtin.append_ #[31,31] ty #[v32,.slice rA (n - k) rc]).run Tryz.prog w32=.ok (.slice B3 (k+1+(n - k)) d3) w33)
  (h3:RowK 79 3 wa w33 (.slice B3 (k+1+(n - k)) d3) (k+1+(n - k)) rows) (f31:Frm Nix wa w31) (f32:Frm Nix wa w32)
  {u0 u1 u4 u7 u8 u9 u10 u11 u12 u13 u14 u15 u16 u17 u18 u19 u20 u21 u22 u23 u24 u25 u26 u27 u28 u29 u30 u31 u32 u33 u34 u35 u36 u37 u38 u39 u40 u41 u42 u43 u44 u45 u46 u47 u48 u49 u50 u51 u52 u53 u54 u55 u56 u57 u58 u59 u60 u61 u62 u63 u64 u65 u66 u67 u68 u69 u70 u71 u72 u73 u74 u75 u76 u77 u78 u79 u80 u81 u82 u83 u84 u85 u86 u87 u88 u89 u90 u91 u92 u93 u94 u95 u96 u97 u98 u99 u100 u101 u102 u103 u104 u105 u106 u107 u108 u109 u110 u111 u112 u113 u114 u115 u116 u117 u118 u119 u120 u121 u122 u123 u124 u125 u126 u127 u128 u129 u130 u131 u132 u133 u134 u135 u136 u137 u138 u139 u140 u141 u142 u143 u144 u145 u146 u147 u148 u149 u150 u151 u152 u153 u154 u155 u156 u157 u158 u159 u160 u161 u162 u163 u164 u165 u166 u167 u168 u169 u170 u171 u172 u173 u174 u175 u176 u177 u178 u179 u180 u181 u182 u183 u184 u185 u186 u187 u188 u189 u190 u191 u192 u193 u194 u195 u196 u197 u198 u199 u200 u201 u202 u203 u204 u205 u206 u207 u208 u209 u210 u211 u212 u213 u214 u215 u216 u217 u218 u219 u220:Value} (hP:∀(e:_) (a:Act) (i:Nat) (v:Value) (w:World),Q (.panic e) (a.put (some i) v) w→Q (.panic e) a w) (hQ:∀(wc:World) (B:Option Addr) (d:Nat) (z0 z5 z13 z14:Value),RowK 79 3 wa wc (.slice B (k+1+(n - k)) d) (k+1+(n - k)) rows→Q .normal ⟨#[u0,u1,.pointer (some ⟨bs,0,none⟩),.pointer (some ⟨bs+1,0,none⟩),u4,.int .i64 k,.slice rA (n - k) rc,u7,u8,u9,u10,u11,u12,u13,u14,u15,u16,u17,u18,u19,u20,u21,u22,u23,u24,u25,u26,u27,u28,u29,u30,u31,u32,u33,u34,u35,u36,u37,z0,.pointer (some ⟨bs,1,none⟩),.slice A n c,.int .i64 k,.slice A k c,z5,.pointer (some ⟨bs+1,1,none⟩),.int .i64 a,.pointer (some ⟨bs+1,2,none⟩),.int .i64 b,.pointer (some ⟨bs+1,4,none⟩),.string s,.agg #[.int .i64 a,.int .i64 b,.string s],z13,z14,.slice rA (n - k) rc,.slice B (k+1+(n - k)) d,.pointer (some ⟨bs,1,none⟩),u56,u57,u58,u59,u60,u61,u62,u63,u64,u65,u66,u67,u68,u69,u70,u71,u72,u73,u74,u75,u76,u77,u78,u79,u80,u81,u82,u83,u84,u85,u86,u87,u88,u89,u90,u91,u92,u93,u94,u95,u96,u97,u98,u99,u100,u101,u102,u103,u104,u105,u106,u107,u108,u109,u110,u111,u112,u113,u114,u115,u116,u117,u118,u119,u120,u121,u122,u123,u124,u125,u126,u127,u128,u129,u130,u131,u132,u133,u134,u135,u136,u137,u138,u139,u140,u141,u142,u143,u144,u145,u146,u147,u148,u149,u150,u151,u152,u153,u154,u155,u156,u157,u158,u159,u160,u161,u162,u163,u164,u165,u166,u167,u168,u169,u170,u171,u172,u173,u174,u175,u176,u177,u178,u179,u180,u181,u182,u183,u184,u185,u186,u187,u188,u189,u190,u191,u192,u193,u194,u195,u196,u197,u198,u199,u200,u201,u202,u203,u204,u205,u206,u207,u208,u209,u210,u211,u212,u213,u214,u215,u216,u217,u218,u219,u220],[]⟩ (wc.setCell ⟨bs,1,none⟩ (.slice B (k+1+(n - k)) d))):
  Code.wp Tryz.prog (hdC (sndC (sndC (thenC (sndC (inC (sndC (hdC (peel 2 (bodyOf Tryz.f31)))))))))) Q ⟨#[u0,u1,.pointer (some ⟨bs,0,none⟩),.pointer (some ⟨bs+1,0,none⟩),u4,.int .i64 k,.slice rA (n - k) rc,u7,u8,u9,u10,u11,u12,u13,u14,u15,u16,u17,u18,u19,u20,u21,u22,u23,u24,u25,u26,u27,u28,u29,u30,u31,u32,u33,u34,u35,u36,u37,u38,u39,u40,u41,u42,u43,u44,u45,u46,u47,u48,u49,u50,u51,u52,u53,u54,u55,u56,u57,u58,u59,u60,u61,u62,u63,u64,u65,u66,u67,u68,u69,u70,u71,u72,u73,u74,u75,u76,u77,u78,u79,u80,u81,u82,u83,u84,u85,u86,u87,u88,u89,u90,u91,u92,u93,u94,u95,u96,u97,u98,u99,u100,u101,u102,u103,u104,u105,u106,u107,u108,u109,u110,u111,u112,u113,u114,u115,u116,u117,u118,u119,u120,u121,u122,u123,u124,u125,u126,u127,u128,u129,u130,u131,u132,u133,u134,u135,u136,u137,u138,u139,u140,u141,u142,u143,u144,u145,u146,u147,u148,u149,u150,u151,u152,u153,u154,u155,u156,u157,u158,u159,u160,u161,u162,u163,u164,u165,u166,u167,u168,u169,u170,u171,u172,u173,u174,u175,u176,u177,u178,u179,u180,u181,u182,u183,u184,u185,u186,u187,u188,u189,u190,u191,u192,u193,u194,u195,u196,u197,u198,u199,u200,u201,u202,u203,u204,u205,u206,u207,u208,u209,u210,u211,u212,u213,u214,u215,u216,u217,u218,u219,u220],[]⟩ wa:=by
 have HB:=h_ hb;have HE:=h_ he;have HCS:Hid (∀W,Frm Nix wa W→W.cell? ⟨bs+1,1,none⟩=some (.int .i64 a)∧W.cell? ⟨bs+1,2,none⟩=some (.int .i64 b)∧W.cell? ⟨bs+1,4,none⟩=some (.string s)):=λW hW=>⟨((he.frm hW id).cell 1).trans rfl,((he.frm hW id).cell 2).trans rfl,((he.frm hW id).cell 4).trans rfl⟩
 have cx:∀{W:World},Frm Nix wa W→W.cell? ⟨bs,1,none⟩=some (.slice A n c):=λhW=>((hb.frm hW id).cell 1).trans hcs
 have cf:∀{W:World},Frm Nix wa W→W.frozen? ⟨bs,1,none⟩=false:=λhW=>(hb.frm hW id).frozen 1
 have HST:Hid (∀(W:World) (B:Option Addr) (d:Nat),(W.cell? ⟨bs+1,1,none⟩=some (.int .i64 a)∧W.cell? ⟨bs+1,2,none⟩=some (.int .i64 b)∧W.cell? ⟨bs+1,4,none⟩=some (.string s))→(λW:World=>W.cell? ⟨bs+1,1,none⟩=some (.int .i64 a)∧W.cell? ⟨bs+1,2,none⟩=some (.int .i64 b)∧W.cell? ⟨bs+1,4,none⟩=some (.string s)) (W.setCell ⟨bs,1,none⟩ (.slice B (k+1+(n - k)) d))):=by
  rintro W B d ⟨q1,q2,q4⟩;exact⟨(World.cell?_setCell_far _ _ _ _ (by simp)).trans q1,(World.cell?_setCell_far _ _ _ _ (by simp)).trans q2,(World.cell?_setCell_far _ _ _ _ (by simp)).trans q4⟩
 have R0:=fR wa;obtain⟨e1,e2,e4⟩:=HCS.out wa R0;have p1:=cx R0;have p2:=cx (R0.alloc (.cells #[] 79));have p3:=cx (R0.alloc (.cells #[.int .i64 a,.int .i64 b,.string s] 79));have p4:=cx ((R0.alloc (.cells #[] 79)).alloc (.cells #[.int .i64 a,.int .i64 b,.string s] 79));have p5:=cx ((R0.alloc (.cells #[.int .i64 a,.int .i64 b,.string s] 79)).alloc (.cells #[] 79));have sc1:=cx h1.frm;have sc2:=cx h2.frm;have sc3:=cx h3.frm;have sf1:=cf h1.frm;have sf2:=cf h2.frm;have sf3:=cf h3.frm;have hI0:(0:Int)≤(k:Int):=Int.natCast_nonneg _;have hI1:(k:Int)≤(c:Int):=by omega
 have hI2:(k:Int)≤(n:Int):=by omega
 have HQ:=h_ hQ;have HP:=h_ hP;have H1:=h_ h1;have H2:=h_ h2;have H3:=h_ h3;have HR0:=h_ R0;have HF:=h_ (And.intro f11 (And.intro f12 (And.intro f21 (And.intro f22 (And.intro f31 f32)))));clear hb he hcs cx cf R0 h1 h2 h3 f11 f12 f21 f22 f31 f32 hQ hP;simp only[hdC,sndC,thenC,elseC,inC,peel,bodyOf,Tryz.f31];refine wp_region_held_drew (S:=λW=>W.cell? ⟨bs+1,1,none⟩=some (.int .i64 a)∧W.cell? ⟨bs+1,2,none⟩=some (.int .i64 b)∧W.cell? ⟨bs+1,4,none⟩=some (.string s)) (by kernel_rfl) (HCS.out _ HR0.out.drew) λhH=>?_
 refine tk (i:=1) HP rfl rfl hH ?_
 try simp only[lt,Act.put]
 refine tk (i:=3) HP rfl rfl hH ?_
 try simp only[lt,Act.put]
 refine tk (i:=6) HP rfl rfl hH ?_
 try simp only[lt,Act.put]
 refine tk (i:=7) HP rfl rfl hH ?_
 try simp only[lt,Act.put]
 refine tk (i:=8) HP rfl rfl hH ?_
 try simp only[lt,Act.put]
 refine tk (i:=9) HP rfl rfl hH ?_
 try simp only[lt,Act.put]
 refine tk (i:=10) HP rfl rfl hH ?_
 try simp only[lt,Act.put]
 refine tk (i:=11) HP rfl rfl hH ?_
 try simp only[lt,Act.put]
 refine tk (i:=12) HP rfl rfl hH ?_
 try simp only[lt,Act.put]
 refine tk (i:=15) HP rfl rfl hH ?_
 try simp only[lt,Act.put]
 refine rdy3 (i:=0) (j:=2) (k:=13) rfl rfl rfl (λK hK=>?_) (λK hK=>?_) (λK hK=>?_)
 ·go_simp
  refine hK.out _ _ (HCS.out _ ((HR0.out.alloc _).drew)) (λhH=>?_);clear hK K
  try simp only[lt,Act.put]
  refine rdy2 (i:=2) (j:=13) rfl rfl (λK hK=>?_) (λK hK=>?_)
  ·go_simp
   refine hK.out _ _ (HCS.out _ ((HR0.out.alloc _).drew)) (λhH=>?_);clear hK K
   try simp only[lt,Act.put]
   refine tk (i:=4) HP rfl rfl hH ?_
   try simp only[lt,Act.put]
   refine rdy2 (i:=5) (j:=13) rfl rfl (λK hK=>?_) (λK hK=>?_)
   ·refine apr r21 ?_
    refine hK.out _ _ (HCS.out _ (HF.out.2.2.1)) (λhH=>?_);clear hK K
    try simp only[lt,Act.put]
    refine rdy1 (i:=13) rfl (λK hK=>?_);go_simp;refine hK.out _ _ (HCS.out _ (HF.out.2.2.1.alloc _)) (λhH=>?_);clear hK K
    try simp only[lt,Act.put]
    refine rdy1 (i:=14) rfl (λK hK=>?_);refine apr r22 ?_;refine hK.out _ _ (HCS.out _ (HF.out.2.2.2.1)) (λhH=>?_);clear hK K
    try simp only[lt,Act.put]
    refine rdy1 (i:=16) rfl (λK hK=>?_);refine apr r23 ?_;refine hK.out _ _ (HCS.out _ (H2.out.frm)) (λhH=>?_);clear hK K
    try simp only[lt,Act.put]
    refine tk (i:=17) HP rfl rfl hH ?_
    try simp only[lt,Act.put]
    refine rdy1 (i:=18) rfl (λK hK=>?_);go_simp;refine hK.out _ _ (HST.out _ _ _ hH) (λhH=>?_);clear hK K
    try simp only[lt,Act.put]
    refine wpAnyH_done (by kernel_rfl) ?_ _;exact HQ.out _ _ _ _ _ _ _ H2.out
   ·go_simp
    refine hK.out _ _ (HCS.out _ (((HR0.out.alloc _).alloc _).drew)) (λhH=>?_);clear hK K
    try simp only[lt,Act.put]
    refine rdy1 (i:=5) rfl (λK hK=>?_);refine apr r11 ?_;refine hK.out _ _ (HCS.out _ (HF.out.1)) (λhH=>?_);clear hK K
    try simp only[lt,Act.put]
    refine rdy1 (i:=14) rfl (λK hK=>?_);refine apr r12 ?_;refine hK.out _ _ (HCS.out _ (HF.out.2.1)) (λhH=>?_);clear hK K
    try simp only[lt,Act.put]
    refine rdy1 (i:=16) rfl (λK hK=>?_);refine apr r13 ?_;refine hK.out _ _ (HCS.out _ (H1.out.frm)) (λhH=>?_);clear hK K
    try simp only[lt,Act.put]
    refine tk (i:=17) HP rfl rfl hH ?_
    try simp only[lt,Act.put]
    refine rdy1 (i:=18) rfl (λK hK=>?_);go_simp;refine hK.out _ _ (HST.out _ _ _ hH) (λhH=>?_);clear hK K
    try simp only[lt,Act.put]
    refine wpAnyH_done (by kernel_rfl) ?_ _;exact HQ.out _ _ _ _ _ _ _ H1.out
  ·go_simp
   refine hK.out _ _ (HCS.out _ (((HR0.out.alloc _).alloc _).drew)) (λhH=>?_);clear hK K
   try simp only[lt,Act.put]
   refine rdy1 (i:=2) rfl (λK hK=>?_);go_simp;refine hK.out _ _ (HCS.out _ (((HR0.out.alloc _).alloc _).drew)) (λhH=>?_);clear hK K
   try simp only[lt,Act.put]
   refine tk (i:=4) HP rfl rfl hH ?_
   try simp only[lt,Act.put]
   refine rdy1 (i:=5) rfl (λK hK=>?_);refine apr r11 ?_;refine hK.out _ _ (HCS.out _ (HF.out.1)) (λhH=>?_);clear hK K
   try simp only[lt,Act.put]
   refine rdy1 (i:=14) rfl (λK hK=>?_);refine apr r12 ?_;refine hK.out _ _ (HCS.out _ (HF.out.2.1)) (λhH=>?_);clear hK K
   try simp only[lt,Act.put]
   refine rdy1 (i:=16) rfl (λK hK=>?_);refine apr r13 ?_;refine hK.out _ _ (HCS.out _ (H1.out.frm)) (λhH=>?_);clear hK K
   try simp only[lt,Act.put]
   refine tk (i:=17) HP rfl rfl hH ?_
   try simp only[lt,Act.put]
   refine rdy1 (i:=18) rfl (λK hK=>?_);go_simp;refine hK.out _ _ (HST.out _ _ _ hH) (λhH=>?_);clear hK K
   try simp only[lt,Act.put]
   refine wpAnyH_done (by kernel_rfl) ?_ _;exact HQ.out _ _ _ _ _ _ _ H1.out
 ·go_simp
  refine hK.out _ _ (HCS.out _ ((HR0.out).drew)) (λhH=>?_);clear hK K
  try simp only[lt,Act.put]
  refine tk (i:=4) HP rfl rfl hH ?_
  try simp only[lt,Act.put]
  refine rdy2 (i:=0) (j:=13) rfl rfl (λK hK=>?_) (λK hK=>?_)
  ·go_simp
   refine hK.out _ _ (HCS.out _ ((HR0.out.alloc _).drew)) (λhH=>?_);clear hK K
   try simp only[lt,Act.put]
   refine rdy2 (i:=5) (j:=13) rfl rfl (λK hK=>?_) (λK hK=>?_)
   ·refine apr r21 ?_
    refine hK.out _ _ (HCS.out _ (HF.out.2.2.1)) (λhH=>?_);clear hK K
    try simp only[lt,Act.put]
    refine rdy1 (i:=13) rfl (λK hK=>?_);go_simp;refine hK.out _ _ (HCS.out _ (HF.out.2.2.1.alloc _)) (λhH=>?_);clear hK K
    try simp only[lt,Act.put]
    refine rdy1 (i:=14) rfl (λK hK=>?_);refine apr r22 ?_;refine hK.out _ _ (HCS.out _ (HF.out.2.2.2.1)) (λhH=>?_);clear hK K
    try simp only[lt,Act.put]
    refine rdy1 (i:=16) rfl (λK hK=>?_);refine apr r23 ?_;refine hK.out _ _ (HCS.out _ (H2.out.frm)) (λhH=>?_);clear hK K
    try simp only[lt,Act.put]
    refine tk (i:=17) HP rfl rfl hH ?_
    try simp only[lt,Act.put]
    refine rdy1 (i:=18) rfl (λK hK=>?_);go_simp;refine hK.out _ _ (HST.out _ _ _ hH) (λhH=>?_);clear hK K
    try simp only[lt,Act.put]
    refine wpAnyH_done (by kernel_rfl) ?_ _;exact HQ.out _ _ _ _ _ _ _ H2.out
   ·go_simp
    refine hK.out _ _ (HCS.out _ (((HR0.out.alloc _).alloc _).drew)) (λhH=>?_);clear hK K
    try simp only[lt,Act.put]
    refine rdy1 (i:=5) rfl (λK hK=>?_);refine apr r11 ?_;refine hK.out _ _ (HCS.out _ (HF.out.1)) (λhH=>?_);clear hK K
    try simp only[lt,Act.put]
    refine rdy1 (i:=14) rfl (λK hK=>?_);refine apr r12 ?_;refine hK.out _ _ (HCS.out _ (HF.out.2.1)) (λhH=>?_);clear hK K
    try simp only[lt,Act.put]
    refine rdy1 (i:=16) rfl (λK hK=>?_);refine apr r13 ?_;refine hK.out _ _ (HCS.out _ (H1.out.frm)) (λhH=>?_);clear hK K
    try simp only[lt,Act.put]
    refine tk (i:=17) HP rfl rfl hH ?_
    try simp only[lt,Act.put]
    refine rdy1 (i:=18) rfl (λK hK=>?_);go_simp;refine hK.out _ _ (HST.out _ _ _ hH) (λhH=>?_);clear hK K
    try simp only[lt,Act.put]
    refine wpAnyH_done (by kernel_rfl) ?_ _;exact HQ.out _ _ _ _ _ _ _ H1.out
  ·go_simp
   refine hK.out _ _ (HCS.out _ ((HR0.out.alloc _).drew)) (λhH=>?_);clear hK K
   try simp only[lt,Act.put]
   refine rdy1 (i:=0) rfl (λK hK=>?_);go_simp;refine hK.out _ _ (HCS.out _ (((HR0.out.alloc _).alloc _).drew)) (λhH=>?_);clear hK K
   try simp only[lt,Act.put]
   refine rdy1 (i:=5) rfl (λK hK=>?_);refine apr r31 ?_;refine hK.out _ _ (HCS.out _ (HF.out.2.2.2.2.1)) (λhH=>?_);clear hK K
   try simp only[lt,Act.put]
   refine rdy1 (i:=14) rfl (λK hK=>?_);refine apr r32 ?_;refine hK.out _ _ (HCS.out _ (HF.out.2.2.2.2.2)) (λhH=>?_);clear hK K
   try simp only[lt,Act.put]
   refine rdy1 (i:=16) rfl (λK hK=>?_);refine apr r33 ?_;refine hK.out _ _ (HCS.out _ (H3.out.frm)) (λhH=>?_);clear hK K
   try simp only[lt,Act.put]
   refine tk (i:=17) HP rfl rfl hH ?_
   try simp only[lt,Act.put]
   refine rdy1 (i:=18) rfl (λK hK=>?_);go_simp;refine hK.out _ _ (HST.out _ _ _ hH) (λhH=>?_);clear hK K
   try simp only[lt,Act.put]
   refine wpAnyH_done (by kernel_rfl) ?_ _;exact HQ.out _ _ _ _ _ _ _ H3.out
 ·go_simp
  refine hK.out _ _ (HCS.out _ ((HR0.out.alloc _).drew)) (λhH=>?_);clear hK K
  try simp only[lt,Act.put]
  refine rdy2 (i:=0) (j:=2) rfl rfl (λK hK=>?_) (λK hK=>?_)
  ·go_simp
   refine hK.out _ _ (HCS.out _ (((HR0.out.alloc _).alloc _).drew)) (λhH=>?_);clear hK K
   try simp only[lt,Act.put]
   refine rdy1 (i:=2) rfl (λK hK=>?_);go_simp;refine hK.out _ _ (HCS.out _ (((HR0.out.alloc _).alloc _).drew)) (λhH=>?_);clear hK K
   try simp only[lt,Act.put]
   refine tk (i:=4) HP rfl rfl hH ?_
   try simp only[lt,Act.put]
   refine rdy1 (i:=5) rfl (λK hK=>?_);refine apr r31 ?_;refine hK.out _ _ (HCS.out _ (HF.out.2.2.2.2.1)) (λhH=>?_);clear hK K
   try simp only[lt,Act.put]
   refine rdy1 (i:=14) rfl (λK hK=>?_);refine apr r32 ?_;refine hK.out _ _ (HCS.out _ (HF.out.2.2.2.2.2)) (λhH=>?_);clear hK K
   try simp only[lt,Act.put]
   refine rdy1 (i:=16) rfl (λK hK=>?_);refine apr r33 ?_;refine hK.out _ _ (HCS.out _ (H3.out.frm)) (λhH=>?_);clear hK K
   try simp only[lt,Act.put]
   refine tk (i:=17) HP rfl rfl hH ?_
   try simp only[lt,Act.put]
   refine rdy1 (i:=18) rfl (λK hK=>?_);go_simp;refine hK.out _ _ (HST.out _ _ _ hH) (λhH=>?_);clear hK K
   try simp only[lt,Act.put]
   refine wpAnyH_done (by kernel_rfl) ?_ _;exact HQ.out _ _ _ _ _ _ _ H3.out
  ·go_simp
   refine hK.out _ _ (HCS.out _ ((HR0.out.alloc _).drew)) (λhH=>?_);clear hK K
   try simp only[lt,Act.put]
   refine tk (i:=4) HP rfl rfl hH ?_
   try simp only[lt,Act.put]
   refine rdy1 (i:=0) rfl (λK hK=>?_);go_simp;refine hK.out _ _ (HCS.out _ (((HR0.out.alloc _).alloc _).drew)) (λhH=>?_);clear hK K
   try simp only[lt,Act.put]
   refine rdy1 (i:=5) rfl (λK hK=>?_);refine apr r31 ?_;refine hK.out _ _ (HCS.out _ (HF.out.2.2.2.2.1)) (λhH=>?_);clear hK K
   try simp only[lt,Act.put]
   refine rdy1 (i:=14) rfl (λK hK=>?_);refine apr r32 ?_;refine hK.out _ _ (HCS.out _ (HF.out.2.2.2.2.2)) (λhH=>?_);clear hK K
   try simp only[lt,Act.put]
   refine rdy1 (i:=16) rfl (λK hK=>?_);refine apr r33 ?_;refine hK.out _ _ (HCS.out _ (H3.out.frm)) (λhH=>?_);clear hK K
   try simp only[lt,Act.put]
   refine tk (i:=17) HP rfl rfl hH ?_
   try simp only[lt,Act.put]
   refine rdy1 (i:=18) rfl (λK hK=>?_);go_simp;refine hK.out _ _ (HST.out _ _ _ hH) (λhH=>?_);clear hK K
   try simp only[lt,Act.put]
   refine wpAnyH_done (by kernel_rfl) ?_ _;exact HQ.out _ _ _ _ _ _ _ H3.out
theorem madeR3{Q:Exit→Act→World→Prop}{wa w11 w12 w13 w21 w22 w23 w31 w32 w33:World}{bs n c k rc d1 d2 d3:Nat}{A rA B1 B2 B3:Option Addr}{v11 v12 v21 v22 v31 v32:Value}{rows:List Value}{a b n':Int}{s t u:ByteArray}{cs:Array Value}
  (hb:Blk wa bs 36 cs) (hcs:cs[2]? =some (.slice A n c)) (he:Blk wa (bs+1) 42 #[.int .i64 3,.int .i64 a,.int .i64 b,.int .i64 n',.string s,.string t,.string u]) (hk:k≤n) (hkc:n≤c) (hcm:c≤maxLen)
  (r11:∀ty,(Builtin.append_ #[32,32] ty #[.slice (some ⟨wa.heap.size,0,none⟩) 0 0,.slice A k c]).run Tryz.prog ((wa.alloc (.cells #[] 64)).alloc (.cells #[.int .i64 a,.int .i64 b,.string s,.string t] 64)).drew=.ok v11 w11)
  (r12:∀ty,(Builtin.append_ #[32,32] ty #[v11,.slice (some ⟨wa.heap.size+1,0,none⟩) 1 1]).run Tryz.prog w11=.ok v12 w12)
  (r13:∀ty,(Builtin.append_ #[32,32] ty #[v12,.slice rA (n - k) rc]).run Tryz.prog w12=.ok (.slice B1 (k+1+(n - k)) d1) w13)
  (h1:RowK 64 4 wa w13 (.slice B1 (k+1+(n - k)) d1) (k+1+(n - k)) rows) (f11:Frm Nix wa w11) (f12:Frm Nix wa w12)
  (r21:∀ty,(Builtin.append_ #[32,32] ty #[.slice (some ⟨wa.heap.size,0,none⟩) 0 0,.slice A k c]).run Tryz.prog (wa.alloc (.cells #[] 64)).drew=.ok v21 w21)
  (r22:∀ty,(Builtin.append_ #[32,32] ty #[v21,.slice (some ⟨w21.heap.size,0,none⟩) 1 1]).run Tryz.prog (w21.alloc (.cells #[.int .i64 a,.int .i64 b,.string s,.string t] 64))=.ok v22 w22)
  (r23:∀ty,(Builtin.append_ #[32,32] ty #[v22,.slice rA (n - k) rc]).run Tryz.prog w22=.ok (.slice B2 (k+1+(n - k)) d2) w23)
  (h2:RowK 64 4 wa w23 (.slice B2 (k+1+(n - k)) d2) (k+1+(n - k)) rows) (f21:Frm Nix wa w21) (f22:Frm Nix wa w22)
  (r31:∀ty,(Builtin.append_ #[32,32] ty #[.slice (some ⟨wa.heap.size+1,0,none⟩) 0 0,.slice A k c]).run Tryz.prog ((wa.alloc (.cells #[.int .i64 a,.int .i64 b,.string s,.string t] 64)).alloc (.cells #[] 64)).drew=.ok v31 w31)
  (r32:∀ty,(Builtin.append_ #[32,32] ty #[v31,.slice (some ⟨wa.heap.size,0,none⟩) 1 1]).run Tryz.prog w31=.ok v32 w32)
  (r33:∀ty,(Builtin.append_ #[32,32] ty #[v32,.slice rA (n - k) rc]).run Tryz.prog w32=.ok (.slice B3 (k+1+(n - k)) d3) w33)
  (h3:RowK 64 4 wa w33 (.slice B3 (k+1+(n - k)) d3) (k+1+(n - k)) rows) (f31:Frm Nix wa w31) (f32:Frm Nix wa w32)
  {u0 u1 u4 u6 u8 u9 u10 u11 u12 u13 u14 u15 u16 u17 u18 u19 u20 u21 u22 u23 u24 u25 u26 u27 u28 u29 u30 u31 u32 u33 u34 u35 u36 u37 u38 u39 u40 u41 u42 u43 u44 u45 u46 u47 u48 u49 u50 u51 u52 u53 u54 u55 u56 u57 u58 u59 u60 u61 u62 u63 u64 u65 u66 u67 u68 u69 u70 u71 u72 u73 u74 u75 u76 u77 u78 u79 u80 u81 u82 u83 u84 u85 u86 u87 u88 u89 u90 u91 u92 u93 u94 u95 u96 u97 u98 u99 u100 u101 u102 u103 u104 u105 u106 u107 u108 u109 u110 u111 u112 u113 u114 u115 u116 u117 u118 u119 u120 u121 u122 u123 u124 u125 u126 u127 u128 u129 u130 u131 u132 u133 u134 u135 u136 u137 u138 u139 u140 u141 u142 u143 u144 u145 u146 u147 u148 u149 u150 u151 u152 u153 u154 u155 u156 u157 u158 u159 u160 u161 u162 u163 u164 u165 u166 u167 u168 u169 u170 u171 u172 u173 u174 u175 u176 u177 u178 u179 u180 u181 u182 u183 u184 u185 u186 u187 u188 u189 u190 u191 u192 u193 u194 u195 u196 u197 u198 u199 u200 u201 u202 u203 u204 u205 u206 u207 u208 u209 u210 u211 u212 u213 u214 u215 u216 u217 u218 u219 u220:Value} (hP:∀(e:_) (a:Act) (i:Nat) (v:Value) (w:World),Q (.panic e) (a.put (some i) v) w→Q (.panic e) a w) (hQ:∀(wc:World) (B:Option Addr) (d:Nat) (z0 z5 z13 z14:Value),RowK 64 4 wa wc (.slice B (k+1+(n - k)) d) (k+1+(n - k)) rows→Q .normal ⟨#[u0,u1,.pointer (some ⟨bs,0,none⟩),.pointer (some ⟨bs+1,0,none⟩),u4,.int .i64 k,u6,.slice rA (n - k) rc,u8,u9,u10,u11,u12,u13,u14,u15,u16,u17,u18,u19,u20,u21,u22,u23,u24,u25,u26,u27,u28,u29,u30,u31,u32,u33,u34,u35,u36,u37,u38,u39,u40,u41,u42,u43,u44,u45,u46,u47,u48,u49,u50,u51,u52,u53,u54,u55,u56,u57,u58,u59,u60,u61,u62,u63,u64,u65,u66,u67,u68,u69,u70,u71,u72,u73,u74,u75,u76,u77,u78,u79,u80,u81,u82,u83,u84,u85,u86,u87,z0,.pointer (some ⟨bs,2,none⟩),.slice A n c,.int .i64 k,.slice A k c,z5,.pointer (some ⟨bs+1,1,none⟩),.int .i64 a,.pointer (some ⟨bs+1,2,none⟩),.int .i64 b,.pointer (some ⟨bs+1,4,none⟩),.string s,.pointer (some ⟨bs+1,5,none⟩),.string t,.agg #[.int .i64 a,.int .i64 b,.string s,.string t],z13,z14,.slice rA (n - k) rc,.slice B (k+1+(n - k)) d,.pointer (some ⟨bs,2,none⟩),u108,u109,u110,u111,u112,u113,u114,u115,u116,u117,u118,u119,u120,u121,u122,u123,u124,u125,u126,u127,u128,u129,u130,u131,u132,u133,u134,u135,u136,u137,u138,u139,u140,u141,u142,u143,u144,u145,u146,u147,u148,u149,u150,u151,u152,u153,u154,u155,u156,u157,u158,u159,u160,u161,u162,u163,u164,u165,u166,u167,u168,u169,u170,u171,u172,u173,u174,u175,u176,u177,u178,u179,u180,u181,u182,u183,u184,u185,u186,u187,u188,u189,u190,u191,u192,u193,u194,u195,u196,u197,u198,u199,u200,u201,u202,u203,u204,u205,u206,u207,u208,u209,u210,u211,u212,u213,u214,u215,u216,u217,u218,u219,u220],[]⟩ (wc.setCell ⟨bs,2,none⟩ (.slice B (k+1+(n - k)) d))):
  Code.wp Tryz.prog (hdC (sndC (sndC (thenC (sndC (elseC (sndC (inC (sndC (hdC (peel 2 (bodyOf Tryz.f31)))))))))))) Q ⟨#[u0,u1,.pointer (some ⟨bs,0,none⟩),.pointer (some ⟨bs+1,0,none⟩),u4,.int .i64 k,u6,.slice rA (n - k) rc,u8,u9,u10,u11,u12,u13,u14,u15,u16,u17,u18,u19,u20,u21,u22,u23,u24,u25,u26,u27,u28,u29,u30,u31,u32,u33,u34,u35,u36,u37,u38,u39,u40,u41,u42,u43,u44,u45,u46,u47,u48,u49,u50,u51,u52,u53,u54,u55,u56,u57,u58,u59,u60,u61,u62,u63,u64,u65,u66,u67,u68,u69,u70,u71,u72,u73,u74,u75,u76,u77,u78,u79,u80,u81,u82,u83,u84,u85,u86,u87,u88,u89,u90,u91,u92,u93,u94,u95,u96,u97,u98,u99,u100,u101,u102,u103,u104,u105,u106,u107,u108,u109,u110,u111,u112,u113,u114,u115,u116,u117,u118,u119,u120,u121,u122,u123,u124,u125,u126,u127,u128,u129,u130,u131,u132,u133,u134,u135,u136,u137,u138,u139,u140,u141,u142,u143,u144,u145,u146,u147,u148,u149,u150,u151,u152,u153,u154,u155,u156,u157,u158,u159,u160,u161,u162,u163,u164,u165,u166,u167,u168,u169,u170,u171,u172,u173,u174,u175,u176,u177,u178,u179,u180,u181,u182,u183,u184,u185,u186,u187,u188,u189,u190,u191,u192,u193,u194,u195,u196,u197,u198,u199,u200,u201,u202,u203,u204,u205,u206,u207,u208,u209,u210,u211,u212,u213,u214,u215,u216,u217,u218,u219,u220],[]⟩ wa:=by
 have HB:=h_ hb;have HE:=h_ he;have HCS:Hid (∀W,Frm Nix wa W→W.cell? ⟨bs+1,1,none⟩=some (.int .i64 a)∧W.cell? ⟨bs+1,2,none⟩=some (.int .i64 b)∧W.cell? ⟨bs+1,4,none⟩=some (.string s)∧W.cell? ⟨bs+1,5,none⟩=some (.string t)):=λW hW=>⟨((he.frm hW id).cell 1).trans rfl,((he.frm hW id).cell 2).trans rfl,((he.frm hW id).cell 4).trans rfl,((he.frm hW id).cell 5).trans rfl⟩
 have cx:∀{W:World},Frm Nix wa W→W.cell? ⟨bs,2,none⟩=some (.slice A n c):=λhW=>((hb.frm hW id).cell 2).trans hcs
 have cf:∀{W:World},Frm Nix wa W→W.frozen? ⟨bs,2,none⟩=false:=λhW=>(hb.frm hW id).frozen 2
 have HST:Hid (∀(W:World) (B:Option Addr) (d:Nat),(W.cell? ⟨bs+1,1,none⟩=some (.int .i64 a)∧W.cell? ⟨bs+1,2,none⟩=some (.int .i64 b)∧W.cell? ⟨bs+1,4,none⟩=some (.string s)∧W.cell? ⟨bs+1,5,none⟩=some (.string t))→(λW:World=>W.cell? ⟨bs+1,1,none⟩=some (.int .i64 a)∧W.cell? ⟨bs+1,2,none⟩=some (.int .i64 b)∧W.cell? ⟨bs+1,4,none⟩=some (.string s)∧W.cell? ⟨bs+1,5,none⟩=some (.string t)) (W.setCell ⟨bs,2,none⟩ (.slice B (k+1+(n - k)) d))):=by
  rintro W B d ⟨q1,q2,q4,q5⟩;exact⟨(World.cell?_setCell_far _ _ _ _ (by simp)).trans q1,(World.cell?_setCell_far _ _ _ _ (by simp)).trans q2,(World.cell?_setCell_far _ _ _ _ (by simp)).trans q4,(World.cell?_setCell_far _ _ _ _ (by simp)).trans q5⟩
 have R0:=fR wa;obtain⟨e1,e2,e4,e5⟩:=HCS.out wa R0;have p1:=cx R0;have p2:=cx (R0.alloc (.cells #[] 64));have p3:=cx (R0.alloc (.cells #[.int .i64 a,.int .i64 b,.string s,.string t] 64));have p4:=cx ((R0.alloc (.cells #[] 64)).alloc (.cells #[.int .i64 a,.int .i64 b,.string s,.string t] 64));have p5:=cx ((R0.alloc (.cells #[.int .i64 a,.int .i64 b,.string s,.string t] 64)).alloc (.cells #[] 64));have sc1:=cx h1.frm;have sc2:=cx h2.frm;have sc3:=cx h3.frm;have sf1:=cf h1.frm;have sf2:=cf h2.frm;have sf3:=cf h3.frm;have hI0:(0:Int)≤(k:Int):=Int.natCast_nonneg _;have hI1:(k:Int)≤(c:Int):=by omega
 have hI2:(k:Int)≤(n:Int):=by omega
 have HQ:=h_ hQ;have HP:=h_ hP;have H1:=h_ h1;have H2:=h_ h2;have H3:=h_ h3;have HR0:=h_ R0;have HF:=h_ (And.intro f11 (And.intro f12 (And.intro f21 (And.intro f22 (And.intro f31 f32)))));clear hb he hcs cx cf R0 h1 h2 h3 f11 f12 f21 f22 f31 f32 hQ hP;simp only[hdC,sndC,thenC,elseC,inC,peel,bodyOf,Tryz.f31];refine wp_region_held_drew (S:=λW=>W.cell? ⟨bs+1,1,none⟩=some (.int .i64 a)∧W.cell? ⟨bs+1,2,none⟩=some (.int .i64 b)∧W.cell? ⟨bs+1,4,none⟩=some (.string s)∧W.cell? ⟨bs+1,5,none⟩=some (.string t)) (by kernel_rfl) (HCS.out _ HR0.out.drew) λhH=>?_
 refine tk (i:=1) HP rfl rfl hH ?_
 try simp only[lt,Act.put]
 refine tk (i:=3) HP rfl rfl hH ?_
 try simp only[lt,Act.put]
 refine tk (i:=6) HP rfl rfl hH ?_
 try simp only[lt,Act.put]
 refine tk (i:=7) HP rfl rfl hH ?_
 try simp only[lt,Act.put]
 refine tk (i:=8) HP rfl rfl hH ?_
 try simp only[lt,Act.put]
 refine tk (i:=9) HP rfl rfl hH ?_
 try simp only[lt,Act.put]
 refine tk (i:=10) HP rfl rfl hH ?_
 try simp only[lt,Act.put]
 refine tk (i:=11) HP rfl rfl hH ?_
 try simp only[lt,Act.put]
 refine tk (i:=12) HP rfl rfl hH ?_
 try simp only[lt,Act.put]
 refine tk (i:=13) HP rfl rfl hH ?_
 try simp only[lt,Act.put]
 refine tk (i:=14) HP rfl rfl hH ?_
 try simp only[lt,Act.put]
 refine tk (i:=17) HP rfl rfl hH ?_
 try simp only[lt,Act.put]
 refine rdy3 (i:=0) (j:=2) (k:=15) rfl rfl rfl (λK hK=>?_) (λK hK=>?_) (λK hK=>?_)
 ·go_simp
  refine hK.out _ _ (HCS.out _ ((HR0.out.alloc _).drew)) (λhH=>?_);clear hK K
  try simp only[lt,Act.put]
  refine rdy2 (i:=2) (j:=15) rfl rfl (λK hK=>?_) (λK hK=>?_)
  ·go_simp
   refine hK.out _ _ (HCS.out _ ((HR0.out.alloc _).drew)) (λhH=>?_);clear hK K
   try simp only[lt,Act.put]
   refine tk (i:=4) HP rfl rfl hH ?_
   try simp only[lt,Act.put]
   refine rdy2 (i:=5) (j:=15) rfl rfl (λK hK=>?_) (λK hK=>?_)
   ·refine apr r21 ?_
    refine hK.out _ _ (HCS.out _ (HF.out.2.2.1)) (λhH=>?_);clear hK K
    try simp only[lt,Act.put]
    refine rdy1 (i:=15) rfl (λK hK=>?_);go_simp;refine hK.out _ _ (HCS.out _ (HF.out.2.2.1.alloc _)) (λhH=>?_);clear hK K
    try simp only[lt,Act.put]
    refine rdy1 (i:=16) rfl (λK hK=>?_);refine apr r22 ?_;refine hK.out _ _ (HCS.out _ (HF.out.2.2.2.1)) (λhH=>?_);clear hK K
    try simp only[lt,Act.put]
    refine rdy1 (i:=18) rfl (λK hK=>?_);refine apr r23 ?_;refine hK.out _ _ (HCS.out _ (H2.out.frm)) (λhH=>?_);clear hK K
    try simp only[lt,Act.put]
    refine tk (i:=19) HP rfl rfl hH ?_
    try simp only[lt,Act.put]
    refine rdy1 (i:=20) rfl (λK hK=>?_);go_simp;refine hK.out _ _ (HST.out _ _ _ hH) (λhH=>?_);clear hK K
    try simp only[lt,Act.put]
    refine wpAnyH_done (by kernel_rfl) ?_ _;exact HQ.out _ _ _ _ _ _ _ H2.out
   ·go_simp
    refine hK.out _ _ (HCS.out _ (((HR0.out.alloc _).alloc _).drew)) (λhH=>?_);clear hK K
    try simp only[lt,Act.put]
    refine rdy1 (i:=5) rfl (λK hK=>?_);refine apr r11 ?_;refine hK.out _ _ (HCS.out _ (HF.out.1)) (λhH=>?_);clear hK K
    try simp only[lt,Act.put]
    refine rdy1 (i:=16) rfl (λK hK=>?_);refine apr r12 ?_;refine hK.out _ _ (HCS.out _ (HF.out.2.1)) (λhH=>?_);clear hK K
    try simp only[lt,Act.put]
    refine rdy1 (i:=18) rfl (λK hK=>?_);refine apr r13 ?_;refine hK.out _ _ (HCS.out _ (H1.out.frm)) (λhH=>?_);clear hK K
    try simp only[lt,Act.put]
    refine tk (i:=19) HP rfl rfl hH ?_
    try simp only[lt,Act.put]
    refine rdy1 (i:=20) rfl (λK hK=>?_);go_simp;refine hK.out _ _ (HST.out _ _ _ hH) (λhH=>?_);clear hK K
    try simp only[lt,Act.put]
    refine wpAnyH_done (by kernel_rfl) ?_ _;exact HQ.out _ _ _ _ _ _ _ H1.out
  ·go_simp
   refine hK.out _ _ (HCS.out _ (((HR0.out.alloc _).alloc _).drew)) (λhH=>?_);clear hK K
   try simp only[lt,Act.put]
   refine rdy1 (i:=2) rfl (λK hK=>?_);go_simp;refine hK.out _ _ (HCS.out _ (((HR0.out.alloc _).alloc _).drew)) (λhH=>?_);clear hK K
   try simp only[lt,Act.put]
   refine tk (i:=4) HP rfl rfl hH ?_
   try simp only[lt,Act.put]
   refine rdy1 (i:=5) rfl (λK hK=>?_);refine apr r11 ?_;refine hK.out _ _ (HCS.out _ (HF.out.1)) (λhH=>?_);clear hK K
   try simp only[lt,Act.put]
   refine rdy1 (i:=16) rfl (λK hK=>?_);refine apr r12 ?_;refine hK.out _ _ (HCS.out _ (HF.out.2.1)) (λhH=>?_);clear hK K
   try simp only[lt,Act.put]
   refine rdy1 (i:=18) rfl (λK hK=>?_);refine apr r13 ?_;refine hK.out _ _ (HCS.out _ (H1.out.frm)) (λhH=>?_);clear hK K
   try simp only[lt,Act.put]
   refine tk (i:=19) HP rfl rfl hH ?_
   try simp only[lt,Act.put]
   refine rdy1 (i:=20) rfl (λK hK=>?_);go_simp;refine hK.out _ _ (HST.out _ _ _ hH) (λhH=>?_);clear hK K
   try simp only[lt,Act.put]
   refine wpAnyH_done (by kernel_rfl) ?_ _;exact HQ.out _ _ _ _ _ _ _ H1.out
 ·go_simp
  refine hK.out _ _ (HCS.out _ ((HR0.out).drew)) (λhH=>?_);clear hK K
  try simp only[lt,Act.put]
  refine tk (i:=4) HP rfl rfl hH ?_
  try simp only[lt,Act.put]
  refine rdy2 (i:=0) (j:=15) rfl rfl (λK hK=>?_) (λK hK=>?_)
  ·go_simp
   refine hK.out _ _ (HCS.out _ ((HR0.out.alloc _).drew)) (λhH=>?_);clear hK K
   try simp only[lt,Act.put]
   refine rdy2 (i:=5) (j:=15) rfl rfl (λK hK=>?_) (λK hK=>?_)
   ·refine apr r21 ?_
    refine hK.out _ _ (HCS.out _ (HF.out.2.2.1)) (λhH=>?_);clear hK K
    try simp only[lt,Act.put]
    refine rdy1 (i:=15) rfl (λK hK=>?_);go_simp;refine hK.out _ _ (HCS.out _ (HF.out.2.2.1.alloc _)) (λhH=>?_);clear hK K
    try simp only[lt,Act.put]
    refine rdy1 (i:=16) rfl (λK hK=>?_);refine apr r22 ?_;refine hK.out _ _ (HCS.out _ (HF.out.2.2.2.1)) (λhH=>?_);clear hK K
    try simp only[lt,Act.put]
    refine rdy1 (i:=18) rfl (λK hK=>?_);refine apr r23 ?_;refine hK.out _ _ (HCS.out _ (H2.out.frm)) (λhH=>?_);clear hK K
    try simp only[lt,Act.put]
    refine tk (i:=19) HP rfl rfl hH ?_
    try simp only[lt,Act.put]
    refine rdy1 (i:=20) rfl (λK hK=>?_);go_simp;refine hK.out _ _ (HST.out _ _ _ hH) (λhH=>?_);clear hK K
    try simp only[lt,Act.put]
    refine wpAnyH_done (by kernel_rfl) ?_ _;exact HQ.out _ _ _ _ _ _ _ H2.out
   ·go_simp
    refine hK.out _ _ (HCS.out _ (((HR0.out.alloc _).alloc _).drew)) (λhH=>?_);clear hK K
    try simp only[lt,Act.put]
    refine rdy1 (i:=5) rfl (λK hK=>?_);refine apr r11 ?_;refine hK.out _ _ (HCS.out _ (HF.out.1)) (λhH=>?_);clear hK K
    try simp only[lt,Act.put]
    refine rdy1 (i:=16) rfl (λK hK=>?_);refine apr r12 ?_;refine hK.out _ _ (HCS.out _ (HF.out.2.1)) (λhH=>?_);clear hK K
    try simp only[lt,Act.put]
    refine rdy1 (i:=18) rfl (λK hK=>?_);refine apr r13 ?_;refine hK.out _ _ (HCS.out _ (H1.out.frm)) (λhH=>?_);clear hK K
    try simp only[lt,Act.put]
    refine tk (i:=19) HP rfl rfl hH ?_
    try simp only[lt,Act.put]
    refine rdy1 (i:=20) rfl (λK hK=>?_);go_simp;refine hK.out _ _ (HST.out _ _ _ hH) (λhH=>?_);clear hK K
    try simp only[lt,Act.put]
    refine wpAnyH_done (by kernel_rfl) ?_ _;exact HQ.out _ _ _ _ _ _ _ H1.out
  ·go_simp
   refine hK.out _ _ (HCS.out _ ((HR0.out.alloc _).drew)) (λhH=>?_);clear hK K
   try simp only[lt,Act.put]
   refine rdy1 (i:=0) rfl (λK hK=>?_);go_simp;refine hK.out _ _ (HCS.out _ (((HR0.out.alloc _).alloc _).drew)) (λhH=>?_);clear hK K
   try simp only[lt,Act.put]
   refine rdy1 (i:=5) rfl (λK hK=>?_);refine apr r31 ?_;refine hK.out _ _ (HCS.out _ (HF.out.2.2.2.2.1)) (λhH=>?_);clear hK K
   try simp only[lt,Act.put]
   refine rdy1 (i:=16) rfl (λK hK=>?_);refine apr r32 ?_;refine hK.out _ _ (HCS.out _ (HF.out.2.2.2.2.2)) (λhH=>?_);clear hK K
   try simp only[lt,Act.put]
   refine rdy1 (i:=18) rfl (λK hK=>?_);refine apr r33 ?_;refine hK.out _ _ (HCS.out _ (H3.out.frm)) (λhH=>?_);clear hK K
   try simp only[lt,Act.put]
   refine tk (i:=19) HP rfl rfl hH ?_
   try simp only[lt,Act.put]
   refine rdy1 (i:=20) rfl (λK hK=>?_);go_simp;refine hK.out _ _ (HST.out _ _ _ hH) (λhH=>?_);clear hK K
   try simp only[lt,Act.put]
   refine wpAnyH_done (by kernel_rfl) ?_ _;exact HQ.out _ _ _ _ _ _ _ H3.out
 ·go_simp
  refine hK.out _ _ (HCS.out _ ((HR0.out.alloc _).drew)) (λhH=>?_);clear hK K
  try simp only[lt,Act.put]
  refine rdy2 (i:=0) (j:=2) rfl rfl (λK hK=>?_) (λK hK=>?_)
  ·go_simp
   refine hK.out _ _ (HCS.out _ (((HR0.out.alloc _).alloc _).drew)) (λhH=>?_);clear hK K
   try simp only[lt,Act.put]
   refine rdy1 (i:=2) rfl (λK hK=>?_);go_simp;refine hK.out _ _ (HCS.out _ (((HR0.out.alloc _).alloc _).drew)) (λhH=>?_);clear hK K
   try simp only[lt,Act.put]
   refine tk (i:=4) HP rfl rfl hH ?_
   try simp only[lt,Act.put]
   refine rdy1 (i:=5) rfl (λK hK=>?_);refine apr r31 ?_;refine hK.out _ _ (HCS.out _ (HF.out.2.2.2.2.1)) (λhH=>?_);clear hK K
   try simp only[lt,Act.put]
   refine rdy1 (i:=16) rfl (λK hK=>?_);refine apr r32 ?_;refine hK.out _ _ (HCS.out _ (HF.out.2.2.2.2.2)) (λhH=>?_);clear hK K
   try simp only[lt,Act.put]
   refine rdy1 (i:=18) rfl (λK hK=>?_);refine apr r33 ?_;refine hK.out _ _ (HCS.out _ (H3.out.frm)) (λhH=>?_);clear hK K
   try simp only[lt,Act.put]
   refine tk (i:=19) HP rfl rfl hH ?_
   try simp only[lt,Act.put]
   refine rdy1 (i:=20) rfl (λK hK=>?_);go_simp;refine hK.out _ _ (HST.out _ _ _ hH) (λhH=>?_);clear hK K
   try simp only[lt,Act.put]
   refine wpAnyH_done (by kernel_rfl) ?_ _;exact HQ.out _ _ _ _ _ _ _ H3.out
  ·go_simp
   refine hK.out _ _ (HCS.out _ ((HR0.out.alloc _).drew)) (λhH=>?_);clear hK K
   try simp only[lt,Act.put]
   refine tk (i:=4) HP rfl rfl hH ?_
   try simp only[lt,Act.put]
   refine rdy1 (i:=0) rfl (λK hK=>?_);go_simp;refine hK.out _ _ (HCS.out _ (((HR0.out.alloc _).alloc _).drew)) (λhH=>?_);clear hK K
   try simp only[lt,Act.put]
   refine rdy1 (i:=5) rfl (λK hK=>?_);refine apr r31 ?_;refine hK.out _ _ (HCS.out _ (HF.out.2.2.2.2.1)) (λhH=>?_);clear hK K
   try simp only[lt,Act.put]
   refine rdy1 (i:=16) rfl (λK hK=>?_);refine apr r32 ?_;refine hK.out _ _ (HCS.out _ (HF.out.2.2.2.2.2)) (λhH=>?_);clear hK K
   try simp only[lt,Act.put]
   refine rdy1 (i:=18) rfl (λK hK=>?_);refine apr r33 ?_;refine hK.out _ _ (HCS.out _ (H3.out.frm)) (λhH=>?_);clear hK K
   try simp only[lt,Act.put]
   refine tk (i:=19) HP rfl rfl hH ?_
   try simp only[lt,Act.put]
   refine rdy1 (i:=20) rfl (λK hK=>?_);go_simp;refine hK.out _ _ (HST.out _ _ _ hH) (λhH=>?_);clear hK K
   try simp only[lt,Act.put]
   refine wpAnyH_done (by kernel_rfl) ?_ _;exact HQ.out _ _ _ _ _ _ _ H3.out
theorem madeR7{Q:Exit→Act→World→Prop}{wa w11 w12 w13 w21 w22 w23 w31 w32 w33:World}{bs n c k rc d1 d2 d3:Nat}{A rA B1 B2 B3:Option Addr}{v11 v12 v21 v22 v31 v32:Value}{rows:List Value}{a b n':Int}{s t u:ByteArray}{cs:Array Value}
  (hb:Blk wa bs 36 cs) (hcs:cs[3]? =some (.slice A n c)) (he:Blk wa (bs+1) 42 #[.int .i64 7,.int .i64 a,.int .i64 b,.int .i64 n',.string s,.string t,.string u]) (hk:k≤n) (hkc:n≤c) (hcm:c≤maxLen)
  (r11:∀ty,(Builtin.append_ #[33,33] ty #[.slice (some ⟨wa.heap.size,0,none⟩) 0 0,.slice A k c]).run Tryz.prog ((wa.alloc (.cells #[] 82)).alloc (.cells #[.int .i64 a,.int .i64 b,.int .i64 n',.string s,.string t,.string u,.bool false,.bool false,.slice none 0 0] 82)).drew=.ok v11 w11)
  (r12:∀ty,(Builtin.append_ #[33,33] ty #[v11,.slice (some ⟨wa.heap.size+1,0,none⟩) 1 1]).run Tryz.prog w11=.ok v12 w12)
  (r13:∀ty,(Builtin.append_ #[33,33] ty #[v12,.slice rA (n - k) rc]).run Tryz.prog w12=.ok (.slice B1 (k+1+(n - k)) d1) w13)
  (h1:RowK 82 9 wa w13 (.slice B1 (k+1+(n - k)) d1) (k+1+(n - k)) rows) (f11:Frm Nix wa w11) (f12:Frm Nix wa w12)
  (r21:∀ty,(Builtin.append_ #[33,33] ty #[.slice (some ⟨wa.heap.size,0,none⟩) 0 0,.slice A k c]).run Tryz.prog (wa.alloc (.cells #[] 82)).drew=.ok v21 w21)
  (r22:∀ty,(Builtin.append_ #[33,33] ty #[v21,.slice (some ⟨w21.heap.size,0,none⟩) 1 1]).run Tryz.prog (w21.alloc (.cells #[.int .i64 a,.int .i64 b,.int .i64 n',.string s,.string t,.string u,.bool false,.bool false,.slice none 0 0] 82))=.ok v22 w22)
  (r23:∀ty,(Builtin.append_ #[33,33] ty #[v22,.slice rA (n - k) rc]).run Tryz.prog w22=.ok (.slice B2 (k+1+(n - k)) d2) w23)
  (h2:RowK 82 9 wa w23 (.slice B2 (k+1+(n - k)) d2) (k+1+(n - k)) rows) (f21:Frm Nix wa w21) (f22:Frm Nix wa w22)
  (r31:∀ty,(Builtin.append_ #[33,33] ty #[.slice (some ⟨wa.heap.size+1,0,none⟩) 0 0,.slice A k c]).run Tryz.prog ((wa.alloc (.cells #[.int .i64 a,.int .i64 b,.int .i64 n',.string s,.string t,.string u,.bool false,.bool false,.slice none 0 0] 82)).alloc (.cells #[] 82)).drew=.ok v31 w31)
  (r32:∀ty,(Builtin.append_ #[33,33] ty #[v31,.slice (some ⟨wa.heap.size,0,none⟩) 1 1]).run Tryz.prog w31=.ok v32 w32)
  (r33:∀ty,(Builtin.append_ #[33,33] ty #[v32,.slice rA (n - k) rc]).run Tryz.prog w32=.ok (.slice B3 (k+1+(n - k)) d3) w33)
  (h3:RowK 82 9 wa w33 (.slice B3 (k+1+(n - k)) d3) (k+1+(n - k)) rows) (f31:Frm Nix wa w31) (f32:Frm Nix wa w32)
  {u0 u1 u4 u6 u7 u9 u10 u11 u12 u13 u14 u15 u16 u17 u18 u19 u20 u21 u22 u23 u24 u25 u26 u27 u28 u29 u30 u31 u32 u33 u34 u35 u36 u37 u38 u39 u40 u41 u42 u43 u44 u45 u46 u47 u48 u49 u50 u51 u52 u53 u54 u55 u56 u57 u58 u59 u60 u61 u62 u63 u64 u65 u66 u67 u68 u69 u70 u71 u72 u73 u74 u75 u76 u77 u78 u79 u80 u81 u82 u83 u84 u85 u86 u87 u88 u89 u90 u91 u92 u93 u94 u95 u96 u97 u98 u99 u100 u101 u102 u103 u104 u105 u106 u107 u108 u109 u110 u111 u112 u113 u114 u115 u116 u117 u118 u119 u120 u121 u122 u123 u124 u125 u126 u127 u128 u129 u130 u131 u132 u133 u134 u135 u136 u137 u138 u139 u140 u141 u142 u143 u144 u145 u146 u147 u148 u149 u150 u151 u152 u153 u154 u155 u156 u157 u158 u159 u160 u161 u162 u163 u164 u165 u166 u167 u168 u169 u170 u171 u172 u173 u174 u175 u176 u177 u178 u179 u180 u181 u182 u183 u184 u185 u186 u187 u188 u189 u190 u191 u192 u193 u194 u195 u196 u197 u198 u199 u200 u201 u202 u203 u204 u205 u206 u207 u208 u209 u210 u211 u212 u213 u214 u215 u216 u217 u218 u219 u220:Value} (hP:∀(e:_) (a:Act) (i:Nat) (v:Value) (w:World),Q (.panic e) (a.put (some i) v) w→Q (.panic e) a w) (hQ:∀(wc:World) (B:Option Addr) (d:Nat) (z0 z5 z13 z14:Value),RowK 82 9 wa wc (.slice B (k+1+(n - k)) d) (k+1+(n - k)) rows→Q .normal ⟨#[u0,u1,.pointer (some ⟨bs,0,none⟩),.pointer (some ⟨bs+1,0,none⟩),u4,.int .i64 k,u6,u7,.slice rA (n - k) rc,u9,u10,u11,u12,u13,u14,u15,u16,u17,u18,u19,u20,u21,u22,u23,u24,u25,u26,u27,u28,u29,u30,u31,u32,u33,u34,u35,u36,u37,u38,u39,u40,u41,u42,u43,u44,u45,u46,u47,u48,u49,u50,u51,u52,u53,u54,u55,u56,u57,u58,u59,u60,u61,u62,u63,u64,u65,u66,u67,u68,u69,u70,u71,u72,u73,u74,u75,u76,u77,u78,u79,u80,u81,u82,u83,u84,u85,u86,u87,u88,u89,u90,u91,u92,u93,u94,u95,u96,u97,u98,u99,u100,u101,u102,u103,u104,u105,u106,u107,u108,u109,u110,u111,u112,u113,u114,u115,u116,u117,u118,u119,u120,u121,u122,u123,u124,u125,u126,u127,u128,u129,u130,u131,u132,u133,u134,u135,u136,u137,u138,u139,z0,.pointer (some ⟨bs,3,none⟩),.slice A n c,.int .i64 k,.slice A k c,z5,.pointer (some ⟨bs+1,1,none⟩),.int .i64 a,.pointer (some ⟨bs+1,2,none⟩),.int .i64 b,.pointer (some ⟨bs+1,3,none⟩),.int .i64 n',.pointer (some ⟨bs+1,4,none⟩),.string s,.pointer (some ⟨bs+1,5,none⟩),.string t,.pointer (some ⟨bs+1,6,none⟩),.string u,.agg #[.int .i64 a,.int .i64 b,.int .i64 n',.string s,.string t,.string u,.bool false,.bool false,.slice none 0 0],z13,z14,.slice rA (n - k) rc,.slice B (k+1+(n - k)) d,.pointer (some ⟨bs,3,none⟩),u164,u165,u166,u167,u168,u169,u170,u171,u172,u173,u174,u175,u176,u177,u178,u179,u180,u181,u182,u183,u184,u185,u186,u187,u188,u189,u190,u191,u192,u193,u194,u195,u196,u197,u198,u199,u200,u201,u202,u203,u204,u205,u206,u207,u208,u209,u210,u211,u212,u213,u214,u215,u216,u217,u218,u219,u220],[]⟩ (wc.setCell ⟨bs,3,none⟩ (.slice B (k+1+(n - k)) d))):
  Code.wp Tryz.prog (hdC (sndC (sndC (thenC (sndC (elseC (sndC (elseC (sndC (inC (sndC (hdC (peel 2 (bodyOf Tryz.f31)))))))))))))) Q ⟨#[u0,u1,.pointer (some ⟨bs,0,none⟩),.pointer (some ⟨bs+1,0,none⟩),u4,.int .i64 k,u6,u7,.slice rA (n - k) rc,u9,u10,u11,u12,u13,u14,u15,u16,u17,u18,u19,u20,u21,u22,u23,u24,u25,u26,u27,u28,u29,u30,u31,u32,u33,u34,u35,u36,u37,u38,u39,u40,u41,u42,u43,u44,u45,u46,u47,u48,u49,u50,u51,u52,u53,u54,u55,u56,u57,u58,u59,u60,u61,u62,u63,u64,u65,u66,u67,u68,u69,u70,u71,u72,u73,u74,u75,u76,u77,u78,u79,u80,u81,u82,u83,u84,u85,u86,u87,u88,u89,u90,u91,u92,u93,u94,u95,u96,u97,u98,u99,u100,u101,u102,u103,u104,u105,u106,u107,u108,u109,u110,u111,u112,u113,u114,u115,u116,u117,u118,u119,u120,u121,u122,u123,u124,u125,u126,u127,u128,u129,u130,u131,u132,u133,u134,u135,u136,u137,u138,u139,u140,u141,u142,u143,u144,u145,u146,u147,u148,u149,u150,u151,u152,u153,u154,u155,u156,u157,u158,u159,u160,u161,u162,u163,u164,u165,u166,u167,u168,u169,u170,u171,u172,u173,u174,u175,u176,u177,u178,u179,u180,u181,u182,u183,u184,u185,u186,u187,u188,u189,u190,u191,u192,u193,u194,u195,u196,u197,u198,u199,u200,u201,u202,u203,u204,u205,u206,u207,u208,u209,u210,u211,u212,u213,u214,u215,u216,u217,u218,u219,u220],[]⟩ wa:=by
 have HB:=h_ hb;have HE:=h_ he;have HCS:Hid (∀W,Frm Nix wa W→W.cell? ⟨bs+1,1,none⟩=some (.int .i64 a)∧W.cell? ⟨bs+1,2,none⟩=some (.int .i64 b)∧W.cell? ⟨bs+1,3,none⟩=some (.int .i64 n')∧W.cell? ⟨bs+1,4,none⟩=some (.string s)∧W.cell? ⟨bs+1,5,none⟩=some (.string t)∧W.cell? ⟨bs+1,6,none⟩=some (.string u)):=λW hW=>⟨((he.frm hW id).cell 1).trans rfl,((he.frm hW id).cell 2).trans rfl,((he.frm hW id).cell 3).trans rfl,((he.frm hW id).cell 4).trans rfl,((he.frm hW id).cell 5).trans rfl,((he.frm hW id).cell 6).trans rfl⟩
 have cx:∀{W:World},Frm Nix wa W→W.cell? ⟨bs,3,none⟩=some (.slice A n c):=λhW=>((hb.frm hW id).cell 3).trans hcs
 have cf:∀{W:World},Frm Nix wa W→W.frozen? ⟨bs,3,none⟩=false:=λhW=>(hb.frm hW id).frozen 3
 have HST:Hid (∀(W:World) (B:Option Addr) (d:Nat),(W.cell? ⟨bs+1,1,none⟩=some (.int .i64 a)∧W.cell? ⟨bs+1,2,none⟩=some (.int .i64 b)∧W.cell? ⟨bs+1,3,none⟩=some (.int .i64 n')∧W.cell? ⟨bs+1,4,none⟩=some (.string s)∧W.cell? ⟨bs+1,5,none⟩=some (.string t)∧W.cell? ⟨bs+1,6,none⟩=some (.string u))→(λW:World=>W.cell? ⟨bs+1,1,none⟩=some (.int .i64 a)∧W.cell? ⟨bs+1,2,none⟩=some (.int .i64 b)∧W.cell? ⟨bs+1,3,none⟩=some (.int .i64 n')∧W.cell? ⟨bs+1,4,none⟩=some (.string s)∧W.cell? ⟨bs+1,5,none⟩=some (.string t)∧W.cell? ⟨bs+1,6,none⟩=some (.string u)) (W.setCell ⟨bs,3,none⟩ (.slice B (k+1+(n - k)) d))):=by
  rintro W B d ⟨q1,q2,q3,q4,q5,q6⟩;exact⟨(World.cell?_setCell_far _ _ _ _ (by simp)).trans q1,(World.cell?_setCell_far _ _ _ _ (by simp)).trans q2,(World.cell?_setCell_far _ _ _ _ (by simp)).trans q3,(World.cell?_setCell_far _ _ _ _ (by simp)).trans q4,(World.cell?_setCell_far _ _ _ _ (by simp)).trans q5,(World.cell?_setCell_far _ _ _ _ (by simp)).trans q6⟩
 have R0:=fR wa;obtain⟨e1,e2,e3,e4,e5,e6⟩:=HCS.out wa R0;have p1:=cx R0;have p2:=cx (R0.alloc (.cells #[] 82));have p3:=cx (R0.alloc (.cells #[.int .i64 a,.int .i64 b,.int .i64 n',.string s,.string t,.string u,.bool false,.bool false,.slice none 0 0] 82));have p4:=cx ((R0.alloc (.cells #[] 82)).alloc (.cells #[.int .i64 a,.int .i64 b,.int .i64 n',.string s,.string t,.string u,.bool false,.bool false,.slice none 0 0] 82));have p5:=cx ((R0.alloc (.cells #[.int .i64 a,.int .i64 b,.int .i64 n',.string s,.string t,.string u,.bool false,.bool false,.slice none 0 0] 82)).alloc (.cells #[] 82));have sc1:=cx h1.frm;have sc2:=cx h2.frm;have sc3:=cx h3.frm;have sf1:=cf h1.frm;have sf2:=cf h2.frm;have sf3:=cf h3.frm;have hI0:(0:Int)≤(k:Int):=Int.natCast_nonneg _;have hI1:(k:Int)≤(c:Int):=by omega
 have hI2:(k:Int)≤(n:Int):=by omega
 have HQ:=h_ hQ;have HP:=h_ hP;have H1:=h_ h1;have H2:=h_ h2;have H3:=h_ h3;have HR0:=h_ R0;have HF:=h_ (And.intro f11 (And.intro f12 (And.intro f21 (And.intro f22 (And.intro f31 f32)))));clear hb he hcs cx cf R0 h1 h2 h3 f11 f12 f21 f22 f31 f32 hQ hP;simp only[hdC,sndC,thenC,elseC,inC,peel,bodyOf,Tryz.f31];refine wp_region_held_drew (S:=λW=>W.cell? ⟨bs+1,1,none⟩=some (.int .i64 a)∧W.cell? ⟨bs+1,2,none⟩=some (.int .i64 b)∧W.cell? ⟨bs+1,3,none⟩=some (.int .i64 n')∧W.cell? ⟨bs+1,4,none⟩=some (.string s)∧W.cell? ⟨bs+1,5,none⟩=some (.string t)∧W.cell? ⟨bs+1,6,none⟩=some (.string u)) (by kernel_rfl) (HCS.out _ HR0.out.drew) λhH=>?_
 refine tk (i:=1) HP rfl rfl hH ?_
 try simp only[lt,Act.put]
 refine tk (i:=3) HP rfl rfl hH ?_
 try simp only[lt,Act.put]
 refine tk (i:=6) HP rfl rfl hH ?_
 try simp only[lt,Act.put]
 refine tk (i:=7) HP rfl rfl hH ?_
 try simp only[lt,Act.put]
 refine tk (i:=8) HP rfl rfl hH ?_
 try simp only[lt,Act.put]
 refine tk (i:=9) HP rfl rfl hH ?_
 try simp only[lt,Act.put]
 refine tk (i:=10) HP rfl rfl hH ?_
 try simp only[lt,Act.put]
 refine tk (i:=11) HP rfl rfl hH ?_
 try simp only[lt,Act.put]
 refine tk (i:=12) HP rfl rfl hH ?_
 try simp only[lt,Act.put]
 refine tk (i:=13) HP rfl rfl hH ?_
 try simp only[lt,Act.put]
 refine tk (i:=14) HP rfl rfl hH ?_
 try simp only[lt,Act.put]
 refine tk (i:=15) HP rfl rfl hH ?_
 try simp only[lt,Act.put]
 refine tk (i:=16) HP rfl rfl hH ?_
 try simp only[lt,Act.put]
 refine tk (i:=17) HP rfl rfl hH ?_
 try simp only[lt,Act.put]
 refine tk (i:=18) HP rfl rfl hH ?_
 try simp only[lt,Act.put]
 refine tk (i:=21) HP rfl rfl hH ?_
 try simp only[lt,Act.put]
 refine rdy3 (i:=0) (j:=2) (k:=19) rfl rfl rfl (λK hK=>?_) (λK hK=>?_) (λK hK=>?_)
 ·go_simp
  refine hK.out _ _ (HCS.out _ ((HR0.out.alloc _).drew)) (λhH=>?_);clear hK K
  try simp only[lt,Act.put]
  refine rdy2 (i:=2) (j:=19) rfl rfl (λK hK=>?_) (λK hK=>?_)
  ·go_simp
   refine hK.out _ _ (HCS.out _ ((HR0.out.alloc _).drew)) (λhH=>?_);clear hK K
   try simp only[lt,Act.put]
   refine tk (i:=4) HP rfl rfl hH ?_
   try simp only[lt,Act.put]
   refine rdy2 (i:=5) (j:=19) rfl rfl (λK hK=>?_) (λK hK=>?_)
   ·refine apr r21 ?_
    refine hK.out _ _ (HCS.out _ (HF.out.2.2.1)) (λhH=>?_);clear hK K
    try simp only[lt,Act.put]
    refine rdy1 (i:=19) rfl (λK hK=>?_);go_simp;refine hK.out _ _ (HCS.out _ (HF.out.2.2.1.alloc _)) (λhH=>?_);clear hK K
    try simp only[lt,Act.put]
    refine rdy1 (i:=20) rfl (λK hK=>?_);refine apr r22 ?_;refine hK.out _ _ (HCS.out _ (HF.out.2.2.2.1)) (λhH=>?_);clear hK K
    try simp only[lt,Act.put]
    refine rdy1 (i:=22) rfl (λK hK=>?_);refine apr r23 ?_;refine hK.out _ _ (HCS.out _ (H2.out.frm)) (λhH=>?_);clear hK K
    try simp only[lt,Act.put]
    refine tk (i:=23) HP rfl rfl hH ?_
    try simp only[lt,Act.put]
    refine rdy1 (i:=24) rfl (λK hK=>?_);go_simp;refine hK.out _ _ (HST.out _ _ _ hH) (λhH=>?_);clear hK K
    try simp only[lt,Act.put]
    refine wpAnyH_done (by kernel_rfl) ?_ _;exact HQ.out _ _ _ _ _ _ _ H2.out
   ·go_simp
    refine hK.out _ _ (HCS.out _ (((HR0.out.alloc _).alloc _).drew)) (λhH=>?_);clear hK K
    try simp only[lt,Act.put]
    refine rdy1 (i:=5) rfl (λK hK=>?_);refine apr r11 ?_;refine hK.out _ _ (HCS.out _ (HF.out.1)) (λhH=>?_);clear hK K
    try simp only[lt,Act.put]
    refine rdy1 (i:=20) rfl (λK hK=>?_);refine apr r12 ?_;refine hK.out _ _ (HCS.out _ (HF.out.2.1)) (λhH=>?_);clear hK K
    try simp only[lt,Act.put]
    refine rdy1 (i:=22) rfl (λK hK=>?_);refine apr r13 ?_;refine hK.out _ _ (HCS.out _ (H1.out.frm)) (λhH=>?_);clear hK K
    try simp only[lt,Act.put]
    refine tk (i:=23) HP rfl rfl hH ?_
    try simp only[lt,Act.put]
    refine rdy1 (i:=24) rfl (λK hK=>?_);go_simp;refine hK.out _ _ (HST.out _ _ _ hH) (λhH=>?_);clear hK K
    try simp only[lt,Act.put]
    refine wpAnyH_done (by kernel_rfl) ?_ _;exact HQ.out _ _ _ _ _ _ _ H1.out
  ·go_simp
   refine hK.out _ _ (HCS.out _ (((HR0.out.alloc _).alloc _).drew)) (λhH=>?_);clear hK K
   try simp only[lt,Act.put]
   refine rdy1 (i:=2) rfl (λK hK=>?_);go_simp;refine hK.out _ _ (HCS.out _ (((HR0.out.alloc _).alloc _).drew)) (λhH=>?_);clear hK K
   try simp only[lt,Act.put]
   refine tk (i:=4) HP rfl rfl hH ?_
   try simp only[lt,Act.put]
   refine rdy1 (i:=5) rfl (λK hK=>?_);refine apr r11 ?_;refine hK.out _ _ (HCS.out _ (HF.out.1)) (λhH=>?_);clear hK K
   try simp only[lt,Act.put]
   refine rdy1 (i:=20) rfl (λK hK=>?_);refine apr r12 ?_;refine hK.out _ _ (HCS.out _ (HF.out.2.1)) (λhH=>?_);clear hK K
   try simp only[lt,Act.put]
   refine rdy1 (i:=22) rfl (λK hK=>?_);refine apr r13 ?_;refine hK.out _ _ (HCS.out _ (H1.out.frm)) (λhH=>?_);clear hK K
   try simp only[lt,Act.put]
   refine tk (i:=23) HP rfl rfl hH ?_
   try simp only[lt,Act.put]
   refine rdy1 (i:=24) rfl (λK hK=>?_);go_simp;refine hK.out _ _ (HST.out _ _ _ hH) (λhH=>?_);clear hK K
   try simp only[lt,Act.put]
   refine wpAnyH_done (by kernel_rfl) ?_ _;exact HQ.out _ _ _ _ _ _ _ H1.out
 ·go_simp
  refine hK.out _ _ (HCS.out _ ((HR0.out).drew)) (λhH=>?_);clear hK K
  try simp only[lt,Act.put]
  refine tk (i:=4) HP rfl rfl hH ?_
  try simp only[lt,Act.put]
  refine rdy2 (i:=0) (j:=19) rfl rfl (λK hK=>?_) (λK hK=>?_)
  ·go_simp
   refine hK.out _ _ (HCS.out _ ((HR0.out.alloc _).drew)) (λhH=>?_);clear hK K
   try simp only[lt,Act.put]
   refine rdy2 (i:=5) (j:=19) rfl rfl (λK hK=>?_) (λK hK=>?_)
   ·refine apr r21 ?_
    refine hK.out _ _ (HCS.out _ (HF.out.2.2.1)) (λhH=>?_);clear hK K
    try simp only[lt,Act.put]
    refine rdy1 (i:=19) rfl (λK hK=>?_);go_simp;refine hK.out _ _ (HCS.out _ (HF.out.2.2.1.alloc _)) (λhH=>?_);clear hK K
    try simp only[lt,Act.put]
    refine rdy1 (i:=20) rfl (λK hK=>?_);refine apr r22 ?_;refine hK.out _ _ (HCS.out _ (HF.out.2.2.2.1)) (λhH=>?_);clear hK K
    try simp only[lt,Act.put]
    refine rdy1 (i:=22) rfl (λK hK=>?_);refine apr r23 ?_;refine hK.out _ _ (HCS.out _ (H2.out.frm)) (λhH=>?_);clear hK K
    try simp only[lt,Act.put]
    refine tk (i:=23) HP rfl rfl hH ?_
    try simp only[lt,Act.put]
    refine rdy1 (i:=24) rfl (λK hK=>?_);go_simp;refine hK.out _ _ (HST.out _ _ _ hH) (λhH=>?_);clear hK K
    try simp only[lt,Act.put]
    refine wpAnyH_done (by kernel_rfl) ?_ _;exact HQ.out _ _ _ _ _ _ _ H2.out
   ·go_simp
    refine hK.out _ _ (HCS.out _ (((HR0.out.alloc _).alloc _).drew)) (λhH=>?_);clear hK K
    try simp only[lt,Act.put]
    refine rdy1 (i:=5) rfl (λK hK=>?_);refine apr r11 ?_;refine hK.out _ _ (HCS.out _ (HF.out.1)) (λhH=>?_);clear hK K
    try simp only[lt,Act.put]
    refine rdy1 (i:=20) rfl (λK hK=>?_);refine apr r12 ?_;refine hK.out _ _ (HCS.out _ (HF.out.2.1)) (λhH=>?_);clear hK K
    try simp only[lt,Act.put]
    refine rdy1 (i:=22) rfl (λK hK=>?_);refine apr r13 ?_;refine hK.out _ _ (HCS.out _ (H1.out.frm)) (λhH=>?_);clear hK K
    try simp only[lt,Act.put]
    refine tk (i:=23) HP rfl rfl hH ?_
    try simp only[lt,Act.put]
    refine rdy1 (i:=24) rfl (λK hK=>?_);go_simp;refine hK.out _ _ (HST.out _ _ _ hH) (λhH=>?_);clear hK K
    try simp only[lt,Act.put]
    refine wpAnyH_done (by kernel_rfl) ?_ _;exact HQ.out _ _ _ _ _ _ _ H1.out
  ·go_simp
   refine hK.out _ _ (HCS.out _ ((HR0.out.alloc _).drew)) (λhH=>?_);clear hK K
   try simp only[lt,Act.put]
   refine rdy1 (i:=0) rfl (λK hK=>?_);go_simp;refine hK.out _ _ (HCS.out _ (((HR0.out.alloc _).alloc _).drew)) (λhH=>?_);clear hK K
   try simp only[lt,Act.put]
   refine rdy1 (i:=5) rfl (λK hK=>?_);refine apr r31 ?_;refine hK.out _ _ (HCS.out _ (HF.out.2.2.2.2.1)) (λhH=>?_);clear hK K
   try simp only[lt,Act.put]
   refine rdy1 (i:=20) rfl (λK hK=>?_);refine apr r32 ?_;refine hK.out _ _ (HCS.out _ (HF.out.2.2.2.2.2)) (λhH=>?_);clear hK K
   try simp only[lt,Act.put]
   refine rdy1 (i:=22) rfl (λK hK=>?_);refine apr r33 ?_;refine hK.out _ _ (HCS.out _ (H3.out.frm)) (λhH=>?_);clear hK K
   try simp only[lt,Act.put]
   refine tk (i:=23) HP rfl rfl hH ?_
   try simp only[lt,Act.put]
   refine rdy1 (i:=24) rfl (λK hK=>?_);go_simp;refine hK.out _ _ (HST.out _ _ _ hH) (λhH=>?_);clear hK K
   try simp only[lt,Act.put]
   refine wpAnyH_done (by kernel_rfl) ?_ _;exact HQ.out _ _ _ _ _ _ _ H3.out
 ·go_simp
  refine hK.out _ _ (HCS.out _ ((HR0.out.alloc _).drew)) (λhH=>?_);clear hK K
  try simp only[lt,Act.put]
  refine rdy2 (i:=0) (j:=2) rfl rfl (λK hK=>?_) (λK hK=>?_)
  ·go_simp
   refine hK.out _ _ (HCS.out _ (((HR0.out.alloc _).alloc _).drew)) (λhH=>?_);clear hK K
   try simp only[lt,Act.put]
   refine rdy1 (i:=2) rfl (λK hK=>?_);go_simp;refine hK.out _ _ (HCS.out _ (((HR0.out.alloc _).alloc _).drew)) (λhH=>?_);clear hK K
   try simp only[lt,Act.put]
   refine tk (i:=4) HP rfl rfl hH ?_
   try simp only[lt,Act.put]
   refine rdy1 (i:=5) rfl (λK hK=>?_);refine apr r31 ?_;refine hK.out _ _ (HCS.out _ (HF.out.2.2.2.2.1)) (λhH=>?_);clear hK K
   try simp only[lt,Act.put]
   refine rdy1 (i:=20) rfl (λK hK=>?_);refine apr r32 ?_;refine hK.out _ _ (HCS.out _ (HF.out.2.2.2.2.2)) (λhH=>?_);clear hK K
   try simp only[lt,Act.put]
   refine rdy1 (i:=22) rfl (λK hK=>?_);refine apr r33 ?_;refine hK.out _ _ (HCS.out _ (H3.out.frm)) (λhH=>?_);clear hK K
   try simp only[lt,Act.put]
   refine tk (i:=23) HP rfl rfl hH ?_
   try simp only[lt,Act.put]
   refine rdy1 (i:=24) rfl (λK hK=>?_);go_simp;refine hK.out _ _ (HST.out _ _ _ hH) (λhH=>?_);clear hK K
   try simp only[lt,Act.put]
   refine wpAnyH_done (by kernel_rfl) ?_ _;exact HQ.out _ _ _ _ _ _ _ H3.out
  ·go_simp
   refine hK.out _ _ (HCS.out _ ((HR0.out.alloc _).drew)) (λhH=>?_);clear hK K
   try simp only[lt,Act.put]
   refine tk (i:=4) HP rfl rfl hH ?_
   try simp only[lt,Act.put]
   refine rdy1 (i:=0) rfl (λK hK=>?_);go_simp;refine hK.out _ _ (HCS.out _ (((HR0.out.alloc _).alloc _).drew)) (λhH=>?_);clear hK K
   try simp only[lt,Act.put]
   refine rdy1 (i:=5) rfl (λK hK=>?_);refine apr r31 ?_;refine hK.out _ _ (HCS.out _ (HF.out.2.2.2.2.1)) (λhH=>?_);clear hK K
   try simp only[lt,Act.put]
   refine rdy1 (i:=20) rfl (λK hK=>?_);refine apr r32 ?_;refine hK.out _ _ (HCS.out _ (HF.out.2.2.2.2.2)) (λhH=>?_);clear hK K
   try simp only[lt,Act.put]
   refine rdy1 (i:=22) rfl (λK hK=>?_);refine apr r33 ?_;refine hK.out _ _ (HCS.out _ (H3.out.frm)) (λhH=>?_);clear hK K
   try simp only[lt,Act.put]
   refine tk (i:=23) HP rfl rfl hH ?_
   try simp only[lt,Act.put]
   refine rdy1 (i:=24) rfl (λK hK=>?_);go_simp;refine hK.out _ _ (HST.out _ _ _ hH) (λhH=>?_);clear hK K
   try simp only[lt,Act.put]
   refine wpAnyH_done (by kernel_rfl) ?_ _;exact HQ.out _ _ _ _ _ _ _ H3.out
theorem madeR11{Q:Exit→Act→World→Prop}{wa w11 w12 w13 w21 w22 w23 w31 w32 w33:World}{bs n c k rc d1 d2 d3:Nat}{A rA B1 B2 B3:Option Addr}{v11 v12 v21 v22 v31 v32:Value}{rows:List Value}{a b n':Int}{s t u:ByteArray}{cs:Array Value}
  (hb:Blk wa bs 36 cs) (hcs:cs[4]? =some (.slice A n c)) (he:Blk wa (bs+1) 42 #[.int .i64 11,.int .i64 a,.int .i64 b,.int .i64 n',.string s,.string t,.string u]) (hk:k≤n) (hkc:n≤c) (hcm:c≤maxLen)
  (r11:∀ty,(Builtin.append_ #[34,34] ty #[.slice (some ⟨wa.heap.size,0,none⟩) 0 0,.slice A k c]).run Tryz.prog ((wa.alloc (.cells #[] 84)).alloc (.cells #[.int .i64 a,.string s,.string t] 84)).drew=.ok v11 w11)
  (r12:∀ty,(Builtin.append_ #[34,34] ty #[v11,.slice (some ⟨wa.heap.size+1,0,none⟩) 1 1]).run Tryz.prog w11=.ok v12 w12)
  (r13:∀ty,(Builtin.append_ #[34,34] ty #[v12,.slice rA (n - k) rc]).run Tryz.prog w12=.ok (.slice B1 (k+1+(n - k)) d1) w13)
  (h1:RowK 84 3 wa w13 (.slice B1 (k+1+(n - k)) d1) (k+1+(n - k)) rows) (f11:Frm Nix wa w11) (f12:Frm Nix wa w12)
  (r21:∀ty,(Builtin.append_ #[34,34] ty #[.slice (some ⟨wa.heap.size,0,none⟩) 0 0,.slice A k c]).run Tryz.prog (wa.alloc (.cells #[] 84)).drew=.ok v21 w21)
  (r22:∀ty,(Builtin.append_ #[34,34] ty #[v21,.slice (some ⟨w21.heap.size,0,none⟩) 1 1]).run Tryz.prog (w21.alloc (.cells #[.int .i64 a,.string s,.string t] 84))=.ok v22 w22)
  (r23:∀ty,(Builtin.append_ #[34,34] ty #[v22,.slice rA (n - k) rc]).run Tryz.prog w22=.ok (.slice B2 (k+1+(n - k)) d2) w23)
  (h2:RowK 84 3 wa w23 (.slice B2 (k+1+(n - k)) d2) (k+1+(n - k)) rows) (f21:Frm Nix wa w21) (f22:Frm Nix wa w22)
  (r31:∀ty,(Builtin.append_ #[34,34] ty #[.slice (some ⟨wa.heap.size+1,0,none⟩) 0 0,.slice A k c]).run Tryz.prog ((wa.alloc (.cells #[.int .i64 a,.string s,.string t] 84)).alloc (.cells #[] 84)).drew=.ok v31 w31)
  (r32:∀ty,(Builtin.append_ #[34,34] ty #[v31,.slice (some ⟨wa.heap.size,0,none⟩) 1 1]).run Tryz.prog w31=.ok v32 w32)
  (r33:∀ty,(Builtin.append_ #[34,34] ty #[v32,.slice rA (n - k) rc]).run Tryz.prog w32=.ok (.slice B3 (k+1+(n - k)) d3) w33)
  (h3:RowK 84 3 wa w33 (.slice B3 (k+1+(n - k)) d3) (k+1+(n - k)) rows) (f31:Frm Nix wa w31) (f32:Frm Nix wa w32)
  {u0 u1 u4 u6 u7 u8 u10 u11 u12 u13 u14 u15 u16 u17 u18 u19 u20 u21 u22 u23 u24 u25 u26 u27 u28 u29 u30 u31 u32 u33 u34 u35 u36 u37 u38 u39 u40 u41 u42 u43 u44 u45 u46 u47 u48 u49 u50 u51 u52 u53 u54 u55 u56 u57 u58 u59 u60 u61 u62 u63 u64 u65 u66 u67 u68 u69 u70 u71 u72 u73 u74 u75 u76 u77 u78 u79 u80 u81 u82 u83 u84 u85 u86 u87 u88 u89 u90 u91 u92 u93 u94 u95 u96 u97 u98 u99 u100 u101 u102 u103 u104 u105 u106 u107 u108 u109 u110 u111 u112 u113 u114 u115 u116 u117 u118 u119 u120 u121 u122 u123 u124 u125 u126 u127 u128 u129 u130 u131 u132 u133 u134 u135 u136 u137 u138 u139 u140 u141 u142 u143 u144 u145 u146 u147 u148 u149 u150 u151 u152 u153 u154 u155 u156 u157 u158 u159 u160 u161 u162 u163 u164 u165 u166 u167 u168 u169 u170 u171 u172 u173 u174 u175 u176 u177 u178 u179 u180 u181 u182 u183 u184 u185 u186 u187 u188 u189 u190 u191 u192 u193 u194 u195 u196 u197 u198 u199 u200 u201 u202 u203 u204 u205 u206 u207 u208 u209 u210 u211 u212 u213 u214 u215 u216 u217 u218 u219 u220:Value} (hP:∀(e:_) (a:Act) (i:Nat) (v:Value) (w:World),Q (.panic e) (a.put (some i) v) w→Q (.panic e) a w) (hQ:∀(wc:World) (B:Option Addr) (d:Nat) (z0 z5 z13 z14:Value),RowK 84 3 wa wc (.slice B (k+1+(n - k)) d) (k+1+(n - k)) rows→Q .normal ⟨#[u0,u1,.pointer (some ⟨bs,0,none⟩),.pointer (some ⟨bs+1,0,none⟩),u4,.int .i64 k,u6,u7,u8,.slice rA (n - k) rc,u10,u11,u12,u13,u14,u15,u16,u17,u18,u19,u20,u21,u22,u23,u24,u25,u26,u27,u28,u29,u30,u31,u32,u33,u34,u35,u36,u37,u38,u39,u40,u41,u42,u43,u44,u45,u46,u47,u48,u49,u50,u51,u52,u53,u54,u55,u56,u57,u58,u59,u60,u61,u62,u63,u64,u65,u66,u67,u68,u69,u70,u71,u72,u73,u74,u75,u76,u77,u78,u79,u80,u81,u82,u83,u84,u85,u86,u87,u88,u89,u90,u91,u92,u93,u94,u95,u96,u97,u98,u99,u100,u101,u102,u103,u104,u105,u106,u107,u108,u109,u110,u111,u112,u113,u114,u115,u116,u117,u118,u119,u120,u121,u122,u123,u124,u125,u126,u127,u128,u129,u130,u131,u132,u133,u134,u135,u136,u137,u138,u139,u140,u141,u142,u143,u144,u145,u146,u147,u148,u149,u150,u151,u152,u153,u154,u155,u156,u157,u158,u159,u160,u161,u162,u163,u164,u165,u166,u167,u168,u169,u170,u171,u172,u173,u174,u175,u176,u177,u178,u179,u180,u181,u182,u183,u184,u185,u186,u187,u188,u189,u190,u191,u192,u193,u194,u195,z0,.pointer (some ⟨bs,4,none⟩),.slice A n c,.int .i64 k,.slice A k c,z5,.pointer (some ⟨bs+1,1,none⟩),.int .i64 a,.pointer (some ⟨bs+1,4,none⟩),.string s,.pointer (some ⟨bs+1,5,none⟩),.string t,.agg #[.int .i64 a,.string s,.string t],z13,z14,.slice rA (n - k) rc,.slice B (k+1+(n - k)) d,.pointer (some ⟨bs,4,none⟩),u214,u215,u216,u217,u218,u219,u220],[]⟩ (wc.setCell ⟨bs,4,none⟩ (.slice B (k+1+(n - k)) d))):
  Code.wp Tryz.prog (hdC (sndC (sndC (thenC (sndC (elseC (sndC (elseC (sndC (elseC (sndC (inC (sndC (hdC (peel 2 (bodyOf Tryz.f31)))))))))))))))) Q ⟨#[u0,u1,.pointer (some ⟨bs,0,none⟩),.pointer (some ⟨bs+1,0,none⟩),u4,.int .i64 k,u6,u7,u8,.slice rA (n - k) rc,u10,u11,u12,u13,u14,u15,u16,u17,u18,u19,u20,u21,u22,u23,u24,u25,u26,u27,u28,u29,u30,u31,u32,u33,u34,u35,u36,u37,u38,u39,u40,u41,u42,u43,u44,u45,u46,u47,u48,u49,u50,u51,u52,u53,u54,u55,u56,u57,u58,u59,u60,u61,u62,u63,u64,u65,u66,u67,u68,u69,u70,u71,u72,u73,u74,u75,u76,u77,u78,u79,u80,u81,u82,u83,u84,u85,u86,u87,u88,u89,u90,u91,u92,u93,u94,u95,u96,u97,u98,u99,u100,u101,u102,u103,u104,u105,u106,u107,u108,u109,u110,u111,u112,u113,u114,u115,u116,u117,u118,u119,u120,u121,u122,u123,u124,u125,u126,u127,u128,u129,u130,u131,u132,u133,u134,u135,u136,u137,u138,u139,u140,u141,u142,u143,u144,u145,u146,u147,u148,u149,u150,u151,u152,u153,u154,u155,u156,u157,u158,u159,u160,u161,u162,u163,u164,u165,u166,u167,u168,u169,u170,u171,u172,u173,u174,u175,u176,u177,u178,u179,u180,u181,u182,u183,u184,u185,u186,u187,u188,u189,u190,u191,u192,u193,u194,u195,u196,u197,u198,u199,u200,u201,u202,u203,u204,u205,u206,u207,u208,u209,u210,u211,u212,u213,u214,u215,u216,u217,u218,u219,u220],[]⟩ wa:=by
 have HB:=h_ hb;have HE:=h_ he;have HCS:Hid (∀W,Frm Nix wa W→W.cell? ⟨bs+1,1,none⟩=some (.int .i64 a)∧W.cell? ⟨bs+1,4,none⟩=some (.string s)∧W.cell? ⟨bs+1,5,none⟩=some (.string t)):=λW hW=>⟨((he.frm hW id).cell 1).trans rfl,((he.frm hW id).cell 4).trans rfl,((he.frm hW id).cell 5).trans rfl⟩
 have cx:∀{W:World},Frm Nix wa W→W.cell? ⟨bs,4,none⟩=some (.slice A n c):=λhW=>((hb.frm hW id).cell 4).trans hcs
 have cf:∀{W:World},Frm Nix wa W→W.frozen? ⟨bs,4,none⟩=false:=λhW=>(hb.frm hW id).frozen 4
 have HST:Hid (∀(W:World) (B:Option Addr) (d:Nat),(W.cell? ⟨bs+1,1,none⟩=some (.int .i64 a)∧W.cell? ⟨bs+1,4,none⟩=some (.string s)∧W.cell? ⟨bs+1,5,none⟩=some (.string t))→(λW:World=>W.cell? ⟨bs+1,1,none⟩=some (.int .i64 a)∧W.cell? ⟨bs+1,4,none⟩=some (.string s)∧W.cell? ⟨bs+1,5,none⟩=some (.string t)) (W.setCell ⟨bs,4,none⟩ (.slice B (k+1+(n - k)) d))):=by
  rintro W B d ⟨q1,q4,q5⟩;exact⟨(World.cell?_setCell_far _ _ _ _ (by simp)).trans q1,(World.cell?_setCell_far _ _ _ _ (by simp)).trans q4,(World.cell?_setCell_far _ _ _ _ (by simp)).trans q5⟩
 have R0:=fR wa;obtain⟨e1,e4,e5⟩:=HCS.out wa R0;have p1:=cx R0;have p2:=cx (R0.alloc (.cells #[] 84));have p3:=cx (R0.alloc (.cells #[.int .i64 a,.string s,.string t] 84));have p4:=cx ((R0.alloc (.cells #[] 84)).alloc (.cells #[.int .i64 a,.string s,.string t] 84));have p5:=cx ((R0.alloc (.cells #[.int .i64 a,.string s,.string t] 84)).alloc (.cells #[] 84));have sc1:=cx h1.frm;have sc2:=cx h2.frm;have sc3:=cx h3.frm;have sf1:=cf h1.frm;have sf2:=cf h2.frm;have sf3:=cf h3.frm;have hI0:(0:Int)≤(k:Int):=Int.natCast_nonneg _;have hI1:(k:Int)≤(c:Int):=by omega
 have hI2:(k:Int)≤(n:Int):=by omega
 have HQ:=h_ hQ;have HP:=h_ hP;have H1:=h_ h1;have H2:=h_ h2;have H3:=h_ h3;have HR0:=h_ R0;have HF:=h_ (And.intro f11 (And.intro f12 (And.intro f21 (And.intro f22 (And.intro f31 f32)))));clear hb he hcs cx cf R0 h1 h2 h3 f11 f12 f21 f22 f31 f32 hQ hP;simp only[hdC,sndC,thenC,elseC,inC,peel,bodyOf,Tryz.f31];refine wp_region_held_drew (S:=λW=>W.cell? ⟨bs+1,1,none⟩=some (.int .i64 a)∧W.cell? ⟨bs+1,4,none⟩=some (.string s)∧W.cell? ⟨bs+1,5,none⟩=some (.string t)) (by kernel_rfl) (HCS.out _ HR0.out.drew) λhH=>?_
 refine tk (i:=1) HP rfl rfl hH ?_
 try simp only[lt,Act.put]
 refine tk (i:=3) HP rfl rfl hH ?_
 try simp only[lt,Act.put]
 refine tk (i:=6) HP rfl rfl hH ?_
 try simp only[lt,Act.put]
 refine tk (i:=7) HP rfl rfl hH ?_
 try simp only[lt,Act.put]
 refine tk (i:=8) HP rfl rfl hH ?_
 try simp only[lt,Act.put]
 refine tk (i:=9) HP rfl rfl hH ?_
 try simp only[lt,Act.put]
 refine tk (i:=10) HP rfl rfl hH ?_
 try simp only[lt,Act.put]
 refine tk (i:=11) HP rfl rfl hH ?_
 try simp only[lt,Act.put]
 refine tk (i:=12) HP rfl rfl hH ?_
 try simp only[lt,Act.put]
 refine tk (i:=15) HP rfl rfl hH ?_
 try simp only[lt,Act.put]
 refine rdy3 (i:=0) (j:=2) (k:=13) rfl rfl rfl (λK hK=>?_) (λK hK=>?_) (λK hK=>?_)
 ·go_simp
  refine hK.out _ _ (HCS.out _ ((HR0.out.alloc _).drew)) (λhH=>?_);clear hK K
  try simp only[lt,Act.put]
  refine rdy2 (i:=2) (j:=13) rfl rfl (λK hK=>?_) (λK hK=>?_)
  ·go_simp
   refine hK.out _ _ (HCS.out _ ((HR0.out.alloc _).drew)) (λhH=>?_);clear hK K
   try simp only[lt,Act.put]
   refine tk (i:=4) HP rfl rfl hH ?_
   try simp only[lt,Act.put]
   refine rdy2 (i:=5) (j:=13) rfl rfl (λK hK=>?_) (λK hK=>?_)
   ·refine apr r21 ?_
    refine hK.out _ _ (HCS.out _ (HF.out.2.2.1)) (λhH=>?_);clear hK K
    try simp only[lt,Act.put]
    refine rdy1 (i:=13) rfl (λK hK=>?_);go_simp;refine hK.out _ _ (HCS.out _ (HF.out.2.2.1.alloc _)) (λhH=>?_);clear hK K
    try simp only[lt,Act.put]
    refine rdy1 (i:=14) rfl (λK hK=>?_);refine apr r22 ?_;refine hK.out _ _ (HCS.out _ (HF.out.2.2.2.1)) (λhH=>?_);clear hK K
    try simp only[lt,Act.put]
    refine rdy1 (i:=16) rfl (λK hK=>?_);refine apr r23 ?_;refine hK.out _ _ (HCS.out _ (H2.out.frm)) (λhH=>?_);clear hK K
    try simp only[lt,Act.put]
    refine tk (i:=17) HP rfl rfl hH ?_
    try simp only[lt,Act.put]
    refine rdy1 (i:=18) rfl (λK hK=>?_);go_simp;refine hK.out _ _ (HST.out _ _ _ hH) (λhH=>?_);clear hK K
    try simp only[lt,Act.put]
    refine wpAnyH_done (by kernel_rfl) ?_ _;exact HQ.out _ _ _ _ _ _ _ H2.out
   ·go_simp
    refine hK.out _ _ (HCS.out _ (((HR0.out.alloc _).alloc _).drew)) (λhH=>?_);clear hK K
    try simp only[lt,Act.put]
    refine rdy1 (i:=5) rfl (λK hK=>?_);refine apr r11 ?_;refine hK.out _ _ (HCS.out _ (HF.out.1)) (λhH=>?_);clear hK K
    try simp only[lt,Act.put]
    refine rdy1 (i:=14) rfl (λK hK=>?_);refine apr r12 ?_;refine hK.out _ _ (HCS.out _ (HF.out.2.1)) (λhH=>?_);clear hK K
    try simp only[lt,Act.put]
    refine rdy1 (i:=16) rfl (λK hK=>?_);refine apr r13 ?_;refine hK.out _ _ (HCS.out _ (H1.out.frm)) (λhH=>?_);clear hK K
    try simp only[lt,Act.put]
    refine tk (i:=17) HP rfl rfl hH ?_
    try simp only[lt,Act.put]
    refine rdy1 (i:=18) rfl (λK hK=>?_);go_simp;refine hK.out _ _ (HST.out _ _ _ hH) (λhH=>?_);clear hK K
    try simp only[lt,Act.put]
    refine wpAnyH_done (by kernel_rfl) ?_ _;exact HQ.out _ _ _ _ _ _ _ H1.out
  ·go_simp
   refine hK.out _ _ (HCS.out _ (((HR0.out.alloc _).alloc _).drew)) (λhH=>?_);clear hK K
   try simp only[lt,Act.put]
   refine rdy1 (i:=2) rfl (λK hK=>?_);go_simp;refine hK.out _ _ (HCS.out _ (((HR0.out.alloc _).alloc _).drew)) (λhH=>?_);clear hK K
   try simp only[lt,Act.put]
   refine tk (i:=4) HP rfl rfl hH ?_
   try simp only[lt,Act.put]
   refine rdy1 (i:=5) rfl (λK hK=>?_);refine apr r11 ?_;refine hK.out _ _ (HCS.out _ (HF.out.1)) (λhH=>?_);clear hK K
   try simp only[lt,Act.put]
   refine rdy1 (i:=14) rfl (λK hK=>?_);refine apr r12 ?_;refine hK.out _ _ (HCS.out _ (HF.out.2.1)) (λhH=>?_);clear hK K
   try simp only[lt,Act.put]
   refine rdy1 (i:=16) rfl (λK hK=>?_);refine apr r13 ?_;refine hK.out _ _ (HCS.out _ (H1.out.frm)) (λhH=>?_);clear hK K
   try simp only[lt,Act.put]
   refine tk (i:=17) HP rfl rfl hH ?_
   try simp only[lt,Act.put]
   refine rdy1 (i:=18) rfl (λK hK=>?_);go_simp;refine hK.out _ _ (HST.out _ _ _ hH) (λhH=>?_);clear hK K
   try simp only[lt,Act.put]
   refine wpAnyH_done (by kernel_rfl) ?_ _;exact HQ.out _ _ _ _ _ _ _ H1.out
 ·go_simp
  refine hK.out _ _ (HCS.out _ ((HR0.out).drew)) (λhH=>?_);clear hK K
  try simp only[lt,Act.put]
  refine tk (i:=4) HP rfl rfl hH ?_
  try simp only[lt,Act.put]
  refine rdy2 (i:=0) (j:=13) rfl rfl (λK hK=>?_) (λK hK=>?_)
  ·go_simp
   refine hK.out _ _ (HCS.out _ ((HR0.out.alloc _).drew)) (λhH=>?_);clear hK K
   try simp only[lt,Act.put]
   refine rdy2 (i:=5) (j:=13) rfl rfl (λK hK=>?_) (λK hK=>?_)
   ·refine apr r21 ?_
    refine hK.out _ _ (HCS.out _ (HF.out.2.2.1)) (λhH=>?_);clear hK K
    try simp only[lt,Act.put]
    refine rdy1 (i:=13) rfl (λK hK=>?_);go_simp;refine hK.out _ _ (HCS.out _ (HF.out.2.2.1.alloc _)) (λhH=>?_);clear hK K
    try simp only[lt,Act.put]
    refine rdy1 (i:=14) rfl (λK hK=>?_);refine apr r22 ?_;refine hK.out _ _ (HCS.out _ (HF.out.2.2.2.1)) (λhH=>?_);clear hK K
    try simp only[lt,Act.put]
    refine rdy1 (i:=16) rfl (λK hK=>?_);refine apr r23 ?_;refine hK.out _ _ (HCS.out _ (H2.out.frm)) (λhH=>?_);clear hK K
    try simp only[lt,Act.put]
    refine tk (i:=17) HP rfl rfl hH ?_
    try simp only[lt,Act.put]
    refine rdy1 (i:=18) rfl (λK hK=>?_);go_simp;refine hK.out _ _ (HST.out _ _ _ hH) (λhH=>?_);clear hK K
    try simp only[lt,Act.put]
    refine wpAnyH_done (by kernel_rfl) ?_ _;exact HQ.out _ _ _ _ _ _ _ H2.out
   ·go_simp
    refine hK.out _ _ (HCS.out _ (((HR0.out.alloc _).alloc _).drew)) (λhH=>?_);clear hK K
    try simp only[lt,Act.put]
    refine rdy1 (i:=5) rfl (λK hK=>?_);refine apr r11 ?_;refine hK.out _ _ (HCS.out _ (HF.out.1)) (λhH=>?_);clear hK K
    try simp only[lt,Act.put]
    refine rdy1 (i:=14) rfl (λK hK=>?_);refine apr r12 ?_;refine hK.out _ _ (HCS.out _ (HF.out.2.1)) (λhH=>?_);clear hK K
    try simp only[lt,Act.put]
    refine rdy1 (i:=16) rfl (λK hK=>?_);refine apr r13 ?_;refine hK.out _ _ (HCS.out _ (H1.out.frm)) (λhH=>?_);clear hK K
    try simp only[lt,Act.put]
    refine tk (i:=17) HP rfl rfl hH ?_
    try simp only[lt,Act.put]
    refine rdy1 (i:=18) rfl (λK hK=>?_);go_simp;refine hK.out _ _ (HST.out _ _ _ hH) (λhH=>?_);clear hK K
    try simp only[lt,Act.put]
    refine wpAnyH_done (by kernel_rfl) ?_ _;exact HQ.out _ _ _ _ _ _ _ H1.out
  ·go_simp
   refine hK.out _ _ (HCS.out _ ((HR0.out.alloc _).drew)) (λhH=>?_);clear hK K
   try simp only[lt,Act.put]
   refine rdy1 (i:=0) rfl (λK hK=>?_);go_simp;refine hK.out _ _ (HCS.out _ (((HR0.out.alloc _).alloc _).drew)) (λhH=>?_);clear hK K
   try simp only[lt,Act.put]
   refine rdy1 (i:=5) rfl (λK hK=>?_);refine apr r31 ?_;refine hK.out _ _ (HCS.out _ (HF.out.2.2.2.2.1)) (λhH=>?_);clear hK K
   try simp only[lt,Act.put]
   refine rdy1 (i:=14) rfl (λK hK=>?_);refine apr r32 ?_;refine hK.out _ _ (HCS.out _ (HF.out.2.2.2.2.2)) (λhH=>?_);clear hK K
   try simp only[lt,Act.put]
   refine rdy1 (i:=16) rfl (λK hK=>?_);refine apr r33 ?_;refine hK.out _ _ (HCS.out _ (H3.out.frm)) (λhH=>?_);clear hK K
   try simp only[lt,Act.put]
   refine tk (i:=17) HP rfl rfl hH ?_
   try simp only[lt,Act.put]
   refine rdy1 (i:=18) rfl (λK hK=>?_);go_simp;refine hK.out _ _ (HST.out _ _ _ hH) (λhH=>?_);clear hK K
   try simp only[lt,Act.put]
   refine wpAnyH_done (by kernel_rfl) ?_ _;exact HQ.out _ _ _ _ _ _ _ H3.out
 ·go_simp
  refine hK.out _ _ (HCS.out _ ((HR0.out.alloc _).drew)) (λhH=>?_);clear hK K
  try simp only[lt,Act.put]
  refine rdy2 (i:=0) (j:=2) rfl rfl (λK hK=>?_) (λK hK=>?_)
  ·go_simp
   refine hK.out _ _ (HCS.out _ (((HR0.out.alloc _).alloc _).drew)) (λhH=>?_);clear hK K
   try simp only[lt,Act.put]
   refine rdy1 (i:=2) rfl (λK hK=>?_);go_simp;refine hK.out _ _ (HCS.out _ (((HR0.out.alloc _).alloc _).drew)) (λhH=>?_);clear hK K
   try simp only[lt,Act.put]
   refine tk (i:=4) HP rfl rfl hH ?_
   try simp only[lt,Act.put]
   refine rdy1 (i:=5) rfl (λK hK=>?_);refine apr r31 ?_;refine hK.out _ _ (HCS.out _ (HF.out.2.2.2.2.1)) (λhH=>?_);clear hK K
   try simp only[lt,Act.put]
   refine rdy1 (i:=14) rfl (λK hK=>?_);refine apr r32 ?_;refine hK.out _ _ (HCS.out _ (HF.out.2.2.2.2.2)) (λhH=>?_);clear hK K
   try simp only[lt,Act.put]
   refine rdy1 (i:=16) rfl (λK hK=>?_);refine apr r33 ?_;refine hK.out _ _ (HCS.out _ (H3.out.frm)) (λhH=>?_);clear hK K
   try simp only[lt,Act.put]
   refine tk (i:=17) HP rfl rfl hH ?_
   try simp only[lt,Act.put]
   refine rdy1 (i:=18) rfl (λK hK=>?_);go_simp;refine hK.out _ _ (HST.out _ _ _ hH) (λhH=>?_);clear hK K
   try simp only[lt,Act.put]
   refine wpAnyH_done (by kernel_rfl) ?_ _;exact HQ.out _ _ _ _ _ _ _ H3.out
  ·go_simp
   refine hK.out _ _ (HCS.out _ ((HR0.out.alloc _).drew)) (λhH=>?_);clear hK K
   try simp only[lt,Act.put]
   refine tk (i:=4) HP rfl rfl hH ?_
   try simp only[lt,Act.put]
   refine rdy1 (i:=0) rfl (λK hK=>?_);go_simp;refine hK.out _ _ (HCS.out _ (((HR0.out.alloc _).alloc _).drew)) (λhH=>?_);clear hK K
   try simp only[lt,Act.put]
   refine rdy1 (i:=5) rfl (λK hK=>?_);refine apr r31 ?_;refine hK.out _ _ (HCS.out _ (HF.out.2.2.2.2.1)) (λhH=>?_);clear hK K
   try simp only[lt,Act.put]
   refine rdy1 (i:=14) rfl (λK hK=>?_);refine apr r32 ?_;refine hK.out _ _ (HCS.out _ (HF.out.2.2.2.2.2)) (λhH=>?_);clear hK K
   try simp only[lt,Act.put]
   refine rdy1 (i:=16) rfl (λK hK=>?_);refine apr r33 ?_;refine hK.out _ _ (HCS.out _ (H3.out.frm)) (λhH=>?_);clear hK K
   try simp only[lt,Act.put]
   refine tk (i:=17) HP rfl rfl hH ?_
   try simp only[lt,Act.put]
   refine rdy1 (i:=18) rfl (λK hK=>?_);go_simp;refine hK.out _ _ (HST.out _ _ _ hH) (λhH=>?_);clear hK K
   try simp only[lt,Act.put]
   refine wpAnyH_done (by kernel_rfl) ?_ _;exact HQ.out _ _ _ _ _ _ _ H3.out
end Go.Proofs.YtaecjmiobllhmaaGreat
