/-
  Contracts: are two events the same; what is wrong with an event (event.Check); is one large.
-/
import Derived.Test.YtdihmpakglakdaaGreatGa09
import Derived.Laws.StructEq
import Derived.Test.YtdihmpakglakdaaGreatGa10
import Derived.Test.YtdihmpakglakdaaGreatGa01
set_option linter.unusedVariables false
set_option linter.unusedSimpArgs false
set_option maxRecDepth 100000
set_option maxHeartbeats 16000000
namespace Go.Proofs.YtdihmpakglakdaaGreat
open Go.RowKit Go.Lib
open Go.Maps (Keyed)
theorem toList_inj{a b:ByteArray}:a.toList=b.toList↔a=b:=by
 constructor
 ·intro h
  by_cases h0:a=b
  ·exact h0
  ·have h1:=beq_of h0
   rw[h] at h1;simp at h1
 ·rintro rfl
  rfl
theorem strEq(a b:ByteArray):(a.toList==b.toList)=decide (a=b):=by
 by_cases h:a=b
 ·subst h;simp
 ·rw[decide_eq_false h];exact beq_of h
theorem evEq_iff(e e':Ev):decide (e=e')=(decide (e.kind=e'.kind)&&(decide (e.a=e'.a)&&(decide (e.b=e'.b)&&(decide (e.n=e'.n)&&(decide (e.s=e'.s)&&(decide (e.t=e'.t)&&decide (e.u=e'.u))))))):=by
 rw[Bool.eq_iff_iff];simp only[Bool.and_eq_true,decide_eq_true_eq];constructor
 ·rintro rfl;simp
 ·rintro⟨h1,h2,h3,h4,h5,h6,h7⟩
  exact ev_ext h1 h2 h3 h4 h5 h6 h7
theorem eqInEv(e e':Ev)(w:World):(Op.equalIn 10000 43 (evV e) (evV e')).run Tryz.prog w=.ok (decide (e=e')) w:=by
 have u3:=Tryz.underlying3;have a3:=Tryz.isAgg3;have z3:=Tryz.sizeOf3;have u9:=Tryz.underlying9;have a9:=Tryz.isAgg9;have z9:=Tryz.sizeOf9;have hS:Tryz.prog.underlying 43=some (.struct (Tryz.prog.fieldsOf 43)):=by kernel_rfl
 unfold evV;rw[show (10000:Nat)=9999+1 from rfl,run_equalIn_agg w 9999 43 _ _ hS (by kernel_rfl)];simp only[Program.fieldsOf,Tryz.underlying43];rw[evEq_iff];go_simp;simp only[toList_inj]
 repeat' split
 all_goals simp[*]
theorem eqEv_run(e e':Ev)(w:World):(binOp .eql 43 (evV e) (evV e')).run Tryz.prog w=.ok (.bool (decide (e=e'))) w:=by
 unfold evV;rw[run_eql_struct];have:=eqInEv e e' w;unfold evV at this;rw[this];rfl
theorem neqEv_run(e e':Ev)(w:World):(binOp .neq 43 (evV e) (evV e')).run Tryz.prog w=.ok (.bool (!decide (e=e'))) w:=by
 unfold evV;rw[run_neq_struct];have:=eqInEv e e' w;unfold evV at this;rw[this];rfl
theorem blk7{W:World}{g:Nat}{k a b n:Int}{s t u:ByteArray}(hb:Blk W g 43 #[.int .i64 k,.int .i64 a,.int .i64 b,.int .i64 n,.string s,.string t,.string u]):
  W.cell? ⟨g,0,none⟩=some (.int .i64 k)∧W.cell? ⟨g,1,none⟩=some (.int .i64 a)∧W.cell? ⟨g,2,none⟩=some (.int .i64 b)∧W.cell? ⟨g,3,none⟩=some (.int .i64 n)∧W.cell? ⟨g,4,none⟩=some (.string s)∧W.cell? ⟨g,5,none⟩=some (.string t)∧W.cell? ⟨g,6,none⟩=some (.string u):=by
 have c0:=hb.cell 0;have c1:=hb.cell 1;have c2:=hb.cell 2;have c3:=hb.cell 3;have c4:=hb.cell 4;have c5:=hb.cell 5;have c6:=hb.cell 6;simp at c0 c1 c2 c3 c4 c5 c6;exact⟨c0,c1,c2,c3,c4,c5,c6⟩
theorem used_diff{e:Ev}(h:¬evUsed e=e):(evUsed e).kind=e.kind∧(¬(evUsed e).a=e.a∨((evUsed e).a=e.a∧¬(evUsed e).b=e.b)∨((evUsed e).a=e.a∧(evUsed e).b=e.b∧¬(evUsed e).n=e.n)∨((evUsed e).a=e.a∧(evUsed e).b=e.b∧(evUsed e).n=e.n∧¬(evUsed e).s.toList=e.s.toList)∨
  ((evUsed e).a=e.a∧(evUsed e).b=e.b∧(evUsed e).n=e.n∧(evUsed e).s.toList=e.s.toList∧¬(evUsed e).t.toList=e.t.toList)∨((evUsed e).a=e.a∧(evUsed e).b=e.b∧(evUsed e).n=e.n∧(evUsed e).s.toList=e.s.toList∧(evUsed e).t.toList=e.t.toList∧¬(evUsed e).u.toList=e.u.toList)):=by
 have hk:(evUsed e).kind=e.kind:=by
  unfold evUsed
  repeat' split
  all_goals rfl
 refine⟨hk,?_⟩;simp only[toList_inj]
 by_cases h1:(evUsed e).a=e.a
 ·by_cases h2:(evUsed e).b=e.b
  ·by_cases h3:(evUsed e).n=e.n
   ·by_cases h4:(evUsed e).s=e.s
    ·by_cases h5:(evUsed e).t=e.t
     ·by_cases h6:(evUsed e).u=e.u
      ·exact absurd (ev_ext hk h1 h2 h3 h4 h5 h6) h
      ·simp[*]
     ·simp[*]
    ·simp[*]
   ·simp[*]
  ·simp[*]
 ·simp[*]
theorem eCheck_any(e:Ev)(w:World):Calls Tryz.prog 111 #[evV e] w fun r w'=>r=.returned (.int .i64 (if evOk e=true then 0 else 140))∧Frm Nix w w':=by
 obtain⟨w0,hw0⟩:∃ w0,w0=w.alloc (.cells #[.int .i64 e.kind,.int .i64 e.a,.int .i64 e.b,.int .i64 e.n,.string e.s,.string e.t,.string e.u] 43):=⟨_,rfl⟩;have hf:Frm Nix w w0:=by rw[hw0];exact(fR w).alloc _
 have hb:Blk w0 w.heap.size 43 #[.int .i64 e.kind,.int .i64 e.a,.int .i64 e.b,.int .i64 e.n,.string e.s,.string e.t,.string e.u]:=by rw[hw0];exact Blk.new w _ _
 have hc:=fun x:FW (Frm Nix w0)=>blk7 (hb.frm x.h id)
 have h0:=fun x=>(hc x).1
 have h1:=fun x=>(hc x).2.1
 have h2:=fun x=>(hc x).2.2.1
 have h3:=fun x=>(hc x).2.2.2.1
 have h4:=fun x=>(hc x).2.2.2.2.1
 have h5:=fun x=>(hc x).2.2.2.2.2.1
 have h6:=fun x=>(hc x).2.2.2.2.2.2
 have KR:=fun x:FW (Frm Nix w0)=>eRight_any e x.w
 have HF:=h_ hf;have HW:=h_ hw0;have HE:Hid (evOk e=(evRight e&&decide (evUsed e=e))):=rfl;clear hc hb hf
 cases hr:evRight e with
 | false=>
   rw[hr] at KR;have h':evOk e=false:=by rw[HE.out,hr];rfl
   rw[h',if_neg (by simp)];unfold evV at *;clear hw0 h';go_enter Tryz.func111,Tryz.ntmps111;go_wp2;rw[← HW.out];refine wp_region_class (Frm Nix w0) ((fR w0).drew) (by kernel_rfl) (by kernel_rfl) ?_
   repeat (go_big_quiet_step (first | (rename_i x;go_at_call 164;refine x.call (KR x) ?_;exact fun w' hf=>x.h.trans hf)))
   refine wpQuiet_nil ?_;rintro w2 ⟨⟨_,hf2⟩,rfl⟩;go_wp2;go_ret
   exact⟨rfl,HF.out.trans hf2⟩
 | true=>
   have hk:1≤e.kind∧e.kind≤13:=by
    by_cases hk:1≤e.kind∧e.kind≤13
    ·exact hk
    ·rw[evRight_no hk] at hr
     cases hr
   have KU:=fun x:FW (Frm Nix w0)=>eUsed_any e hk x.w
   have hg:Tryz.prog.eqGuardType Tryz.prog.depth 43=false:=by kernel_rfl
   rw[hr] at KR;have HE2:Hid (evOk e=decide (evUsed e=e)):=by unfold Hid;rw[HE.out,hr];rfl
   clear hk hr HE hw0
   by_cases hu:evUsed e=e
   ·rw[decide_eq_true hu] at HE2
    rw[HE2.out,if_pos rfl];rw[hu] at KU;unfold evV at *;clear hu;go_enter Tryz.func111,Tryz.ntmps111;go_wp2;rw[← HW.out];refine wp_region_class (Frm Nix w0) ((fR w0).drew) (by kernel_rfl) (by kernel_rfl) ?_
    repeat (go_big_quiet_step (first
     | (rename_i x;go_at_call 164;refine x.call (KR x) ?_;exact fun w' hf=>x.h.trans hf)
     | (rename_i x;go_at_call 165;refine x.call (KU x) ?_;exact fun w' hf=>x.h.trans hf)))
    refine wpQuiet_nil ?_;rintro w2 ⟨⟨_,hf2⟩,rfl⟩;go_wp2;go_ret;exact⟨rfl,HF.out.trans hf2⟩
   ·rw[decide_eq_false hu] at HE2
    rw[HE2.out,if_neg (by simp)];obtain⟨q0,hd⟩:=used_diff hu;unfold evV at *;clear hu;generalize evUsed e=e' at *;rcases hd with q1 | ⟨q1,q2⟩ | ⟨q1,q2,q3⟩ | ⟨q1,q2,q3,q4⟩ | ⟨q1,q2,q3,q4,q5⟩ | ⟨q1,q2,q3,q4,q5,q6⟩
    all_goals
     go_enter Tryz.func111,Tryz.ntmps111;go_wp2;rw[← HW.out];refine wp_region_class (Frm Nix w0) ((fR w0).drew) (by kernel_rfl) (by kernel_rfl) ?_
     repeat (go_big_quiet_step (first
      | (rename_i x;go_at_call 164;refine x.call (KR x) ?_;exact fun w' hf=>x.h.trans hf)
      | (rename_i x;go_at_call 165;refine x.call (KU x) ?_;exact fun w' hf=>x.h.trans hf)))
     refine wpQuiet_nil ?_;rintro w2 ⟨⟨_,hf2⟩,rfl⟩;go_wp2;go_ret;exact⟨rfl,HF.out.trans hf2⟩
def evLarge(e:Ev):Bool:=decide (1000<(e.s.size:Int))||decide (1000<(e.t.size:Int))||decide (1000<(e.u.size:Int))
theorem rLarge_any(e:Ev)(w:World):Calls Tryz.prog 38 #[evV e] w fun r w'=>r=.returned (.bool (evLarge e))∧Frm Nix w w':=by
 have HF:Hid (∀ cs:Array Value,Frm Nix w (w.alloc (.cells cs 43))):=fun cs=>(fR w).alloc _
 have HE:Hid (evLarge e=(decide (1000<(e.s.size:Int))||decide (1000<(e.t.size:Int))||decide (1000<(e.u.size:Int)))):=rfl;unfold evV;go_enter Tryz.func38,Tryz.ntmps38;go_wp2
 all_goals
  go_ret;refine⟨ret_bool ?_,HF.out _⟩;rw[HE.out]
  try simp[*]
section
structure Ms where
 fo:Nat
 fe:Nat
 it:Nat
 se:Nat
 na:Nat
 pl:Nat
 gu:Nat
 he:Nat
def SF(g:Nat)(M:Ms):Nat→Prop:=fun k=>k=g∨k=M.fo∨k=M.fe∨k=M.it∨k=M.se∨k=M.na∨k=M.pl∨k=M.gu∨k=M.he
def StrB(w:World)(k:Nat):Prop:=∃ cs fr,w.heap[k]? =some (.cells cs 9 fr)
abbrev Sl:=Option Addr×Nat
def slV(n:Nat)(v:Sl):Value:=.slice v.1 n v.2
def TagsIn(w:World)(v:Sl)(l:List ByteArray):Prop:=Rd w (StrB w) 1 v.1 l.length (l.map Value.string)∧(v.1=none→v.2=0)∧l.length≤v.2∧v.2≤maxLen
def folV(f:Fol):Value:=.agg #[.int .i64 f.id,.int .i64 f.inn,.string f.name]
def feeV(f:Fee):Value:=.agg #[.int .i64 f.id,.int .i64 f.inn,.string f.url,.string f.title]
def seaV(f:Sea):Value:=.agg #[.int .i64 f.id,.string f.name,.string f.query]
def itmV(v:Sl)(t:Itm):Value:=.agg #[.int .i64 t.id,.int .i64 t.feed,.int .i64 t.date,.string t.guid,.string t.title,.string t.link,.bool t.read,.bool t.star,slV t.tags.length v]
def kI(n:Int):Value:=.int .i64 n
def kP(n:Int)(s:ByteArray):Value:=.agg #[.int .i64 n,.string s]
def heldS(x:St)(i:Int):Int:=((x.fols.filter fun f=>f.inn=i).length:Int)+((x.fees.filter fun f=>f.inn=i).length:Int)
def heldL(L:List (Int×Int))(i:Int):Int:=match L.find? fun p=>p.1=i with | some p=>p.2 | none=>0
structure StMaps(w:World)(M:Ms)(x:St):Prop where
 fo:MapIs Tryz.prog 3 w M.fo (x.fols.map fun f=>(kI f.id,folV f))
 fe:MapIs Tryz.prog 3 w M.fe (x.fees.map fun f=>(kI f.id,feeV f))
 it:∃ sl:Int→Sl,MapIs Tryz.prog 3 w M.it (x.itms.map fun t=>(kI t.id,itmV (sl t.id) t))∧∀ t ∈ x.itms,TagsIn w (sl t.id) t.tags
 se:MapIs Tryz.prog 3 w M.se (x.seas.map fun f=>(kI f.id,seaV f))
 na:MapIs Tryz.prog 127 w M.na (x.fols.map fun f=>(kP f.inn f.name,kI f.id))
 pl:MapIs Tryz.prog 9 w M.pl (x.fees.map fun f=>(.string f.url,kI f.id))
 gu:MapIs Tryz.prog 158 w M.gu (x.itms.map fun t=>(kP t.feed t.guid,kI t.id))
 he:∃ L:List (Int×Int),MapIs Tryz.prog 3 w M.he (L.map fun p=>(kI p.1,kI p.2))∧(∀ p ∈ L,p.1≠0)∧∀ i,i≠0→heldL L i=heldS x i
structure MsApart(g:Nat)(M:Ms):Prop where
 nodup:[g,M.fo,M.fe,M.it,M.se,M.na,M.pl,M.gu,M.he].Nodup
structure StAt(w:World)(g:Nat)(M:Ms)(x:St):Prop where
 blk:Blk w g 120 #[.int .i64 x.clock,.map (some M.fo),.map (some M.fe),.map (some M.it),.map (some M.se),.map (some M.na),.map (some M.pl),.map (some M.gu),.map (some M.he),.int .i64 x.tFol,.int .i64 x.tFee,.int .i64 x.tItm,.int .i64 x.tSea]
 maps:StMaps w M x
 apart:MsApart g M
 ok:StP x
section
variable {w w1:World} {F:Nat→Prop} {g:Nat} {M:Ms} {x:St}
theorem StrB.frm{k:Nat}(h:StrB w k)(hf:Frm F w w1)(hn:¬F k):StrB w1 k:=by
 obtain⟨cs,fr,h⟩:=h;exact⟨cs,fr,(hf.block k (lt_of_obj h) hn).trans h⟩
theorem TagsIn.frm{v:Sl}{l:List ByteArray}(h:TagsIn w v l)(hf:Frm F w w1)(hn:∀ k,StrB w k→¬F k):TagsIn w1 v l:=by
 obtain⟨h1,h2⟩:=h;exact⟨(h1.frm hf hn).mono fun k hk=>hk.frm hf (hn k hk),h2⟩
theorem StMaps.frm(h:StMaps w M x)(hf:Frm F w w1)(hn:∀ k,SF g M k→¬F k)(hs:∀ k,StrB w k→¬F k):StMaps w1 M x:=by
 refine⟨h.fo.frm hf (hn _ (by simp[SF])),h.fe.frm hf (hn _ (by simp[SF])),?_,h.se.frm hf (hn _ (by simp[SF])),h.na.frm hf (hn _ (by simp[SF])),h.pl.frm hf (hn _ (by simp[SF])),h.gu.frm hf (hn _ (by simp[SF])),?_⟩
 ·obtain⟨sl,h1,h2⟩:=h.it
  exact⟨sl,h1.frm hf (hn _ (by simp[SF])),fun t ht=>(h2 t ht).frm hf hs⟩
 ·obtain⟨L,h1,h2⟩:=h.he
  exact⟨L,h1.frm hf (hn _ (by simp[SF])),h2⟩
theorem StAt.frm(h:StAt w g M x)(hf:Frm F w w1)(hn:∀ k,SF g M k→¬F k)(hs:∀ k,StrB w k→¬F k):StAt w1 g M x:=
 ⟨h.blk.frm hf (hn _ (by simp[SF])),h.maps.frm hf hn hs,h.apart,h.ok⟩
theorem StAt.nix(h:StAt w g M x)(hf:Frm Nix w w1):StAt w1 g M x:=h.frm hf (fun _ _=>id) fun _ _=>id
theorem MapIs.ne_str{P:Program}{k:TypeId}{m:Nat}{L:List (Value×Value)}(h:MapIs P k w m L){j:Nat}(hj:StrB w j):j≠m:=by
 rintro rfl;obtain⟨R,clock,h1,-⟩:=h;obtain⟨cs,fr,h2⟩:=hj;unfold GMap at h1;rw[h1] at h2
 cases h2
theorem Blk.ne_str{t:TypeId}{cs:Array Value}(h:Blk w g t cs)(ht:t≠9){j:Nat}(hj:StrB w j):j≠g:=by
 rintro rfl;obtain⟨cs',fr,h2⟩:=hj;unfold Blk at h;rw[h] at h2;injection h2 with h2;injection h2 with _ h3;exact ht h3
theorem StAt.str(h:StAt w g M x):∀ k,StrB w k→¬SF g M k:=by
 intro k hk hF;obtain⟨sl,hi,-⟩:=h.maps.it;obtain⟨L,hh,-⟩:=h.maps.he;rcases hF with e | e | e | e | e | e | e | e | e
 ·exact h.blk.ne_str (by decide) hk e
 ·exact h.maps.fo.ne_str hk e
 ·exact h.maps.fe.ne_str hk e
 ·exact hi.ne_str hk e
 ·exact h.maps.se.ne_str hk e
 ·exact h.maps.na.ne_str hk e
 ·exact h.maps.pl.ne_str hk e
 ·exact h.maps.gu.ne_str hk e
 ·exact hh.ne_str hk e
theorem StAt.lt(h:StAt w g M x):∀ k,SF g M k→k<w.heap.size:=by
 intro k hF;obtain⟨sl,hi,-⟩:=h.maps.it;obtain⟨L,hh,-⟩:=h.maps.he;rcases hF with rfl | rfl | rfl | rfl | rfl | rfl | rfl | rfl | rfl
 ·exact h.blk.lt
 ·exact h.maps.fo.lt
 ·exact h.maps.fe.lt
 ·exact hi.lt
 ·exact h.maps.se.lt
 ·exact h.maps.na.lt
 ·exact h.maps.pl.lt
 ·exact h.maps.gu.lt
 ·exact hh.lt
end
theorem keyedI:Keyed Tryz.prog 3:=Go.Maps.int_keyed Tryz.underlying3
theorem keyedS:Keyed Tryz.prog 9:=Go.Maps.string_keyed Tryz.underlying9
theorem typesN:∃ D,Tryz.prog.types.size=D+2:=by
 have h:decide (2≤Tryz.prog.types.size)=true:=by kernel_rfl
 have h:=of_decide_eq_true h;exact⟨Tryz.prog.types.size - 2,by omega⟩
theorem keyedN:Keyed Tryz.prog 127:=Keyed.of_law (deep_law_laid (by kernel_rfl) (m:=5) (by decide) (of_decide_eq_true (by kernel_rfl)) (by kernel_rfl) (by kernel_rfl))
theorem keyedG:Keyed Tryz.prog 158:=Keyed.of_law (deep_law_laid (by kernel_rfl) (m:=5) (by decide) (of_decide_eq_true (by kernel_rfl)) (by kernel_rfl) (by kernel_rfl))
def I64(n:Int):Prop:=-9223372036854775808≤n∧n≤9223372036854775807
theorem wfI{n:Int}(h:I64 n):(Lit.int .i64 n).wf=true:=by
 unfold I64 at h;have h1:IntKind.i64.min= -9223372036854775808:=by decide
 have h2:IntKind.i64.max=9223372036854775807:=by decide
 simp only[Lit.wf,h1,h2,Bool.and_eq_true,decide_eq_true_eq];omega
theorem isK_I{n:Int}(h:I64 n):IsK Tryz.prog 3 (kI n):=⟨_,Go.Maps.keyOf_int_mk Tryz.underlying3 (wfI h)⟩
theorem isK_S{s:ByteArray}(hs:s.size≤maxLen):IsK Tryz.prog 9 (.string s):=by
 refine⟨.string s.data.toList,?_⟩;simp[keyOf,Tryz.underlying9,mapKey,hs]
theorem isK_N{n:Int}(h:I64 n){s:ByteArray}(hs:s.size≤maxLen):IsK Tryz.prog 127 (kP n s):=by
 have hk:Tryz.prog.keyType 127=true:=by kernel_rfl
 have hc:Tryz.prog.cellsOf 127=2:=by kernel_rfl
 have h3:Tryz.prog.cellsOf 3=1:=by kernel_rfl
 have h9:Tryz.prog.cellsOf 9=1:=by kernel_rfl
 have hw:=wfI h;obtain⟨D,hD⟩:=typesN;unfold IsK kP keyOf;rw[Tryz.underlying127,hD];simp[hk,Value.formed,Tryz.underlying127,hc,Value.cells,Program.keyLits,h3,h9,Tryz.underlying3,Tryz.underlying9,hw,hs]
theorem isK_G{n:Int}(h:I64 n){s:ByteArray}(hs:s.size≤maxLen):IsK Tryz.prog 158 (kP n s):=by
 have hk:Tryz.prog.keyType 158=true:=by kernel_rfl
 have hc:Tryz.prog.cellsOf 158=2:=by kernel_rfl
 have h3:Tryz.prog.cellsOf 3=1:=by kernel_rfl
 have h9:Tryz.prog.cellsOf 9=1:=by kernel_rfl
 have hw:=wfI h;obtain⟨D,hD⟩:=typesN;unfold IsK kP keyOf;rw[Tryz.underlying158,hD];simp[hk,Value.formed,Tryz.underlying158,hc,Value.cells,Program.keyLits,h3,h9,Tryz.underlying3,Tryz.underlying9,hw,hs]
def feeD:Fee:=⟨0,0,eS,eS⟩
def folD:Fol:=⟨0,0,eS⟩
def seaD:Sea:=⟨0,eS,eS⟩
def itmD:Itm:=⟨0,0,0,eS,eS,eS,false,false,[]⟩
section
variable {α:Type} {P:Program} {w:World} {m t k et:TypeId} {l:List α} {gk:α→Int} {f:α→Value}
theorem tab_look(K:Keyed P k)(h:MapIs P k w m (l.map fun y=>(kI (gk y),f y)))(ht:P.underlying t=some (.map k et)){i:Int}(hi:IsK P k (kI i)){z:Value}(hz:(zeroValue et).run P w=.ok z w)(ok:Bool):
  (Instr.lookup t (.map (some m)) (kI i) ok).run P w=.ok (if ok=true then .tuple #[((atI gk i l).elim z f),.bool (isI gk i l)] else ((atI gk i l).elim z f)) w:=by
 have his:=atI_isI (g:=gk) (id:=i) (l:=l)
 cases ha:atI gk i l with
 | some y=>
   rw[ha] at his;obtain⟨h1,h2⟩:=atI_mem ha;rw[← his]
   exact h.lookup_yes K ht (List.mem_map.2 ⟨y,h1,by rw[h2];rfl⟩) ok
 | none=>
   rw[ha] at his;rw[← his];refine h.lookup_no K ht hi (fun p hp=>?_) hz ok;obtain⟨y,hy,rfl⟩:=List.mem_map.1 hp;intro e;have:=atI_none ha y hy;unfold kI at e;injection e with _ e;exact this e
theorem key_look(K:Keyed P k){key:α→Value}(h:MapIs P k w m (l.map fun y=>(key y,kI (gk y))))(ht:P.underlying t=some (.map k et)){x:Value}(hi:IsK P k x)(hz:(zeroValue et).run P w=.ok (kI 0) w)(ok:Bool)
  (q:α→Bool) (hq:∀ y ∈ l,key y=x↔q y=true):
  (Instr.lookup t (.map (some m)) x ok).run P w=.ok (if ok=true then .tuple #[kI ((l.find? q).elim 0 gk),.bool (l.any q)] else kI ((l.find? q).elim 0 gk)) w:=by
 cases ha:l.find? q with
 | some y=>
   have h1:=List.mem_of_find?_eq_some ha;have h2:=List.find?_some ha;have h3:l.any q=true:=List.any_eq_true.2 ⟨y,h1,h2⟩;rw[h3]
   exact h.lookup_yes K ht (List.mem_map.2 ⟨y,h1,by rw[(hq y h1).2 h2];rfl⟩) ok
 | none=>
   have h3:l.any q=false:=List.any_eq_false.2 fun y hy=>by have:=List.find?_eq_none.1 ha y hy;simpa using this
   rw[h3];refine h.lookup_no K ht hi (fun p hp=>?_) hz ok;obtain⟨y,hy,rfl⟩:=List.mem_map.1 hp;intro e;have:=List.find?_eq_none.1 ha y hy;exact this ((hq y hy).1 e)
end
theorem kP_inj{a b:Int}{s t:ByteArray}:kP a s=kP b t↔a=b∧s=t:=by
 unfold kP;constructor
 ·intro h
  injection h with h;have h:=congrArg Array.toList h;injection h with h1 h2;injection h2 with h2 h3;injection h1 with _ h1;injection h2 with h2;exact⟨h1,h2⟩
 ·rintro⟨rfl,rfl⟩
  rfl
end
end Go.Proofs.YtdihmpakglakdaaGreat
