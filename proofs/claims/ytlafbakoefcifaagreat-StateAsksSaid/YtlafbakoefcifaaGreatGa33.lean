/-
  Contracts: levels: folders by how deep they are nested.
-/
import Derived.Test.YtlafbakoefcifaaGreatGa30
import Derived.Test.YtlafbakoefcifaaGreatGa10
import Derived.Test.YtlafbakoefcifaaGreatGa03
set_option linter.unusedVariables false
set_option linter.unusedSimpArgs false
set_option maxRecDepth 100000
set_option maxHeartbeats 16000000
namespace Go.Proofs.YtlafbakoefcifaaGreat
open Go.RowKit Go.Lib
theorem elemI1:ElemOk Tryz.prog 120 3 8:=⟨Tryz.underlying120,⟨.int .i64 0,by kernel_rfl,rfl⟩⟩
theorem elemLv:ElemK Tryz.prog 146 25 1 24:=⟨Tryz.underlying146,⟨.slice none 0 0,by kernel_rfl,rfl⟩,by decide⟩
theorem flat_single(l:List Int):l.map kI=l.flatMap fun i=>[kI i]:=by
 induction l with
 | nil=>rfl
 | cons a l ih=>rw[List.map_cons,ih,List.flatMap_cons];rfl
theorem Contains_any{W:World}{G:Nat→Prop}{v:Sl}{l:List Int}(h:SlIn W G 1 v l.length (l.map kI))(hn:l.length≤100000)(x:Int):
  Calls Tryz.prog 146 #[.slice v.1 l.length v.2,.int .i64 x] W fun e w'=>e=.returned (.bool (l.contains x))∧w'=W:=by
 rcases Nat.eq_zero_or_pos l.length with h0 | h0
 ·have:l=[]:=List.eq_nil_of_length_eq_zero h0
  subst this;exact Tryz.slices_Contains_int_empty v.1 v.2 x W
 ·rw[flat_single] at h
  obtain⟨b,off,e,-,-,hc⟩:=h.at_ (f:=fun i=>[kI i]) (fun _=>rfl) (by decide) h0;rw[e]
  have:=Tryz.slices_Contains_int b off l.length v.2 l x W (Nat.le_refl _) (by omega) (fun j hj=>by
   have:=hc j hj 0 _ rfl;rw[Nat.mul_one,Nat.add_zero] at this;rw[this,List.getD_eq_getElem?_getD,List.getElem?_eq_getElem hj];rfl)
  rwa [List.take_length] at this
theorem fol3{w:World}{b off:Nat}{f:Fol}(h:∀ (j:Nat) (u:Value),f.cells[j]? =some u→w.cell? ⟨b,off+j,none⟩=some u):
  w.cell? ⟨b,off,none⟩=some (.int .i64 f.id)∧w.cell? ⟨b,off+1,none⟩=some (.int .i64 f.inn)∧w.cell? ⟨b,off+2,none⟩=some (.string f.name):=
 ⟨h 0 _ rfl,h 1 _ rfl,h 2 _ rfl⟩
theorem filt_step{α:Type}(l:List α)(j:Nat)(h:j<l.length)(p:α→Bool):(l.take (j+1)).filter p=(l.take j).filter p++if p l[j]=true then [l[j]] else []:=by
 rw[List.take_succ_eq_append_getElem h,List.filter_append]
 cases hq:p l[j]<;>simp[List.filter,hq]
theorem levels_any{w:World}{v:Sl}{G:Nat→Prop}(l:List Fol)(hv:SlIn w G 3 v l.length (l.flatMap Fol.cells))(hn:l.length≤100000):
  Calls Tryz.prog 128 #[.slice v.1 l.length v.2] w fun e w'=>∃ A c,∃ lvs:List (Value×List Fol),e=.returned (.slice A 7 c)∧RowK 25 1 w w' (.slice A 7 c) 7 (lvs.map (·.1))∧lvs.map (·.2)=levelsS l∧∀ p ∈ lvs,RowK 49 3 w w' p.1 p.2.length (p.2.flatMap Fol.cells):=by
 obtain⟨Av,cv⟩:=v;dsimp only;obtain⟨n,hln⟩:∃ n,l.length=n:=⟨_,rfl⟩;have HL:=h_ hln;have HV:=h_ hv;rw[hln] at hn ⊢;clear hv hln;go_enter Tryz.func128,Tryz.ntmps128;go_wp2
 go_loopw [3,4,11] (fun ov av kv wr=>∃ (k:Nat) (ab:List Int) (lvs:List (Value×List Fol)),k≤7∧kv=.int .i64 k∧ab.length≤100000∧RowIn 3 w wr av ab.length (ab.map kI)∧RowK 25 1 w wr ov k (lvs.map (·.1))∧(∀ p ∈ lvs,RowK 49 3 w wr p.1 p.2.length (p.2.flatMap Fol.cells))∧lvs.map (·.2)++levelsG l (7 - k) ab=levelsS l) (fun _ _ kv _=>7 - (intOf kv).toNat)
 case atStart=>exact⟨0,[0],[],by omega,rfl,by simp,(by have h:=RowIn.lit 3 ((fR w).alloc (.cells #[] 25)) [kI 0] (by unfold maxLen;simp);simpa [kI] using h),(RowK.empty 25 1 (fR w)).more ((fR _).alloc _),(fun p hp=>by cases hp),rfl⟩
 case round=>
  obtain⟨k,ab,lvs,hk,rfl,hab,hav,hov,hlv,hsp⟩:=hrel;obtain⟨Aa,ca,rfl,-,-,-,-⟩:=hav.shape;obtain⟨Ao,co,rfl,-,-,-,-⟩:=hov.shape;have HA:=h_ hav;have HO:=h_ hov;have HLV:=h_ hlv;have HSP:=h_ hsp;have HAB:=h_ hab;clear hav hov hlv hsp hab;obtain⟨wo,rfl⟩:∃ wo,wo=wr:=⟨_,rfl⟩
  by_cases hlt:k<7
  ·have KC:Hid (∀ W x,Frm Nix wo W→Calls Tryz.prog 146 #[.slice Aa ab.length ca,.int .i64 x] W fun e w'=>e=.returned (.bool (ab.contains x))∧w'=W):=fun W x hW=>Contains_any (v:=(Aa,ca)) ((HA.out.toK.more hW).sl) HAB.out x
   generalize ab.length=na at *;have hd7:decide ((k:Int)<7)=true:=by simp;omega
   go_wp2
   go_loopw [5,6,15] (fun lv iv jv wr=>∃ j:Nat,j≤n∧jv=.int .i64 j∧RowK 49 3 wo wr lv ((l.take j).filter fun f=>ab.contains f.inn).length (((l.take j).filter fun f=>ab.contains f.inn).flatMap Fol.cells)∧RowIn 3 wo wr iv ((l.take j).filter fun f=>ab.contains f.inn).length ((((l.take j).filter fun f=>ab.contains f.inn).map (·.id)).map kI)) (fun _ _ jv _=>n - (intOf jv).toNat)
   case atStart=>exact⟨0,by omega,rfl,RowK.nil_ _ _ (Frm.refl _ _),RowIn.nil_ _ (Frm.refl _ _)⟩
   case round=>
    obtain⟨j,hj,rfl,hl1,hi1⟩:=hrel;obtain⟨Al,cl,rfl,-,-,-,-⟩:=hl1.shape;obtain⟨Ai,ci,rfl,-,-,-,-⟩:=hi1.shape;have HL1:=h_ hl1;have HI1:=h_ hi1;clear hl1 hi1
    by_cases hjn:j<n
    ·have hjl:j<l.length:=by rw[HL.out];exact hjn
     obtain⟨b,off,hA,-,hbl,hcell⟩:=(HV.out.nix (HA.out.frm.trans HL1.out.frm)).at_ Fol.clen (by decide) (by omega);dsimp only at hA;subst hA;have h3:=fol3 (w:=wr) (b:=b) (off:=off+j * 3) (f:=l[j]) (hcell j hjl)
     have hlq:((l.take j).filter fun f=>ab.contains f.inn).length≤j:=by
      have:=List.length_filter_le (fun f:Fol=>ab.contains f.inn) (l.take j);rw[List.length_take] at this;omega
     have hstep:=filt_step l j hjl fun f=>ab.contains f.inn
     have HST:=h_ hstep;obtain⟨f,hf⟩:∃ f,l[j]=f:=⟨_,rfl⟩;rw[hf] at h3 HST;obtain⟨x0,x1,x2⟩:=h3;clear hcell hstep hf;have K:=KC.out (wr.alloc (.cells #[.int .i64 f.id,.int .i64 f.inn,.string f.name] 49)) f.inn (HL1.out.frm.alloc _)
     cases hc:ab.contains f.inn with
     | true=>
       rw[hc] at K;rw[hc,if_pos rfl] at HST;obtain⟨v4,w4,hrun4,hr4,hf4,-⟩:=(HL1.out.more ((fR wr).alloc (.cells #[.int .i64 f.id,.int .i64 f.inn,.string f.name] 49))).push elemFol [.int .i64 f.id,.int .i64 f.inn,.string f.name] rfl (by intro u hu;simp at hu;rcases hu with rfl | rfl | rfl<;>rfl) (by unfold maxLen;omega) (by omega);rw[show (wr.alloc (.cells #[.int .i64 f.id,.int .i64 f.inn,.string f.name] 49)).heap.size=wr.heap.size+1 by simp] at hrun4;have hbx:Blk w4 wr.heap.size 49 #[.int .i64 f.id,.int .i64 f.inn,.string f.name]:=((Blk.new wr _ _).alloc _).frm hf4 (fun e=>by have:=(HL1.out.own.lt _ e).2;omega);have y0:=hbx.cell 0;simp at y0;have hi4:=(HI1.out.more (((fR wr).alloc _).alloc _)).far hf4 (fun i hi=>(HL1.out.own.lt i hi).1) (fun i hi hi2=>rowK_apart HI1.out.toK HL1.out (by decide) hi hi2);obtain⟨v5,w5,hrun5,hr5,hf5,-⟩:=hi4.push elemI1 (.int .i64 f.id) rfl (by unfold maxLen;omega) (by omega);have hl5:=(hr4.more ((fR w4).alloc _)).far hf5 (fun i hi=>(hi4.own.lt i hi).1) (fun i hi hi2=>rowK_apart hr4 hi4.toK (by decide) hi hi2)
       have HX:Hid (RowK 49 3 wo w5 v4 ((l.take (j+1)).filter fun f=>ab.contains f.inn).length (((l.take (j+1)).filter fun f=>ab.contains f.inn).flatMap Fol.cells)∧RowIn 3 wo w5 v5 ((l.take (j+1)).filter fun f=>ab.contains f.inn).length ((((l.take (j+1)).filter fun f=>ab.contains f.inn).map (·.id)).map kI)):=by
        rw[HST.out,List.length_append,List.flatMap_append,List.map_append,List.map_append];exact⟨by simpa [Fol.cells] using hl5,hr5⟩
       clear hbx hi4 hr4 hf4 hr5 hf5 hl5 hc;generalize ((l.take j).filter fun f=>ab.contains f.inn).length=q at *
       go_wp2_with (first
        | (go_at_call 146;refine K.mono ?_;rintro e w' ⟨rfl,rfl⟩)
        | (at_builtin;first | (refine wpList_append_run hrun4 rfl _ _ rfl rfl rfl ?_) | (refine wpList_append_run hrun5 rfl _ _ rfl rfl rfl ?_)))
       go_roundw
       case rel=>
        exact⟨j+1,by omega,by go_num,HX.out.1,HX.out.2⟩
       case measure=>simp[intOf];omega
     | false=>
       rw[hc] at K;rw[hc] at HST;simp only[Bool.false_eq_true,if_false,List.append_nil] at HST
       have HX:Hid (RowK 49 3 wo (wr.alloc (.cells #[.int .i64 f.id,.int .i64 f.inn,.string f.name] 49)) (.slice Al ((l.take j).filter fun f=>ab.contains f.inn).length cl) ((l.take (j+1)).filter fun f=>ab.contains f.inn).length (((l.take (j+1)).filter fun f=>ab.contains f.inn).flatMap Fol.cells)∧RowIn 3 wo (wr.alloc (.cells #[.int .i64 f.id,.int .i64 f.inn,.string f.name] 49)) (.slice Ai ((l.take j).filter fun f=>ab.contains f.inn).length ci) ((l.take (j+1)).filter fun f=>ab.contains f.inn).length ((((l.take (j+1)).filter fun f=>ab.contains f.inn).map (·.id)).map kI)):=by
        rw[HST.out];exact⟨HL1.out.more ((fR wr).alloc _),HI1.out.more ((fR wr).alloc _)⟩
       clear hc;generalize ((l.take j).filter fun f=>ab.contains f.inn).length=q at *;go_wp2_with (go_at_call 146;refine K.mono ?_;rintro e w' ⟨rfl,rfl⟩);go_roundw
       case rel=>
        exact⟨j+1,by omega,by go_num,HX.out.1,HX.out.2⟩
       case measure=>simp[intOf];omega
    ·obtain rfl:j=n:=by omega
     have HTk:Hid (l.take j=l):=List.take_of_length_le (by rw[HL.out];exact Nat.le_refl _);rw[HTk.out] at HL1 HI1
     have hll:(l.filter fun f=>ab.contains f.inn).length≤100000:=by
      have:=List.length_filter_le (fun f:Fol=>ab.contains f.inn) l;have:=HL.out;omega
     have hov2:=HO.out.more HL1.out.frm;rw[HTk.out];obtain⟨v6,w6,hrun6,hr6,hf6,-⟩:=hov2.push elemLv [.slice Al (l.filter fun f=>ab.contains f.inn).length cl] rfl (by intro u hu;simp at hu;rcases hu with rfl;rfl) (by unfold maxLen;omega) (by omega);have hlw:=HL1.out.since HA.out.frm;have hiw:=HI1.out.since HA.out.frm;have hF6:∀ k,(Value.slice Ao k co).ownBlock=some k→True:=fun _ _=>trivial
     have HX:Hid (RowIn 3 w w6 (.slice Ai (l.filter fun f=>ab.contains f.inn).length ci) ((l.filter fun f=>ab.contains f.inn).map (·.id)).length (((l.filter fun f=>ab.contains f.inn).map (·.id)).map kI)∧RowK 25 1 w w6 v6 (k+1) ((lvs++[((Value.slice Al (l.filter fun f=>ab.contains f.inn).length cl,l.filter fun f=>ab.contains f.inn):Value×List Fol)]).map (·.1))∧(∀ p ∈ lvs++[((Value.slice Al (l.filter fun f=>ab.contains f.inn).length cl,l.filter fun f=>ab.contains f.inn):Value×List Fol)],RowK 49 3 w w6 p.1 p.2.length (p.2.flatMap Fol.cells))∧(lvs++[((Value.slice Al (l.filter fun f=>ab.contains f.inn).length cl,l.filter fun f=>ab.contains f.inn):Value×List Fol)]).map (·.2)++levelsG l (7 - (k+1)) ((l.filter fun f=>ab.contains f.inn).map (·.id))=levelsS l):=by
      refine⟨?_,?_,?_,?_⟩
      ·rw[List.length_map]
       exact(hiw.more ((fR wr).alloc _)).far hf6 (fun i hi=>(hov2.own.lt i hi).1) (fun i hi hi2=>rowK_apart hiw.toK hov2 (by decide) hi hi2)
      ·rw[List.map_append]
       exact hr6
      ·intro p hp
       rcases List.mem_append.1 hp with hp | hp
       ·have h1:=(HLV.out p hp).more HL1.out.frm
        exact(h1.more ((fR wr).alloc _)).far hf6 (fun i hi=>(hov2.own.lt i hi).1) (fun i hi hi2=>rowK_apart h1 hov2 (by decide) hi hi2)
       ·simp only[List.mem_singleton] at hp
        subst hp;exact(hlw.more ((fR wr).alloc _)).far hf6 (fun i hi=>(hov2.own.lt i hi).1) (fun i hi hi2=>rowK_apart hlw hov2 (by decide) hi hi2)
      ·have:=HSP.out
       rw[show 7 - k=(7 - (k+1))+1 by omega] at this;rw[← this,List.map_append,List.append_assoc];rfl
     clear hov2 hr6 hf6 hlw hiw hF6;have hml:((l.filter fun f=>ab.contains f.inn).map (·.id)).length=(l.filter fun f=>ab.contains f.inn).length:=List.length_map _;have HLL:Hid (((l.filter fun f=>ab.contains f.inn).map (·.id)).length≤100000):=by rw[Hid,hml];exact hll
     generalize hgq:(l.filter fun f=>ab.contains f.inn).length=q at *;go_wp2_with (at_builtin;refine wpList_append_run hrun6 rfl _ _ rfl rfl rfl ?_);go_roundw
     case rel=>exact⟨k+1,_,_,by omega,by go_num,HLL.out,by rw[hml] at HX;rw[hml];exact HX.out.1,HX.out.2.1,HX.out.2.2.1,HX.out.2.2.2⟩
     case measure=>simp[intOf];omega
  ·obtain rfl:k=7:=by omega
   have hsp:=HSP.out;simp only[Nat.sub_self,levelsG,List.append_nil] at hsp;have HSP2:=h_ hsp;clear hsp;go_wp2;go_ret;exact⟨_,_,lvs,rfl,HO.out,HSP2.out,HLV.out⟩
end Go.Proofs.YtlafbakoefcifaaGreat
