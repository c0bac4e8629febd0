/- a part of the proof -/
import Derived.Test.YtkajmpgbnbikiaaGreatDoorMbr
import Derived.Test.YtkajmpgbnbikiaaGreatDoorMbk
import Derived.Test.YtkajmpgbnbikiaaGreatDoorMba
import Derived.Test.YtkajmpgbnbikiaaGreatDoorMap
import Derived.Test.YtkajmpgbnbikiaaGreatDoorMbl
import Derived.Test.YtkajmpgbnbikiaaGreatDoorMbm
import Derived.Deep.Slices
set_option linter.all false
set_option maxRecDepth 1000000
set_option maxHeartbeats 4000000
namespace Go.Va
open Go.Proofs
def ev43_t:Tb2:=⟨[(96,[([.agg [OZ,eN]],.u (.c (.own 8 10 [eI 1,Cb,eO,eN,eN,eI 5,AE,eN,eI 1,Bb,eO,eN,eN,eI 5,Aq,eN,eI 2,AL,eO,eN,eN,eI 6,A9,eN,eI 4,Cr,eO,eN,eN,eI 5,AE,eN,eI 4,Bh,eO,eN,eN,eI 5,Aq,eN,eI 9,AL,eO,Al,Ae,eI 6,A9,eN,eI 9,Cf,eO,Al,Ae,eI 5,AE,eN,eI 9,DW,eO,Al,Ae,eI 5,AE,eN,eI 9,Ba,eO,Al,Ae,eI 5,Aq,eN,eI 9,Bx,eO,Al,Ae,eI 5,Aq,eN])))])],[]⟩
theorem jfw:ev43_t.Ok Tryz.prog:=AN Uz (by decide+kernel)
def evL14:Tb2:=(ev43_t.app evL13)
theorem TK:evL14.Ok Tryz.prog:=(Tb2.ok_app jfw Uz)
def ev44_t:Tb2:=⟨[(43,[([.agg [OZ,eN]],.tup [.agg [.d Ko,.d eN],.c (.d (.bool true))])])],[]⟩
theorem ZJ:ev44_t.Ok Tryz.prog:=AN TK (by decide+kernel)
def evL15:Tb2:=(ev44_t.app evL14)
theorem OP:evL15.Ok Tryz.prog:=(Tb2.ok_app ZJ TK)
def ev45_t:Tb2:=⟨[(17,[([.agg [B7,E3],.c (eI 0)],.tup [.agg [.d Ko,.d eN],.c (.d (eI 0))])])],[]⟩
theorem Yc:ev45_t.Ok Tryz.prog:=AN OP (by decide+kernel)
def evL16:Tb2:=(ev45_t.app evL15)
theorem jeG:evL16.Ok Tryz.prog:=(Tb2.ok_app Yc OP)
def ev46_t:Tb2:=⟨[(7,[([],.u (.c (.d (.bool true))))])],[]⟩
theorem ev46_ok:ev46_t.Ok Tryz.prog:=AN jeG (by decide+kernel)
theorem jht:CallsF Tryz.prog 7 [] (.u (.c (.d (.bool true)))):=
 ev46_ok.1 (7,[([],.u (.c (.d (.bool true))))]) (List.mem_singleton.2 rfl) ([],.u (.c (.d (.bool true)))) (List.mem_singleton.2 rfl)
theorem jhf{ds:List Der}{gs:List Grd}(hin: ∀x∈ds,InFact x.fact)(h:HH ds gs=true):ds.length≤40∧gs.length≤20∧(∀x∈ds,x.Mild∧x.fact.abs.length≤2∧x.fact.den.length≤2)∧ ∀g∈gs,g.args.length≤20:=by
 unfold HH at h;simp only[AC,decide_eq_true_eq,jzy]at h;obtain⟨h1,h2,h3,h4⟩:=h;refine⟨h1,h2,fun x hx=> ?_,fun g hg=> ?_⟩
 ·have q:=h3 x hx;unfold Ik at q;simp only[AC,decide_eq_true_eq]at q;exact⟨⟨⟨by omega,by omega,(hin x hx).oa,(hin x hx).od,by omega⟩,by omega⟩,q.2.2.1,q.2.2.2⟩
 ·have q:=h4 g hg;unfold Ir at q
  simpa using q
end Go.Va
namespace Go.Va
open Int (natCast_add natCast_mul natCast_emod natCast_ediv natCast_pow)
open Go.Proofs
theorem jbq(ds:List Der)(gs:List Grd)(rp:List Rp)(hin: ∀x∈ds,InFact x.fact)(hr: ∀p∈rp,p.Ok):CallsF Tryz.prog 5 [.agg [Fp ds,Br gs],.c (Ew rp)] (.u (.c (.d (.bool true)))):=by
 have km:=jce ds gs;have kp:=jb3 rp hr;have ka:=jht;cases hm:HH ds gs with
 |false=>
  rw[hm]at km
  refine Ak (T:=tb) Ah mixed Tryz.func5 rfl (by decide) (Af rfl) rfl ?_;unfold St.init
  simp -implicitDefEqProofs[jJ,-natCast_add,-natCast_mul]
  (first|refine Ab km ?_|refine Aa km ?_)
  simp -implicitDefEqProofs[jJ,-natCast_add,-natCast_mul]
  (first|refine Ab ka ?_|refine Aa ka ?_)
  simp -implicitDefEqProofs[jJ,-natCast_add,-natCast_mul]
 |true=>
  rw[hm]at km
  cases hp:IJ rp with
  |false=>
   rw[hp]at kp
   refine Ak (T:=tb) Ah mixed Tryz.func5 rfl (by decide) (Af rfl) rfl ?_;unfold St.init
   simp -implicitDefEqProofs[jJ,-natCast_add,-natCast_mul]
   (first|refine Ab km ?_|refine Aa km ?_)
   simp -implicitDefEqProofs[jJ,-natCast_add,-natCast_mul]
   (first|refine Ab kp ?_|refine Aa kp ?_)
   simp -implicitDefEqProofs[jJ,-natCast_add,-natCast_mul]
   (first|refine Ab ka ?_|refine Aa ka ?_)
   simp -implicitDefEqProofs[jJ,-natCast_add,-natCast_mul]
  |true=>
   obtain⟨h1,h2,h3,h4⟩:=jhf hin hm
   obtain⟨e1,e2,e3⟩:=jdE hr hp
   rw[hp]at kp
   have hl:(rp.map Rp.pq).length≤1000:=by rw[List.length_map];omega
   have k1:=Zj ds gs (rp.map Rp.pq) (by omega) (fun g hg=>by have:=h4 g hg;omega) e2 hl
   have k2:=jac ds gs (rp.map Rp.pq) (by omega) (fun g hg=>by have:=h4 g hg;omega) e2 hl
   rw[←e1]at k1 k2
   generalize errM (rp.map Rp.pq) gs=e at*;generalize meetB (rp.map Rp.pq) gs=b at*;clear e1 e2 e3 hl hr hin h1 h2 h3 h4;refine Ak (T:=tb) Ah mixed Tryz.func5 rfl (by decide) (Af rfl) rfl ?_;unfold St.init
   simp -implicitDefEqProofs[jJ,-natCast_add,-natCast_mul]
   (first|refine Ab km ?_|refine Aa km ?_)
   simp -implicitDefEqProofs[jJ,-natCast_add,-natCast_mul]
   (first|refine Ab kp ?_|refine Aa kp ?_)
   simp -implicitDefEqProofs[jJ,-natCast_add,-natCast_mul]
   (first|refine Ab k1 ?_|refine Aa k1 ?_)
   simp -implicitDefEqProofs[jJ,-natCast_add,-natCast_mul]
   (first|refine Ab k2 ?_|refine Aa k2 ?_)
   simp -implicitDefEqProofs[jJ,-natCast_add,-natCast_mul]
   (first|refine Ab ka ?_|refine Aa ka ?_)
   simp -implicitDefEqProofs[jJ,-natCast_add,-natCast_mul]
end Go.Va
namespace Go.Va
open Go.Proofs Go.ChangeShapes Go.WideShapes Go.ChangeAt Go.RowKit
theorem jfH(l:List Rp)(j:Nat):(l.flatMap Rp.ds)[j]? =(l[j/6]?).bind fun f=>f.ds[j%6]? :=by
 have e:j=j/6*6+j%6:=by omega
 have h1:(l.flatMap Rp.ds)[j]? =((l.flatMap Rp.ds).drop (j/6*6))[j%6]? :=by
  rw[List.getElem?_drop]
  congr 1
 rw[h1,DU Rp.ds_len]
 by_cases h:j/6<l.length
 ·rw[AX h,Am h,List.flatMap_cons,List.getElem?_append_left (by rw[Rp.ds_len];omega)]
  rfl
 ·rw[List.drop_eq_nil_of_le (by omega),By (l:=l) (by omega)]
  rfl
section
variable {H:Type} {enc:TypeId×Value→H} {w:World} {base:Nat} {sp:Nat→Bool} {hd:Bool}
theorem UK{fuel:Nat}{cs:List Value}{x:DataW H×List MemPlace}(h:DataW.trod enc Tryz.prog w base sp hd fuel 49 cs=some x):
  ∃(b:Bool) (l m:List Nat) (v3 v4:Value),Ok l∧Ok m∧cs=[.bool b,v3,v4]∧RepD w Z0 (Ac l) v3∧RepD w Z0 (Ac m) v4:=by
 have hc26:Tryz.prog.cellsOf 47=2:=by kernel_rfl
 have hc24:Tryz.prog.cellsOf 45=1:=by kernel_rfl
 have hc28:Tryz.prog.cellsOf 49=3:=by kernel_rfl
 have hc4:Tryz.prog.cellsOf 4=1:=by kernel_rfl
 have some_of: ∀{α:Type} {o:Option α} {l:List α} {i:Nat},o=l[i]? →i<l.length→ ∃y,o=some y:=fun {α o l i} h hi=>⟨l[i],by rw[h,Am hi]⟩
 obtain⟨ys,n2,_,_,hlen,hy2,hf2⟩:=DataW.trod_struct Tryz.underlying49 h
 rw[hc28]at hlen
 have hy2':ys.length=2:=hy2
 obtain⟨c0,c1,c2,rfl⟩: ∃c0 c1 c2,cs=[c0,c1,c2]:=by
  match cs,hlen with
  |[c0,c1,c2],_=>exact⟨c0,c1,c2,rfl⟩
 obtain⟨z0,k0⟩:=some_of (hf2 0 _ rfl) (by omega)
 obtain⟨z1,k1⟩:=some_of (hf2 1 _ rfl) (by omega)
 simp only[hc26,hc24,List.getElem_toArray,List.getElem_cons_zero,List.getElem_cons_succ,List.drop_zero,List.take_succ_cons,List.take_zero,List.drop_succ_cons]at k0 k1;obtain⟨D4,u4,o4,e4,r4⟩:=I9 k1;obtain⟨zs,n3,_,_,_,hz2,hf3⟩:=DataW.trod_struct Tryz.underlying47 k0;have hz2':zs.length=2:=hz2;obtain⟨q0,j0⟩:=some_of (hf3 0 _ rfl) (by omega)
 obtain⟨q1,j1⟩:=some_of (hf3 1 _ rfl) (by omega)
 simp only[hc4,hc24,List.getElem_toArray,List.getElem_cons_zero,List.getElem_cons_succ,List.drop_zero,List.take_succ_cons,List.take_zero,List.drop_succ_cons]at j0 j1;obtain⟨b,e2,_⟩:=DataW.trod_bool Tryz.underlying4 j0;obtain⟨D3,u3,o3,e3,r3⟩:=I9 j1;cases e2;cases e3;cases e4;exact⟨b,D3,D4,_,_,o3,o4,rfl,r3,r4⟩
theorem jbS{fuel:Nat}{cs:List Value}{x:DataW H×List MemPlace}(hlen:cs.length=6)(h:DataW.trod enc Tryz.prog w base sp hd fuel 85 cs=some x):
  ∃p:Rp,p.Ok∧ ∀(j:Nat) (x:D) (u:Value),p.ds[j]? =some x→cs[j]? =some u→RepD w Z0 x u:=by
 have hc28:Tryz.prog.cellsOf 49=3:=by kernel_rfl
 have some_of: ∀{α:Type} {o:Option α} {l:List α} {i:Nat},o=l[i]? →i<l.length→ ∃y,o=some y:=fun {α o l i} h hi=>⟨l[i],by rw[h,Am hi]⟩
 obtain⟨xs,n,_,_,_,hx,hf⟩:=DataW.trod_struct Tryz.underlying85 h
 have hx2:xs.length=2:=hx
 obtain⟨c0,c1,c2,c3,c4,c5,rfl⟩: ∃c0 c1 c2 c3 c4 c5,cs=[c0,c1,c2,c3,c4,c5]:=by
  match cs,hlen with
  |[c0,c1,c2,c3,c4,c5],_=>exact⟨c0,c1,c2,c3,c4,c5,rfl⟩
 obtain⟨y0,g0⟩:=some_of (hf 0 _ rfl) (by omega)
 obtain⟨y1,g1⟩:=some_of (hf 1 _ rfl) (by omega)
 simp only[hc28,List.getElem_toArray,List.getElem_cons_zero,List.getElem_cons_succ,List.drop_zero,List.take_succ_cons,List.take_zero,List.drop_succ_cons]at g0 g1;obtain⟨b1,l1,m1,v1,v2,o1,o2,e1,r1,r2⟩:=UK g0;obtain⟨b2,l2,m2,v3,v4,o3,o4,e2,r3,r4⟩:=UK g1;cases e1;cases e2;refine⟨⟨b1,l1,m1,b2,l2,m2⟩,⟨o1,o2,o3,o4⟩,fun j x u hx hu=> ?_⟩
 match j,hx,hu with
 |0,hx,hu=>cases hx;cases hu;exact .bool _
 |1,hx,hu=>cases hx;cases hu;exact r1
 |2,hx,hu=>cases hx;cases hu;exact r2
 |3,hx,hu=>cases hx;cases hu;exact .bool _
 |4,hx,hu=>cases hx;cases hu;exact r3
 |5,hx,hu=>cases hx;cases hu;exact r4
theorem jiq{r:Reach}{b0:Nat}{v:Value}{d:DataW H}{p:List MemPlace}(hval:Value.okWide Tryz.prog w r b0 38 v)(h:DataW.Trod enc Tryz.prog w base sp hd 38 v d p):
  ∃l:List Rp,(∀f∈l,f.Ok)∧A.rep w Z0 (.c (Ew l)) v:=by
 obtain⟨fuel,h⟩:=h
 unfold Value.okWide at hval;rw[Tryz.underlying38]at hval;simp only at hval;unfold Cell.okWide at hval;rw[Tryz.underlying38]at hval;have hv:v.cells.toList=[v]:=by
  cases v with
  |agg cs=>simp[Cell.ok,Tryz.underlying38]at hval
  |_=>rfl
 rw[hv]at h
 have hc6:Tryz.prog.cellsOf 85=6:=by kernel_rfl
 rcases Go.Deep.open_slice Tryz.underlying38 h with⟨e,_⟩|⟨a,len,cap,m,n,DD,Pl,e,_,h1,h2,h3,_,h4⟩
 ·obtain rfl:v= .slice none 0 0:=by simpa using e
  exact⟨[],by simp,.snil⟩
 ·obtain rfl:v= .slice (some a) len cap:=by simpa using e
  have hm:len≤m:=by rw[h3];split<;>omega
  rw[hc6]at h4
  have each: ∀i,i<m→ ∃q:Rp×List Value,q.1.Ok∧q.2.length=6∧(∀k,k<6→w.cell? ((a.add (i*6)).add k)=q.2[k]?)∧ ∀(j:Nat) (x:D) (u:Value),q.1.ds[j]? =some x→q.2[j]? =some u→RepD w Z0 x u:=fun i hi=>by
   obtain⟨cs,c1,c2⟩:=h4 i hi
   obtain⟨_,c3,c4⟩:=World.cells?_some c1
   obtain⟨f,f1,f2⟩:=jbS c3 c2
   exact⟨(f,cs),f1,c3,c4,f2⟩
  haveI:Inhabited (Rp×List Value):=⟨(⟨false,[],[],false,[],[]⟩,[])⟩
  obtain⟨q,hq⟩:=Go.Deep.choose_lt each
  have hspot:0<len→a.spot=none:=fun h=>by
   obtain⟨_,q1,q2,_⟩:=hq 0 (by omega)
   have q2:=q2 0 (by omega)
   rw[Am (by omega)]at q2
   have:=q2
   unfold Addr.add at this;simp only[Nat.zero_mul,if_true]at this;unfold World.cell? at this;split at this
   ·split at this
    ·cases this
    ·rename_i hn
     simpa using hn
   ·cases this
  refine⟨(List.range len).map fun i=>(q i).1,fun f hf=> ?_,?_⟩
  ·obtain⟨i,hi,rfl⟩:=jzk.1 hf
   exact(hq i (by have:=List.mem_range.1 hi;omega)).1
  ·have hx: ∀(j:Nat) (x:Va.D),((((List.range len).map fun i=>(q i).1)).flatMap Rp.ds)[j]? =some x→j/6<len∧(q (j/6)).1.ds[j%6]? =some x:=fun j x hj=>by
    rw[jfH,Bi]at hj
    by_cases h:j/6<len
    ·rw[List.getElem?_range h]at hj
     exact⟨h,by simpa using hj⟩
    ·rw[By (by simpa using h)]at hj
     cases hj
   show RepD w Z0 (.slice _ _) _
   rw[show((List.range len).map fun i=>(q i).1).length=len by simp]
   have hat: ∀j,j/6<len→w.cell? ⟨a.block,a.off+j,none⟩=some ((q (j/6)).2.getD (j%6) .nilFunc):=fun j hj=>by
    obtain⟨_,q1,q2,_⟩:=hq (j/6) (by omega)
    have q2:=q2 (j%6) (by omega)
    rw[Ax,Am (by omega)]
    rw[Am (by omega),Go.Deep.add_add]at q2
    have hs:=hspot (by omega)
    have:a.add (j/6*6+j%6)=⟨a.block,a.off+j,none⟩:=by
     rw[show j/6*6+j%6=j by omega]
     unfold Addr.add;split
     ·rename_i h0
      subst h0;obtain⟨b,o,s⟩:=a;simp only at hs;subst hs;rfl
     ·rfl
    rw[←this]
    exact q2
   refine .slice len _ a cap (fun j=>(q (j/6)).2.getD (j%6) .nilFunc) (fun hne=> ?_) h1 h2 (fun j x hj=>hat j (hx j x hj).1) (fun j x hj h=>h) (fun j x hj=> ?_)
   ·obtain⟨x,hx2⟩:=List.exists_mem_of_ne_nil _ hne
    obtain⟨j,hj⟩:=List.getElem?_of_mem hx2
    have:=(hx j x hj).1
    exact hspot (by omega)
   ·obtain⟨hj1,hj2⟩:=hx j x hj
    obtain⟨_,q1,_,q3⟩:=hq (j/6) (by omega)
    refine q3 _ _ _ hj2 ?_;rw[Ax,Am (by omega)]
    rfl
end
end Go.Va
