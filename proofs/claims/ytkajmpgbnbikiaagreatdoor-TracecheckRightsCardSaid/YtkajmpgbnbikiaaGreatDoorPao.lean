/- a part of the proof -/
import Derived.Test.YtkajmpgbnbikiaaGreatDoorPan
import Derived.Test.YtkajmpgbnbikiaaGreatDoorRows
import Derived.ProofKit
import Derived.OpenShut
import Derived.Carry
import Derived.ChangeSlices
set_option linter.all false
set_option maxHeartbeats 4000000
set_option maxRecDepth 100000
namespace Go.Va
open Int (natCast_add natCast_mul natCast_emod natCast_ediv natCast_pow)
open Go.Proofs
structure Fct where
 kind:Int
 args:List Int
 neg:Bool
 abs:List Nat
 den:List Nat
 deriving DecidableEq
@[simp]def Fct.ds(f:Fct):List D:=[.int .i64 f.kind,intsD f.args,.bool f.neg,Ag f.abs,Ag f.den]
def arity(k:Int):Nat:=if k=1∨k=5 then 3 else if k=2∨k=3∨k=4∨k=6∨k=9 then 4 else if k=7 then 8 else if k=8 then 2 else 0
theorem Lw(k:Int):CallsF Tryz.prog 48 [.c (.int .i64 k)] (.u (.c (.d (.int .i64 (arity k))))):=by
 refine Aj (T:=tb) Ai mixed Tryz.func48 rfl (by decide) (Ah rfl) rfl ?_;unfold St.init
 by_cases h1:k=1
 ·subst h1;simp -implicitDefEqProofs[jJ,-natCast_add,-natCast_mul,arity]
 by_cases h2:k=2
 ·subst h2;simp -implicitDefEqProofs[jJ,-natCast_add,-natCast_mul,arity]
 by_cases h3:k=3
 ·subst h3;simp -implicitDefEqProofs[jJ,-natCast_add,-natCast_mul,arity]
 by_cases h4:k=4
 ·subst h4;simp -implicitDefEqProofs[jJ,-natCast_add,-natCast_mul,arity]
 by_cases h5:k=5
 ·subst h5;simp -implicitDefEqProofs[jJ,-natCast_add,-natCast_mul,arity]
 by_cases h6:k=6
 ·subst h6;simp -implicitDefEqProofs[jJ,-natCast_add,-natCast_mul,arity]
 by_cases h7:k=7
 ·subst h7;simp -implicitDefEqProofs[jJ,-natCast_add,-natCast_mul,arity]
 by_cases h8:k=8
 ·subst h8;simp -implicitDefEqProofs[jJ,-natCast_add,-natCast_mul,arity]
 by_cases h9:k=9
 ·subst h9;simp -implicitDefEqProofs[jJ,-natCast_add,-natCast_mul,arity]
 simp -implicitDefEqProofs[jJ,-natCast_add,-natCast_mul,arity,h1,h2,h3,h4,h5,h6,h7,h8,h9]
theorem Wh(k:Int):CallsF Tryz.prog 98 [.c (.int .i64 k)] (.u (.c (.d (.int .i64 (arity k))))):=by
 refine Aj (T:=tb) Ai mixed Tryz.func98 rfl (by decide) (Ah rfl) rfl ?_;unfold St.init
 by_cases h1:k=1
 ·subst h1;simp -implicitDefEqProofs[jJ,-natCast_add,-natCast_mul,arity]
 by_cases h2:k=2
 ·subst h2;simp -implicitDefEqProofs[jJ,-natCast_add,-natCast_mul,arity]
 by_cases h3:k=3
 ·subst h3;simp -implicitDefEqProofs[jJ,-natCast_add,-natCast_mul,arity]
 by_cases h4:k=4
 ·subst h4;simp -implicitDefEqProofs[jJ,-natCast_add,-natCast_mul,arity]
 by_cases h5:k=5
 ·subst h5;simp -implicitDefEqProofs[jJ,-natCast_add,-natCast_mul,arity]
 by_cases h6:k=6
 ·subst h6;simp -implicitDefEqProofs[jJ,-natCast_add,-natCast_mul,arity]
 by_cases h7:k=7
 ·subst h7;simp -implicitDefEqProofs[jJ,-natCast_add,-natCast_mul,arity]
 by_cases h8:k=8
 ·subst h8;simp -implicitDefEqProofs[jJ,-natCast_add,-natCast_mul,arity]
 by_cases h9:k=9
 ·subst h9;simp -implicitDefEqProofs[jJ,-natCast_add,-natCast_mul,arity]
 simp -implicitDefEqProofs[jJ,-natCast_add,-natCast_mul,arity,h1,h2,h3,h4,h5,h6,h7,h8,h9]
def DM(neg:Bool)(a b:List Nat):Bool:= !neg&&decide (a=[])&&decide (b=[])
theorem jnA(neg:Bool)(a b:List Nat):CallsF Tryz.prog 100 [.agg [.bool neg,Ag a,Ag b]] (.u (.c (.d (.bool (DM neg a b))))):=by
 refine Aj (T:=tb) Ai mixed Tryz.func100 rfl (by decide) (Ah rfl) rfl ?_;unfold St.init
 cases neg<;>cases a<;>cases b<;>simp -implicitDefEqProofs[jJ,-natCast_add,-natCast_mul,DM]
theorem YK(neg:Bool)(a b:List Nat):CallsF Tryz.prog 50 [.agg [.bool neg,Ag a,Ag b]] (.u (.c (.d (.bool (DM neg a b))))):=by
 refine Aj (T:=tb) Ai mixed Tryz.func50 rfl (by decide) (Ah rfl) rfl ?_;unfold St.init
 cases neg<;>cases a<;>cases b<;>simp -implicitDefEqProofs[jJ,-natCast_add,-natCast_mul,DM]
def wrong(f:Fct)(n:Int):Int:=
 if arity f.kind=0 then 8 else if f.args.length≠arity f.kind then 1 else if f.args.any (fun a=>decide (a<0)||decide (n≤a)) then 2
 else if (if f.kind=9 then BW f.neg f.abs f.den else DM f.neg f.abs f.den) then 0 else 1
structure Fct.Mild (f:Fct):Prop where
 la:f.abs.length≤4
 ld:f.den.length≤4
 oa:Ok f.abs
 od:Ok f.den
 ln:f.args.length≤1099511627776
theorem Tk{l:List Int}{p:Int→Bool}{i:Nat}(h:i<l.length):(l.drop i).any p=(p l[i]||(l.drop (i+1)).any p):=by
 rw[Be h,List.any_cons]
theorem Ot(f:Fct)(hf:f.Mild)(n:Int):CallsF Tryz.prog 44 [.agg f.ds,.c (.int .i64 n)] (.u (.c (.d (.int .i64 (wrong f n))))):=by
 refine Aj (T:=tb) Ai mixed Tryz.func44 rfl (by decide) (Ah rfl) rfl ?_;unfold St.init
 obtain⟨kind,args,neg,abs,den⟩:=f
 obtain⟨la,ld,oa,od,ln⟩:=hf
 simp only at la ld oa od ln;simp only[Fct.ds,wrong];simp -implicitDefEqProofs[jJ,-natCast_add,-natCast_mul]
 (first|refine Ab (Wh kind) ?_|refine Aa (Wh kind) ?_)
 generalize arity kind=ar at*;by_cases h1:ar=0
 ·simp -implicitDefEqProofs[jJ,-natCast_add,-natCast_mul,h1]
 by_cases h2:args.length=ar
 ·simp -implicitDefEqProofs[jJ,-natCast_add,-natCast_mul,h1,h2];refine AA (fun i:Nat=>⟨[(21,vI .i64 i),(20,vI .i64 (ar:Nat)),(19,vC (.d (intsD args))),(2,vC (.ptr 2 0)),(1,vI .i64 n)],[(2,.box [.d (.int .i64 kind),.d (intsD args),.d (.bool neg),.d (Ag abs),.d (Ag den)])]⟩) (fun i=>i≤args.length∧(args.drop i).any (fun a=>decide (a<0)||decide (n≤a))=args.any (fun a=>decide (a<0)||decide (n≤a))) (fun i=>args.length - i) 0 (by simp) ⟨by omega,rfl⟩ ?_
  rintro i ⟨h3,h4⟩
  by_cases h:i<args.length
  ·have e:=Tk (p:=fun a=>decide (a<0)||decide (n≤a)) h
   have hk:i<ar:=by omega
   rw[e]at h4
   by_cases h5:args[i]<0
   ·simp -implicitDefEqProofs[jJ,-natCast_add,-natCast_mul,h,hk,h5,i64];intro hh;have:=hh _ (AK h);omega
   ·by_cases h6:n≤args[i]
    ·simp -implicitDefEqProofs[jJ,-natCast_add,-natCast_mul,h,hk,h5,h6,i64];intro hh;have:=hh _ (AK h);omega
    ·simp -implicitDefEqProofs[jJ,-natCast_add,-natCast_mul,h,hk,h5,h6,i64];simp only[decide_eq_false h5,decide_eq_false h6,Bool.false_or]at h4;exact⟨by omega,⟨by omega,h4⟩,by omega⟩
  ·have hk: ¬i<ar:=by omega
   have e:i=args.length:=by omega
   rw[e,List.drop_length]at h4
   have h4': ∀x∈args,0≤x∧x<n:=by simpa using h4.symm
   rw[←h4]
   have k1:=jbc neg abs den oa (by omega) od (by omega)
   have k2:=jnA neg abs den;by_cases h9:kind=9
   ·simp -implicitDefEqProofs[jJ,-natCast_add,-natCast_mul,hk,h9]
    (first|refine Ab k1 ?_|refine Aa k1 ?_)
    cases BW neg abs den<;>simp -implicitDefEqProofs[jJ,-natCast_add,-natCast_mul]<;>exact h4'
   ·simp -implicitDefEqProofs[jJ,-natCast_add,-natCast_mul,hk,h9]
    (first|refine Ab k2 ?_|refine Aa k2 ?_)
    cases DM neg abs den<;>simp -implicitDefEqProofs[jJ,-natCast_add,-natCast_mul]<;>exact h4'
 ·simp -implicitDefEqProofs[jJ,-natCast_add,-natCast_mul,h1,h2]
theorem jg8(f:Fct)(hf:f.Mild)(n:Int):CallsF Tryz.prog 21 [.agg f.ds,.c (.int .i64 n)] (.u (.c (.d (.int .i64 (wrong f n))))):=by
 refine Aj (T:=tb) Ai mixed Tryz.func21 rfl (by decide) (Ah rfl) rfl ?_;unfold St.init
 obtain⟨kind,args,neg,abs,den⟩:=f
 obtain⟨la,ld,oa,od,ln⟩:=hf
 simp only at la ld oa od ln;simp only[Fct.ds,wrong];simp -implicitDefEqProofs[jJ,-natCast_add,-natCast_mul]
 (first|refine Ab (Lw kind) ?_|refine Aa (Lw kind) ?_)
 have ka:=Lw kind;generalize arity kind=ar at*;by_cases h1:ar=0
 ·simp -implicitDefEqProofs[jJ,-natCast_add,-natCast_mul,h1]
 simp -implicitDefEqProofs[jJ,-natCast_add,-natCast_mul,h1];refine Ar (Ac [0,1,3,0,8,24,63]) [.any [] [] (Ak [[2],[11],[12],[2],[14],[15]]),.one] (by rfl) ?_
 simp -implicitDefEqProofs[jJ,-natCast_add,-natCast_mul]
 (first|refine Ab ka ?_|refine Aa ka ?_)
 by_cases h2:args.length=ar
 ·simp -implicitDefEqProofs[jJ,-natCast_add,-natCast_mul,h1,h2];refine AA (fun i:Nat=>⟨[(21,vI .i64 i),(20,vI .i64 (ar:Nat)),(19,vC (.d (intsD args))),(2,vC (.ptr 2 0)),(1,vI .i64 n)],[(2,.box [.d (.int .i64 kind),.d (intsD args),.d (.bool neg),.d (Ag abs),.d (Ag den)])]⟩) (fun i=>i≤args.length∧(args.drop i).any (fun a=>decide (a<0)||decide (n≤a))=args.any (fun a=>decide (a<0)||decide (n≤a))) (fun i=>args.length - i) 0 (by simp) ⟨by omega,rfl⟩ ?_
  rintro i ⟨h3,h4⟩
  by_cases h:i<args.length
  ·have e:=Tk (p:=fun a=>decide (a<0)||decide (n≤a)) h
   have hk:i<ar:=by omega
   rw[e]at h4
   by_cases h5:args[i]<0
   ·simp -implicitDefEqProofs[jJ,-natCast_add,-natCast_mul,h,hk,h5,i64];intro hh;have:=hh _ (AK h);omega
   ·by_cases h6:n≤args[i]
    ·simp -implicitDefEqProofs[jJ,-natCast_add,-natCast_mul,h,hk,h5,h6,i64];intro hh;have:=hh _ (AK h);omega
    ·simp -implicitDefEqProofs[jJ,-natCast_add,-natCast_mul,h,hk,h5,h6,i64];simp only[decide_eq_false h5,decide_eq_false h6,Bool.false_or]at h4;exact⟨by omega,⟨by omega,h4⟩,by omega⟩
  ·have hk: ¬i<ar:=by omega
   have e:i=args.length:=by omega
   rw[e,List.drop_length]at h4
   have h4': ∀x∈args,0≤x∧x<n:=by simpa using h4.symm
   rw[←h4]
   have k1:=Yp neg abs den oa (by omega) od (by omega)
   have k2:=YK neg abs den;by_cases h9:kind=9
   ·simp -implicitDefEqProofs[jJ,-natCast_add,-natCast_mul,hk,h9]
    (first|refine Ab k1 ?_|refine Aa k1 ?_)
    cases BW neg abs den<;>simp -implicitDefEqProofs[jJ,-natCast_add,-natCast_mul]<;>exact h4'
   ·simp -implicitDefEqProofs[jJ,-natCast_add,-natCast_mul,hk,h9]
    (first|refine Ab k2 ?_|refine Aa k2 ?_)
    cases DM neg abs den<;>simp -implicitDefEqProofs[jJ,-natCast_add,-natCast_mul]<;>exact h4'
 ·simp -implicitDefEqProofs[jJ,-natCast_add,-natCast_mul,h1,h2]
end Go.Va
namespace Go.Va
open Go.Proofs Go.ChangeShapes Go.WideShapes Go.ChangeAt Go.RowKit
section
variable {H:Type} {enc:TypeId×Value→H} {w:World} {base:Nat} {sp:Nat→Bool} {hd:Bool}
abbrev Z0:Addr→Prop:=fun _=>False
theorem TJ{e:D→Prop}{a:Addr}{len cap:Nat}{zs:List Int}{k:IntKind}(hl:len≤cap)(hm:cap≤maxLen)(hz:len≤zs.length)(hc: ∀i,i<zs.length→w.cell? (a.add i)=some (.int k (zs.getD i 0))):
  RepD w Z0 (.slice len ((zs.take len).map (D.int k))) (.slice (some a) len cap):=by
 have key: ∀(j:Nat) (x:D),((zs.take len).map (D.int k))[j]? =some x→j<len∧x= .int k (zs.getD j 0):=fun j x hj=>by
  rw[AX,List.getElem?_take]at hj
  by_cases h:j<len
  ·rw[if_pos h,An (by omega)]at hj
   refine⟨h,?_⟩
   rw[AW,An (by omega)]
   exact(AE hj).symm
  ·rw[if_neg h]at hj
   cases hj
 have hspot:0<len→a.spot=none:=fun h=>by
  have:=hc 0 (by omega)
  unfold Addr.add at this;rw[if_pos rfl]at this;unfold World.cell? at this;split at this
  ·split at this
   ·cases this
   ·rename_i hn
    simpa using hn
  ·cases this
 refine .slice len _ a cap (fun j=> .int k (zs.getD j 0)) (fun hne=> ?_) hl hm (fun j x hj=> ?_) (fun j x hj h=>h) (fun j x hj=> ?_)
 ·obtain⟨x,hx⟩:=List.exists_mem_of_ne_nil _ hne
  obtain⟨j,hj⟩:=List.getElem?_of_mem hx
  have:=(key j x hj).1
  exact hspot (by omega)
 ·have hk:=key j x hj;have h1:=hc j (by omega)
  have h2:=hspot (by omega)
  have:a.add j=⟨a.block,a.off+j,none⟩:=by
   unfold Addr.add;split
   ·rename_i h0
    subst h0;obtain⟨b,o,s⟩:=a;simp only at h2;subst h2;rfl
   ·rfl
  rw[←this]
  exact h1
 ·rw[(key j x hj).2]
  exact .int _ _
theorem KU{fuel:Nat}{cs:List Value}{x:DataW H×List MemPlace}(h:DataW.trod enc Tryz.prog w base sp hd fuel 43 cs=some x): ∃(l:List Int) (v:Value),cs=[v]∧RepD w Z0 (intsD l) v:=by
 rcases open_ints (k:= .i64) Tryz.underlying43 Tryz.underlying3 (by kernel_rfl) h with⟨rfl,_⟩|⟨a,len,cap,zs,rfl,_,h1,h2,h3,_,h4,_⟩
 ·exact⟨[],_,rfl,.snil⟩
 ·have hz:len≤zs.length:=by rw[h3];split<;>omega
  refine⟨zs.take len,_,rfl,?_⟩
  have:=TJ (e:=fun _=>True) h1 h2 hz h4
  have e:(intsD (zs.take len))= .slice len ((zs.take len).map (D.int .i64)):=by
   show D.slice _ _=_
   rw[Cj,BL hz]
   rfl
  rw[e]
  exact this
theorem OZ{fuel:Nat}{cs:List Value}{x:DataW H×List MemPlace}(h:DataW.trod enc Tryz.prog w base sp hd fuel 45 cs=some x): ∃(l:List Nat) (v:Value),Ok l∧cs=[v]∧RepD w Z0 (Ag l) v:=by
 rcases open_ints (k:= .u16) Tryz.underlying45 (by kernel_rfl:Tryz.prog.underlying _=_) (by kernel_rfl) h with⟨rfl,_⟩|⟨a,len,cap,zs,rfl,_,h1,h2,h3,_,h4,h5⟩
 ·exact⟨[],_,Ok.nil,rfl,.snil⟩
 ·have hz:len≤zs.length:=by rw[h3];split<;>omega
  have hb: ∀n∈zs,0≤n∧n<65536:=fun n hn=>by
   have:=h5 n hn
   simp[Lit.wf,IntKind.min,IntKind.max,IntKind.signed,IntKind.bits]at this
   omega
  refine⟨(zs.take len).map Int.toNat,_,fun y hy=> ?_,rfl,?_⟩
  ·obtain⟨n,hn,rfl⟩:=jzk.1 hy
   have:=hb n (List.mem_of_mem_take hn)
   omega
  ·have:=TJ (e:=fun _=>True) h1 h2 hz h4
   have e:Ag ((zs.take len).map Int.toNat)= .slice len ((zs.take len).map (D.int .u16)):=by
    show D.slice _ _=_
    rw[List.length_map,Cj,BL hz,List.map_map]
    congr 1
    refine List.map_congr_left fun n hn=> ?_
    have:=hb n (List.mem_of_mem_take hn)
    show D.int .u16 ((n.toNat:Nat):Int)=_
    rw[Int.toNat_of_nonneg this.1]
   rw[e]
   exact this
structure InFact (f:Fct):Prop where
 oa:Ok f.abs
 od:Ok f.den
theorem jmB{r:Reach}{b0:Nat}{v:Value}{d:DataW H}{p:List MemPlace}(hval:Value.okWide Tryz.prog w r b0 3 v)(h:DataW.Trod enc Tryz.prog w base sp hd 3 v d p): ∃k:Int,A.rep w Z0 (.c (.int .i64 k)) v:=by
 obtain⟨fuel,h⟩:=h
 obtain⟨k,e0,_⟩:=DataW.trod_int Tryz.underlying3 h
 refine⟨k,?_⟩
 unfold Value.okWide at hval;rw[Tryz.underlying3]at hval;simp only at hval;unfold Cell.okWide at hval;rw[Tryz.underlying3]at hval;have:v= .int .i64 k:=by
  cases v with
  |agg cs=>simp[Cell.ok,Tryz.underlying3]at hval
  |_=>first|(simp[Value.cells]at e0;done)|simpa [Value.cells]using e0
 rw[this]
 exact .int _ _
theorem Sb{P:Program}(hl:laidOutB P=true){W W':World}(hb:Below W.heap.size W W'): ∀{ts:List TypeId} {vs:List Value} {ds:List (DataW H)} {ps:List MemPlace},
  (∀t∈ts,P.readableRec t=true∧t<P.types.size)→DataW.TrodAll enc P W 0 (fun _=>true) true ts vs ds ps→(∀x∈ps,x.block<W.heap.size)→DataW.TrodAll enc P W' 0 (fun b=>decide (b<W.heap.size)) true ts vs ds ps
 |[],vs,ds,ps,_,h,_=>by
  obtain⟨rfl,rfl,rfl⟩:=trodAll_nil h
  rfl
 |t::ts,vs,ds,ps,ht,h,hlt=>by
  obtain⟨v,vs',d,ds',p,q,rfl,rfl,rfl,h1,h2⟩:=trodAll_cons h
  have:=ht t (by simp)
  exact trodAll_cons_mk (Below.trod hl this.1 this.2 h1 hb (fun x hx=>hlt x (by simp[hx]))) (Sb hl hb (fun t' h'=>ht t' (by simp[h'])) h2 (fun x hx=>hlt x (by simp[hx])))
end
theorem jkO:laidOutB Tryz.prog=true:=by kernel_rfl
theorem Yn:ownKnob Tryz.prog.godebug=none:=by kernel_rfl
theorem jnu{f:FuncId}{xs:List A}(hc:CallsF Tryz.prog f xs (.u (.c (.d (.bool true))))){W:World}{vals:List Value}(hv:RepL (A.rep W Z0) xs vals):
  Calls Tryz.prog f vals.toArray W fun e W'=>e= .returned (.bool true)∧Below W.heap.size W W':=
 (hc.2 W Z0 vals (fun _ h=>h.elim) hv).mono fun e W' ⟨v,h1,h2,h3⟩=>by
  obtain⟨_,o,_,h4⟩:=h3
  have h5:RepD W' (Af (Bd 0 [] o) Z0) (.bool true) v:=(h4 0).1;cases h5;exact⟨h1,h2.toBelow⟩
end Go.Va
namespace Go.Va
open Go.Proofs
def RC.dat:RC→RC
 | .d x=> .d x
 | .own sz n cs=> .d (.slice n (cs.take (n*sz)))
def RU.dat:RU→RU
 | .c x=> .c x.dat
 | .agg cs=> .agg (cs.map RC.dat)
def R.dat:R→R
 | .u x=> .u x.dat
 | .tup xs=> .tup (xs.map RU.dat)
theorem RC.dat_rows(x:RC):x.dat.rows=[]:=by cases x<;>rfl
theorem RU.dat_rows(x:RU):x.dat.rows=[]:=by
 cases x with
 |c x=>exact RC.dat_rows x
 |agg cs=>exact List.flatMap_eq_nil_iff.2 fun y hy=>by obtain⟨z,_,rfl⟩:=jzk.1 hy;exact RC.dat_rows z
theorem R.dat_rows(x:R):x.dat.rows=[]:=by
 cases x with
 |u x=>exact RU.dat_rows x
 |tup cs=>exact List.flatMap_eq_nil_iff.2 fun y hy=>by obtain⟨z,_,rfl⟩:=jzk.1 hy;exact RU.dat_rows z
section
variable {w w':World} {Z:Addr→Prop} {k:Nat} {o:Own} {bs:List Blk}
theorem RC.dat_rep(hZ: ∀ad,Z ad→ad.block<w.heap.size)(ho: ∀ad,o.has ad→w.heap.size≤ad.block)
  (hh:Heap (Bd k bs o) w' Z (match bs with|[]=>[]|b::_=>[(k,b)])) (hb:bs.length≤1) {x:RC} {v:Value} (hx: ∀b∈x.rows,b∈bs)
  (h:RepC (Bd k bs o) w' Z (x.imp k) v) (ρ:Am) (hρ: ∀i,ρ i=none):RepC ρ w' Z (x.dat.imp k) v:=by
 have hk:Keep w' w' (Af (Bd k bs o) Z) (Af ρ Z):=Keep.mono fun a ha=>by
  rcases ha with ha|⟨i,o',hi,_⟩
  ·exact .inl ha
  ·rw[hρ]at hi;cases hi
 cases x with
 |d x=>exact RepD.keep hk h
 |own sz n cs=>
  have hm:(Blk.row sz cs true)∈bs:=hx _ (by simp[RC.rows])
  obtain⟨b,rfl⟩: ∃b,bs=[b]:=by
   match bs,hb,hm with
   |[b],_,_=>exact⟨b,rfl⟩
  have hbe:Blk.row sz cs true=b:=by simpa using hm
  subst hbe;obtain⟨o1,h1,h2⟩:=hh.rep k _ (AI k _ _);have e1:o1=o:=by
   unfold Bd at h1;simp only[if_true]at h1;exact(AE h1).symm
  subst e1;obtain⟨hs,happ,hl,⟨hn1,hn2⟩,hc⟩:=h2;obtain⟨o2,h3,h4,h5⟩:=h;have e2:o2=o1:=by
   unfold Bd at h3;simp only[if_true]at h3;exact(AE h3).symm
  subst e2
  show RepD w' (Af ρ Z) (.slice n (cs.take (n*sz))) v
  rcases h5 with⟨h6,rfl,_,rfl⟩|⟨h6,a,c,rfl,h7,h8,h9,h10⟩
  ·have:(cs.take (0*sz))=[]:=by simp
   rw[this]
   exact .snil
  ·have key: ∀(j:Nat) (x:D),(cs.take (n*sz))[j]? =some x→cs[j]? =some x∧a=o2.at 0:=by
    intro j x hj;rw[List.getElem?_take]at hj;split at hj
    ·rename_i hlt
     refine⟨hj,?_⟩
     rcases h9 with h9|h9
     ·have:n=0:=by omega
      subst this;simp at hlt
     ·simpa using h9
    ·cases hj
   refine .slice n _ a c (fun j=>(w'.cell? ⟨a.block,a.off+j,none⟩).getD undef) ?_ h7 h8 ?_ ?_ ?_
   ·intro hne;obtain⟨x,hx⟩:=List.exists_mem_of_ne_nil _ hne;obtain⟨j,hj⟩:=List.getElem?_of_mem hx;rw[(key j x hj).2]
   all_goals
    intro j x hj;obtain⟨k1,k2⟩:=key j x hj;obtain⟨u,hu,hr⟩:=hc j x k1;subst k2;have he:(⟨(o2.at 0).block,(o2.at 0).off+j,none⟩:Addr)=o2.at j:=by simp[Own.at]
   ·rw[he,hu];rfl
   ·rw[he]
    have hin:o2.has (o2.at j):=by
     refine⟨by rw[hn2];exact h6,rfl,by simp[Own.at],?_⟩
     have:=(jzg.1 k1).1
     simp only[Own.at];rw[hs];omega
    rintro (hz|⟨i,o',hi,_⟩)
    ·have:=hZ _ hz;have:=ho _ hin;omega
    ·rw[hρ]at hi;cases hi
   ·rw[he,hu];exact RepD.keep hk hr
theorem RU.dat_rep(hZ: ∀ad,Z ad→ad.block<w.heap.size)(ho: ∀ad,o.has ad→w.heap.size≤ad.block)
  (hh:Heap (Bd k bs o) w' Z (match bs with|[]=>[]|b::_=>[(k,b)])) (hb:bs.length≤1) {x:RU} {v:Value} (hx: ∀b∈x.rows,b∈bs)
  (h:RepU (Bd k bs o) w' Z (x.imp k) v) (ρ:Am) (hρ: ∀i,ρ i=none):RepU ρ w' Z (x.dat.imp k) v:=by
 cases x with
 |c x=>exact RC.dat_rep hZ ho hh hb hx h ρ hρ
 |agg cs=>
  obtain⟨vs,h1,h2,h3⟩:=h
  refine⟨vs,h1,by simpa using h2,fun j y u hy hu=> ?_⟩
  simp only[AX,jze]at hy;obtain⟨z,⟨z',hz',rfl⟩,rfl⟩:=hy;exact RC.dat_rep hZ ho hh hb (fun b hbm=>hx b (List.mem_flatMap.2 ⟨z',Bm hz',hbm⟩)) (h3 j _ u (by simp[hz']) hu) ρ hρ
theorem R.dat_rep(hZ: ∀ad,Z ad→ad.block<w.heap.size){r:R}{v:Value}(h:Hw w w' Z r v):Hw w w' Z r.dat v:=by
 obtain⟨hb,o,ho,hr⟩:=h
 refine⟨by rw[R.dat_rows];simp,o,ho,fun k=> ?_⟩
 obtain⟨h1,hh⟩:=hr k
 rw[R.dat_rows]
 have hρ: ∀i,Bd k [] o i=none:=fun i=>rfl
 refine⟨?_,⟨⟨fun j o hj=>by(rw[hρ]at hj;cases hj),fun j j' o o' hj=>by(rw[hρ]at hj;cases hj),fun j o hj=>by(rw[hρ]at hj;cases hj)⟩,fun i b hb=>by cases hb⟩⟩
 cases r with
 |u x=>exact RU.dat_rep hZ ho hh hb (fun b h=>h) h1 _ hρ
 |tup cs=>
  obtain⟨vs,e1,h2,h3⟩:=h1
  refine⟨vs,e1,by simpa [R.dat,R.imp]using h2,fun j y u hy hu=> ?_⟩
  simp only[AX,jze]at hy;obtain⟨z,⟨z',hz',rfl⟩,rfl⟩:=hy;exact RU.dat_rep hZ ho hh hb (fun b hbm=>List.mem_flatMap.2 ⟨z',Bm hz',hbm⟩) (h3 j _ u (by simp[hz']) hu) _ hρ
theorem CallsF.dat{P:Program}{f:FuncId}{xs:List A}{r:R}(h:CallsF P f xs r):CallsF P f xs r.dat:=
 ⟨h.1,fun w Z vals hZ hv=>(h.2 w Z vals hZ hv).mono fun e w' ⟨v,h1,h2,h3⟩=>⟨v,h1,h2,R.dat_rep hZ h3⟩⟩
end
end Go.Va
namespace Go.Va
open Int (natCast_add natCast_mul natCast_emod natCast_ediv natCast_pow)
open Go.Proofs
section
variable {α:Type} {k:Nat} {e:α→List D} (he: ∀x,(e x).length=k)
include he
theorem Dz(l:List α):(l.flatMap e).length=l.length*k:=by
 induction l with
 |nil=>simp
 |cons a l ih=>rw[List.flatMap_cons,List.length_append,he,ih,List.length_cons,Nat.add_mul,Nat.one_mul,Nat.add_comm]
theorem Ez(l:List α)(i:Nat):(l.flatMap e).drop (i*k)=(l.drop i).flatMap e:=by
 induction l generalizing i with
 |nil=>simp
 |cons a l ih=>
  cases i with
  |zero=>simp
  |succ i=>
   rw[List.flatMap_cons,List.drop_succ_cons,List.drop_append,DL (by rw[he,Nat.add_mul];omega),he,List.nil_append,Nat.add_mul,Nat.one_mul,Nat.add_sub_cancel,ih]
theorem VZ(l:List α)(i:Nat):(l.flatMap e).take (i*k)=(l.take i).flatMap e:=by
 induction l generalizing i with
 |nil=>simp
 |cons a l ih=>
  cases i with
  |zero=>simp
  |succ i=>
   rw[List.flatMap_cons,List.take_succ_cons,List.flatMap_cons,List.take_append,Bv (by rw[he,Nat.add_mul];omega),he,Nat.add_mul,Nat.one_mul,Nat.add_sub_cancel,ih]
theorem E2(l:List α)(i:Nat)(h:i<l.length):((l.flatMap e).drop (i*k)).take k=e l[i]:=by
 rw[Ez he,Be h,List.flatMap_cons,List.take_append,Bv (by rw[he];omega),he,Nat.sub_self]
 simp
end
def Bc(s:Int×Int):List D:=[i64 s.1,i64 s.2]
theorem VH(s:Int×Int):(Bc s).length=2:=rfl
theorem Fct.ds_len(f:Fct):f.ds.length=5:=rfl
@[simp high]theorem jkX(l:List (Int×Int)):(l.flatMap Bc).length=l.length*2:=Dz VH l
@[simp high]theorem Wp(l:List Fct):(l.flatMap Fct.ds).length=l.length*5:=Dz Fct.ds_len l
def CC(l:List (Int×Int)):D:= .slice l.length (l.flatMap Bc)
def BJ(l:List Fct):D:= .slice l.length (l.flatMap Fct.ds)
@[simp]theorem jpH(l:List (Int×Int)):lenC (.d (CC l))=some l.length:=rfl
@[simp]theorem jpZ(l:List Fct):lenC (.d (BJ l))=some l.length:=rfl
@[simp]theorem jpU(h:List (Nat×Blk))(i:Int)(l:List (Int×Int)):idxSl h 2 i (.d (CC l))=if 0≤i∧i<l.length then some (.d (.ref ((l.drop i.toNat).flatMap Bc))) else none:=by
 unfold CC idxSl;simp only[jkX,and_true,Ez VH]
@[simp]theorem jpP(h:List (Nat×Blk))(i:Int)(l:List Fct):idxSl h 5 i (.d (BJ l))=if 0≤i∧i<l.length then some (.d (.ref ((l.drop i.toNat).flatMap Fct.ds))) else none:=by
 unfold BJ idxSl;simp only[Wp,and_true,Ez Fct.ds_len]
@[simp]theorem jpK(l:List (Int×Int)):D.flat (CC l)=false:=rfl
@[simp]theorem jpQ(l:List Fct):D.flat (BJ l)=false:=rfl
theorem jlR{l:List (Int×Int)}{i:Nat}(h:i<l.length):(l.drop i).flatMap Bc= .int .i64 l[i].1:: .int .i64 l[i].2::(l.drop (i+1)).flatMap Bc:=by
 rw[Be h];rfl
theorem Vo{l:List Fct}{i:Nat}(h:i<l.length):(l.drop i).flatMap Fct.ds= .int .i64 l[i].kind::intsD l[i].args:: .bool l[i].neg::Ag l[i].abs::Ag l[i].den::(l.drop (i+1)).flatMap Fct.ds:=by
 rw[Be h];rfl
def lo(a b:Int):Int:=if b<a then b else a
def hi(a b:Int):Int:=if a<b then b else a
def Al(a b:Int):Int×Int:=(lo a b,hi a b)
theorem KD(a b:Int):CallsF Tryz.prog 126 [.c (.int .i64 a),.c (.int .i64 b)] (.u (.agg [.d (.int .i64 (lo a b)),.d (.int .i64 (hi a b))])):=by
 refine Aj (T:=tb) Ai mixed Tryz.func126 rfl (by decide) (Ah rfl) rfl ?_;unfold St.init
 simp -implicitDefEqProofs[jJ,-natCast_add,-natCast_mul,-natCast_emod,-natCast_ediv,-natCast_pow,lo,hi]
def A5:List Int→List (Int×Int)
 |a::b::l=>Al a b::A5 l
 |_=>[]
theorem Hy: ∀l:List Int,(A5 l).length=l.length/2
 |[]=>rfl
 |[a]=>by simp[A5]
 |a::b::l=>by
  simp only[A5,List.length_cons,Hy l];omega
theorem Q9: ∀(l:List Int) (m:Nat) (h:2*m+1<l.length),(A5 l)[m]'(by rw[Hy];omega)=Al (l[2*m]'(by omega)) l[2*m+1]
 |a::b::l,0,_=>rfl
 |a::b::l,m+1,h=>by
  have:=Q9 l m (by simp at h;omega)
  simp only[A5,List.getElem_cons_succ,this];rfl
theorem Rw{l:List Int}{m:Nat}(h:2*m+1<l.length):((A5 l).take (m+1)).flatMap Bc=((A5 l).take m).flatMap Bc++[.int .i64 (lo (l[2*m]'(by omega)) l[2*m+1]),.int .i64 (hi (l[2*m]'(by omega)) l[2*m+1])]:=by
 rw[BX (by rw[Hy];omega),List.flatMap_append,Q9 l m h]
 rfl
theorem Sk(f:Fct)(hl:f.args.length≤1099511627776):CallsF Tryz.prog 68 [.agg f.ds] (.u (.c (.own 2 (A5 f.args).length ((A5 f.args).flatMap Bc)))):=by
 refine Aj (T:=tb) Ai mixed Tryz.func68 rfl (by decide) (Ah rfl) rfl ?_;unfold St.init
 obtain⟨kind,args,neg,abs,den⟩:=f
 simp only at hl;simp -implicitDefEqProofs[jJ,-natCast_add,-natCast_mul,-natCast_emod,-natCast_ediv,-natCast_pow];refine CF [(3,27)] (fun x:Nat×Nat×List D=>⟨[(4,vI .i64 x.1),(3,vC (.sl 3 0 x.2.1)),(1,vC (.ptr 1 0))],[(3,.row 2 x.2.2 true),(1,.box [.d (.int .i64 kind),.d (intsD args),.d (.bool neg),.d (Ag abs),.d (Ag den)])]⟩) (fun x=>x.1=2*x.2.1∧x.2.1≤(A5 args).length∧x.2.2=((A5 args).take x.2.1).flatMap Bc) (fun x=>(A5 args).length - x.2.1) (0,0,[]) (by simp) (by simp) ?_
 rintro⟨i,m,cs⟩ ⟨hm2,hm,hc⟩
 simp only at hm2 hm hc;subst hc;have hlen:=Hy args;by_cases h:i+1<args.length
 ·have e:=Rw (l:=args) (m:=m) (by omega)
  have e1:args[2*m]'(by omega)=args[i]:=by simp only[hm2]
  have e2:args[2*m+1]'(by omega)=args[i+1]:=by simp only[hm2]
  rw[e1,e2]at e
  have hb:i≤9223372036854775806:=by omega
  have h0:i<args.length:=by omega
  simp -implicitDefEqProofs[jJ,-natCast_add,-natCast_mul,-natCast_emod,-natCast_ediv,-natCast_pow,h,hb];refine Ar (Ac [0,0,2,0,14,30,0,64,0,256,960,1984,4094,8190,16383,32767]) [.any [] [26] [⟨0,[3],[26],[26],[]⟩,⟨0,[1],[],[26],[]⟩,⟨0,[14],[],[26],[]⟩,⟨0,[4],[],[26],[]⟩,⟨0,[15,16],[],[26],[]⟩,⟨0,[17],[],[26],[]⟩,⟨0,[1],[],[26],[]⟩,⟨0,[19],[],[26],[]⟩,⟨0,[4],[],[26],[]⟩,⟨0,[21],[],[26],[]⟩,⟨0,[20,22],[],[26],[]⟩,⟨0,[23],[],[26],[]⟩,⟨0,[18,24],[],[26],[]⟩,⟨1,[25],[],[],[]⟩],.one,.one] (by rfl) ?_
  simp -implicitDefEqProofs[jJ,-natCast_add,-natCast_mul,-natCast_emod,-natCast_ediv,-natCast_pow,h,h0,hb,i64]
  (first|refine Ab (KD args[i] args[i+1]) ?_|refine Aa (KD args[i] args[i+1]) ?_)
  simp -implicitDefEqProofs[jJ,-natCast_add,-natCast_mul,-natCast_emod,-natCast_ediv,-natCast_pow];rw[BL hm];exact⟨rfl,⟨by omega,by omega⟩,by omega,i+2,m+1,_,⟨⟨rfl,rfl⟩,rfl⟩,⟨by omega,by omega,e.symm⟩,by omega⟩
 ·have hb:i≤9223372036854775806:=by omega
  have e:m=(A5 args).length:=by omega
  subst e;simp -implicitDefEqProofs[jJ,-natCast_add,-natCast_mul,-natCast_emod,-natCast_ediv,-natCast_pow,h,hb]
def EO(l:List (Int×Int)):List Int:=l.flatMap fun s=>[s.1,s.2]
theorem SA(l:List (Int×Int)):(EO l).length=l.length*2:=by
 induction l with
 |nil=>rfl
 |cons a l ih=>simp only[EO,List.flatMap_cons,List.length_append,List.length_cons,List.length_nil]at ih ⊢;omega
theorem EB(a b:Int):CallsF Tryz.prog 69 [.agg [.int .i64 a,.int .i64 b]] (.u (.c (.d (.bool (decide (a=b)))))):=by
 refine Aj (T:=tb) Ai mixed Tryz.func69 rfl (by decide) (Ah rfl) rfl ?_;unfold St.init
 simp -implicitDefEqProofs[jJ,-natCast_add,-natCast_mul,-natCast_emod,-natCast_ediv,-natCast_pow]
theorem WD(a b p:Int):CallsF Tryz.prog 284 [.agg [.int .i64 a,.int .i64 b],.c (.int .i64 p)] (.u (.c (.d (.bool (decide (a=p)||decide (b=p)))))):=by
 refine Aj (T:=tb) Ai mixed Tryz.func284 rfl (by decide) (Ah rfl) rfl ?_;unfold St.init
 by_cases h:a=p<;>simp -implicitDefEqProofs[jJ,-natCast_add,-natCast_mul,-natCast_emod,-natCast_ediv,-natCast_pow,h]
def Cw(a b p:Int):Int:=a+b - p
theorem T3(a b p:Int)(ha:0≤a∧a<64)(hb:0≤b∧b<64)(hp:0≤p∧p<64):CallsF Tryz.prog 285 [.agg [.int .i64 a,.int .i64 b],.c (.int .i64 p)] (.u (.c (.d (.int .i64 (Cw a b p))))):=by
 refine Aj (T:=tb) Ai mixed Tryz.func285 rfl (by decide) (Ah rfl) rfl ?_;unfold St.init
 simp -implicitDefEqProofs[jJ,-natCast_add,-natCast_mul,-natCast_emod,-natCast_ediv,-natCast_pow,Cw];omega
def Bx(p q:Int×Int):Int:=B6 [Ax p.1 q.1,Ax p.2 q.2]
theorem Gf(a b c d:Int):CallsF Tryz.prog 286 [.agg [.int .i64 a,.int .i64 b],.agg [.int .i64 c,.int .i64 d]] (.u (.c (.d (.int .i64 (Bx (a,b) (c,d)))))):=by
 refine Aj (T:=tb) Ai mixed Tryz.func286 rfl (by decide) (Ah rfl) rfl ?_;unfold St.init
 have k:CallsF Tryz.prog 127 [.c (.slice 2 [.int .i64 (Ax a c),.int .i64 (Ax b d)])] _:=Iz [Ax a c,Ax b d] (by simp)
 simp -implicitDefEqProofs[jJ,-natCast_add,-natCast_mul,-natCast_emod,-natCast_ediv,-natCast_pow];refine Ar (Ac [0,1,0,4,15,0,32,0,128,511,1023,2047,4095]) [.any [] [] (Ak [[2],[5],[3],[7],[6,8],[2],[10],[3],[12]]),.one,.one,.one,.one] (by rfl) ?_
 simp -implicitDefEqProofs[jJ,-natCast_add,-natCast_mul,-natCast_emod,-natCast_ediv,-natCast_pow]
 (first|refine Ab (Ey a c) ?_|refine Aa (Ey a c) ?_)
 simp -implicitDefEqProofs[jJ,-natCast_add,-natCast_mul,-natCast_emod,-natCast_ediv,-natCast_pow]
 (first|refine Ab (Ey b d) ?_|refine Aa (Ey b d) ?_)
 simp -implicitDefEqProofs[jJ,-natCast_add,-natCast_mul,-natCast_emod,-natCast_ediv,-natCast_pow]
 (first|refine Ab k ?_|refine Aa k ?_)
 simp -implicitDefEqProofs[jJ,-natCast_add,-natCast_mul,-natCast_emod,-natCast_ediv,-natCast_pow,Bx]
theorem S5(kind:Int)(neg:Bool)(abs den:List Nat)(l:List (Int×Int))(hl:l.length≤1099511627776):CallsF Tryz.prog 287 [.c (.int .i64 kind),.agg [.bool neg,Ag abs,Ag den],.c (CC l)]
  (.u (.agg [.d (.int .i64 kind),.d (intsD (EO l)),.d (.bool neg),.d (Ag abs),.d (Ag den)])):=by
 refine Aj (T:=tb) Ai mixed Tryz.func287 rfl (by decide) (Ah rfl) rfl ?_;unfold St.init
 simp -implicitDefEqProofs[jJ,-natCast_add,-natCast_mul,-natCast_emod,-natCast_ediv,-natCast_pow];refine AA (fun i:Nat=>⟨[(15,vI .i64 i),(14,vI .i64 l.length),(13,vC (.d (CC l))),(7,vC (.ptr 7 0)),(6,vC (.ptr 6 0))],match i with
  |0=>[(7,.box [.d (.int .i64 kind),.nl,.d (.bool neg),.d (Ag abs),.d (Ag den)]),(6,.box [.d (.int .i64 0),.nl,.d (.bool false),.nl,.nl])]
  |n+1=>[(7,.box [.d (.int .i64 kind),.sl 26 0 ((n+1)*2),.d (.bool neg),.d (Ag abs),.d (Ag den)]),(6,.box [.d (.int .i64 0),.nl,.d (.bool false),.nl,.nl]),(26,.row 1 ((EO (l.take (n+1))).map i64) true)]⟩)
  (fun i=>i≤l.length) (fun i=>l.length - i) 0 (by simp) (by omega) ?_
 rintro i hi
 by_cases h:i<l.length
 ·have e:EO (l.take (i+1))=EO (l.take i)++[l[i].1,l[i].2]:=by
   rw[BX h];unfold EO;rw[List.flatMap_append];rfl
  have e2:=jlR h;have e3:=SA (l.take i);rw[Cj,BL (by omega)]at e3
  cases i with
  |zero=>
   have e4:(EO (l.take 1)).map i64=[.int .i64 l[0].1,.int .i64 l[0].2]:=by rw[e];rfl
   rw[List.drop_zero]at e2
   simp -implicitDefEqProofs[jJ,-natCast_add,-natCast_mul,-natCast_emod,-natCast_ediv,-natCast_pow,h,e2,e4];exact⟨1,⟨rfl,by simp[As,lk,e4]⟩,by omega,by omega⟩
  |succ n=>
   simp -implicitDefEqProofs[jJ,-natCast_add,-natCast_mul,-natCast_emod,-natCast_ediv,-natCast_pow,h,e2,e,e3];refine⟨by omega,by omega,n+2,⟨rfl,?_⟩,by omega,by omega⟩
   have e5:(n+1)*2+2=(n+1+1)*2:=by omega
   simp[As,lk,e,e5]
   exact⟨rfl,rfl⟩
 ·have hi2:i=l.length:=by omega
  cases i with
  |zero=>
   have:l=[]:=jzv.1 hi2.symm
   subst this;simp -implicitDefEqProofs[jJ,-natCast_add,-natCast_mul,-natCast_emod,-natCast_ediv,-natCast_pow];rfl
  |succ n=>
   have e3:=SA l;simp -implicitDefEqProofs[jJ,-natCast_add,-natCast_mul,-natCast_emod,-natCast_ediv,-natCast_pow,h];rw[hi2,Cq,←e3,Bv (by simp)]
   refine⟨At _,rfl⟩
end Go.Va
