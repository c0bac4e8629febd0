/- a part of the proof -/
import Derived.Test.YtpklcnmcllbbjaaGreatDoorJau
import Derived.Test.YtpklcnmcllbbjaaGreatDoorRows
import Derived.ProofKit
import Derived.OpenShut
import Derived.Carry
import Derived.ChangeSlices
import Derived.Test.YtpklcnmcllbbjaaGreatDoorJas
import Derived.Test.YtpklcnmcllbbjaaGreatDoorJan
import Derived.Deep.Slices
set_option linter.all false
set_option maxHeartbeats 4000000
set_option maxRecDepth 100000
namespace Go.Va
open Int renaming natCast_add → qA, natCast_mul → qB, natCast_emod → qC, natCast_ediv → qD, natCast_pow → qE
open List renaming reduceReplicate → qF
open Go.Proofs
structure Fct where
 kind:Int
 args:List Int
 neg:Bool
 abs:List Nat
 den:List Nat
 deriving DecidableEq
@[simp]def Fct.ds(f:Fct):List D:=[.int .i64 f.kind,AT f.args,.bool f.neg,Ad f.abs,Ad f.den]
def arity(k:Int):Nat:=if k=1∨k=5 then 3 else if k=2∨k=3∨k=4∨k=6∨k=9 then 4 else if k=7 then 8 else if k=8 then 2 else 0
theorem It(k:Int):CallsF Tryz.prog 175 [.c (.int .i64 k)] (.u (.c (.d (.int .i64 (arity k))))):=by
 refine cO Tryz.func175 rfl ?_;by_cases h1:k=1
 ·subst h1;simp -implicitDefEqProofs[jJ,-qA,-qB,arity]
 by_cases h2:k=2
 ·subst h2;simp -implicitDefEqProofs[jJ,-qA,-qB,arity]
 by_cases h3:k=3
 ·subst h3;simp -implicitDefEqProofs[jJ,-qA,-qB,arity]
 by_cases h4:k=4
 ·subst h4;simp -implicitDefEqProofs[jJ,-qA,-qB,arity]
 by_cases h5:k=5
 ·subst h5;simp -implicitDefEqProofs[jJ,-qA,-qB,arity]
 by_cases h6:k=6
 ·subst h6;simp -implicitDefEqProofs[jJ,-qA,-qB,arity]
 by_cases h7:k=7
 ·subst h7;simp -implicitDefEqProofs[jJ,-qA,-qB,arity]
 by_cases h8:k=8
 ·subst h8;simp -implicitDefEqProofs[jJ,-qA,-qB,arity]
 by_cases h9:k=9
 ·subst h9;simp -implicitDefEqProofs[jJ,-qA,-qB,arity]
 simp -implicitDefEqProofs[jJ,-qA,-qB,arity,h1,h2,h3,h4,h5,h6,h7,h8,h9]
theorem jj5(k:Int):CallsF Tryz.prog 160 [.c (.int .i64 k)] (.u (.c (.d (.int .i64 (arity k))))):=by
 refine cO Tryz.func160 rfl ?_;by_cases h1:k=1
 ·subst h1;simp -implicitDefEqProofs[jJ,-qA,-qB,arity]
 by_cases h2:k=2
 ·subst h2;simp -implicitDefEqProofs[jJ,-qA,-qB,arity]
 by_cases h3:k=3
 ·subst h3;simp -implicitDefEqProofs[jJ,-qA,-qB,arity]
 by_cases h4:k=4
 ·subst h4;simp -implicitDefEqProofs[jJ,-qA,-qB,arity]
 by_cases h5:k=5
 ·subst h5;simp -implicitDefEqProofs[jJ,-qA,-qB,arity]
 by_cases h6:k=6
 ·subst h6;simp -implicitDefEqProofs[jJ,-qA,-qB,arity]
 by_cases h7:k=7
 ·subst h7;simp -implicitDefEqProofs[jJ,-qA,-qB,arity]
 by_cases h8:k=8
 ·subst h8;simp -implicitDefEqProofs[jJ,-qA,-qB,arity]
 by_cases h9:k=9
 ·subst h9;simp -implicitDefEqProofs[jJ,-qA,-qB,arity]
 simp -implicitDefEqProofs[jJ,-qA,-qB,arity,h1,h2,h3,h4,h5,h6,h7,h8,h9]
def DP(neg:Bool)(a b:List Nat):Bool:= !neg&&decide (a=[])&&decide (b=[])
theorem Y8(neg:Bool)(a b:List Nat):CallsF Tryz.prog 162 [.agg [.bool neg,Ad a,Ad b]] (.u (.c (.d (.bool (DP neg a b))))):=by
 refine cO Tryz.func162 rfl ?_;cases neg<;>cases a<;>cases b<;>simp -implicitDefEqProofs[jJ,-qA,-qB,DP]
theorem SB(neg:Bool)(a b:List Nat):CallsF Tryz.prog 177 [.agg [.bool neg,Ad a,Ad b]] (.u (.c (.d (.bool (DP neg a b))))):=by
 refine cO Tryz.func177 rfl ?_;cases neg<;>cases a<;>cases b<;>simp -implicitDefEqProofs[jJ,-qA,-qB,DP]
def wrong(f:Fct)(n:Int):Int:=
 if arity f.kind=0 then 8 else if f.args.length≠arity f.kind then 1 else if f.args.any (fun a=>decide (a<0)||decide (n≤a)) then 2
 else if (if f.kind=9 then CV f.neg f.abs f.den else DP f.neg f.abs f.den) then 0 else 1
structure Fct.Mild (f:Fct):Prop where
 la:f.abs.length≤8
 ld:f.den.length≤8
 oa:Ok f.abs
 od:Ok f.den
 ln:f.args.length≤1099511627776
theorem Lq{l:List Int}{p:Int→Bool}{i:Nat}(h:i<l.length):(l.drop i).any p=(p l[i]||(l.drop (i+1)).any p):=by
 rw[BQ h,List.any_cons]
theorem RO(f:Fct)(hf:f.Mild)(n:Int):CallsF Tryz.prog 94 [.agg f.ds,.c (.int .i64 n)] (.u (.c (.d (.int .i64 (wrong f n))))):=by
 refine cO Tryz.func94 rfl ?_;obtain⟨kind,args,neg,abs,den⟩:=f;obtain⟨la,ld,oa,od,ln⟩:=hf;simp only at la ld oa od ln;simp only[Fct.ds,wrong];simp -implicitDefEqProofs[jJ,-qA,-qB];refine Ac (jj5 kind) ?_
 generalize arity kind=ar at*;by_cases h1:ar=0
 ·simp -implicitDefEqProofs[jJ,-qA,-qB,h1]
 by_cases h2:args.length=ar
 ·simp -implicitDefEqProofs[jJ,-qA,-qB,h1,h2];refine AV (fun i:Nat=>⟨[(21,vI .i64 i),(20,vI .i64 (ar:Nat)),(19,vC (.d (AT args))),(2,vC (.ptr 2 0)),(1,vI .i64 n)],[(2,.box [.d (.int .i64 kind),.d (AT args),.d (.bool neg),.d (Ad abs),.d (Ad den)])]⟩) (fun i=>i≤args.length∧(args.drop i).any (fun a=>decide (a<0)||decide (n≤a))=args.any (fun a=>decide (a<0)||decide (n≤a))) (fun i=>args.length - i) 0 (by simp) ⟨by omega,rfl⟩ ?_
  rintro i ⟨h3,h4⟩
  by_cases h:i<args.length
  ·have e:=Lq (p:=fun a=>decide (a<0)||decide (n≤a)) h
   have hk:i<ar:=by omega
   rw[e]at h4
   by_cases h5:args[i]<0
   ·simp -implicitDefEqProofs[jJ,-qA,-qB,h,hk,h5,i64];intro hh;have:=hh _ (AZ h);omega
   ·by_cases h6:n≤args[i]
    ·simp -implicitDefEqProofs[jJ,-qA,-qB,h,hk,h5,h6,i64];intro hh;have:=hh _ (AZ h);omega
    ·simp -implicitDefEqProofs[jJ,-qA,-qB,h,hk,h5,h6,i64];simp only[decide_eq_false h5,decide_eq_false h6,Bool.false_or]at h4;exact⟨by omega,⟨by omega,h4⟩,by omega⟩
  ·have hk: ¬i<ar:=by omega
   have e:i=args.length:=by omega
   rw[e,List.drop_length]at h4
   have h4': ∀x∈args,0≤x∧x<n:=by simpa using h4.symm
   rw[←h4]
   have k1:=PB neg abs den oa (by omega) od (by omega)
   have k2:=Y8 neg abs den;by_cases h9:kind=9
   ·simp -implicitDefEqProofs[jJ,-qA,-qB,hk,h9];refine Ac k1 ?_;cases CV neg abs den<;>simp -implicitDefEqProofs[jJ,-qA,-qB]<;>exact h4'
   ·simp -implicitDefEqProofs[jJ,-qA,-qB,hk,h9];refine Ac k2 ?_;cases DP neg abs den<;>simp -implicitDefEqProofs[jJ,-qA,-qB]<;>exact h4'
 ·simp -implicitDefEqProofs[jJ,-qA,-qB,h1,h2]
theorem jbB(f:Fct)(hf:f.Mild)(n:Int):CallsF Tryz.prog 101 [.agg f.ds,.c (.int .i64 n)] (.u (.c (.d (.int .i64 (wrong f n))))):=by
 refine cO Tryz.func101 rfl ?_;obtain⟨kind,args,neg,abs,den⟩:=f;obtain⟨la,ld,oa,od,ln⟩:=hf;simp only at la ld oa od ln;simp only[Fct.ds,wrong];simp -implicitDefEqProofs[jJ,-qA,-qB];refine Ac (It kind) ?_
 have ka:=It kind;generalize arity kind=ar at*;by_cases h1:ar=0
 ·simp -implicitDefEqProofs[jJ,-qA,-qB,h1]
 simp -implicitDefEqProofs[jJ,-qA,-qB,h1];refine AA (Ah [0,1,3,0,8,24,63]) [.any [] [] (Aq [[2],[11],[12],[2],[14],[15]]),.one] (by rfl) ?_
 simp -implicitDefEqProofs[jJ,-qA,-qB];refine Ae ka ?_;by_cases h2:args.length=ar
 ·simp -implicitDefEqProofs[jJ,-qA,-qB,h1,h2];refine AV (fun i:Nat=>⟨[(21,vI .i64 i),(20,vI .i64 (ar:Nat)),(19,vC (.d (AT args))),(2,vC (.ptr 2 0)),(1,vI .i64 n)],[(2,.box [.d (.int .i64 kind),.d (AT args),.d (.bool neg),.d (Ad abs),.d (Ad den)])]⟩) (fun i=>i≤args.length∧(args.drop i).any (fun a=>decide (a<0)||decide (n≤a))=args.any (fun a=>decide (a<0)||decide (n≤a))) (fun i=>args.length - i) 0 (by simp) ⟨by omega,rfl⟩ ?_
  rintro i ⟨h3,h4⟩
  by_cases h:i<args.length
  ·have e:=Lq (p:=fun a=>decide (a<0)||decide (n≤a)) h
   have hk:i<ar:=by omega
   rw[e]at h4
   by_cases h5:args[i]<0
   ·simp -implicitDefEqProofs[jJ,-qA,-qB,h,hk,h5,i64];intro hh;have:=hh _ (AZ h);omega
   ·by_cases h6:n≤args[i]
    ·simp -implicitDefEqProofs[jJ,-qA,-qB,h,hk,h5,h6,i64];intro hh;have:=hh _ (AZ h);omega
    ·simp -implicitDefEqProofs[jJ,-qA,-qB,h,hk,h5,h6,i64];simp only[decide_eq_false h5,decide_eq_false h6,Bool.false_or]at h4;exact⟨by omega,⟨by omega,h4⟩,by omega⟩
  ·have hk: ¬i<ar:=by omega
   have e:i=args.length:=by omega
   rw[e,List.drop_length]at h4
   have h4': ∀x∈args,0≤x∧x<n:=by simpa using h4.symm
   rw[←h4]
   have k1:=jfl neg abs den oa (by omega) od (by omega)
   have k2:=SB neg abs den;by_cases h9:kind=9
   ·simp -implicitDefEqProofs[jJ,-qA,-qB,hk,h9];refine Ac k1 ?_;cases CV neg abs den<;>simp -implicitDefEqProofs[jJ,-qA,-qB]<;>exact h4'
   ·simp -implicitDefEqProofs[jJ,-qA,-qB,hk,h9];refine Ac k2 ?_;cases DP neg abs den<;>simp -implicitDefEqProofs[jJ,-qA,-qB]<;>exact h4'
 ·simp -implicitDefEqProofs[jJ,-qA,-qB,h1,h2]
end Go.Va
namespace Go.Va
open Go.Proofs Go.ChangeShapes Go.WideShapes Go.ChangeAt Go.RowKit
section
variable {H:Type} {enc:TypeId×Value→H} {w:World} {base:Nat} {sp:Nat→Bool} {hd:Bool}
abbrev Z0:Addr→Prop:=fun _=>False
theorem Uk{e:D→Prop}{a:Addr}{len cap:Nat}{zs:List Int}{k:IntKind}(hl:len≤cap)(hm:cap≤maxLen)(hz:len≤zs.length)(hc: ∀i,i<zs.length→w.cell? (a.add i)=some (.int k (zs.getD i 0))):
  RepD w Z0 (.slice len ((zs.take len).map (D.int k))) (.slice (some a) len cap):=by
 have key: ∀(j:Nat) (x:D),((zs.take len).map (D.int k))[j]? =some x→j<len∧x= .int k (zs.getD j 0):=fun j x hj=>by
  rw[Bf,List.getElem?_take]at hj
  by_cases h:j<len
  ·rw[if_pos h,AD (by omega)]at hj
   refine⟨h,?_⟩
   rw[AL,AD (by omega)]
   exact(Bi hj).symm
  ·rw[if_neg h]at hj
   cases hj
 have hspot:0<len→a.spot=none:=fun h=>by
  have:=hc 0 (by omega)
  unfold Addr.add at this;rw[if_pos rfl]at this;unfold World.cell? at this;split at this
  ·split at this
   ·cases this
   ·rename_i hn
    simpa using hn
  ·cases this
 refine .slice len _ a cap (fun j=> .int k (zs.getD j 0)) (fun hne=> ?_) hl hm (fun j x hj=> ?_) (fun j x hj h=>h) (fun j x hj=> ?_)
 ·obtain⟨x,hx⟩:=List.exists_mem_of_ne_nil _ hne
  obtain⟨j,hj⟩:=List.getElem?_of_mem hx
  have:=(key j x hj).1
  exact hspot (by omega)
 ·have hk:=key j x hj;have h1:=hc j (by omega)
  have h2:=hspot (by omega)
  have:a.add j=⟨a.block,a.off+j,none⟩:=by
   unfold Addr.add;split
   ·rename_i h0
    subst h0;obtain⟨b,o,s⟩:=a;simp only at h2;subst h2;rfl
   ·rfl
  rw[←this]
  exact h1
 ·rw[(key j x hj).2]
  exact .int _ _
theorem Rs{fuel:Nat}{cs:List Value}{x:DataW H×List MemPlace}(h:DataW.trod enc Tryz.prog w base sp hd fuel 34 cs=some x): ∃(l:List Int) (v:Value),cs=[v]∧RepD w Z0 (AT l) v:=by
 rcases open_ints (k:= .i64) Tryz.underlying34 Tryz.underlying3 (by kernel_rfl) h with⟨rfl,_⟩|⟨a,len,cap,zs,rfl,_,h1,h2,h3,_,h4,_⟩
 ·exact⟨[],_,rfl,.snil⟩
 ·have hz:len≤zs.length:=by rw[h3];split<;>omega
  refine⟨zs.take len,_,rfl,?_⟩
  have:=Uk (e:=fun _=>True) h1 h2 hz h4
  have e:(AT (zs.take len))= .slice len ((zs.take len).map (D.int .i64)):=by
   show D.slice _ _=_
   rw[A8,Bs hz]
   rfl
  rw[e]
  exact this
theorem Ph{fuel:Nat}{cs:List Value}{x:DataW H×List MemPlace}(h:DataW.trod enc Tryz.prog w base sp hd fuel 36 cs=some x): ∃(l:List Nat) (v:Value),Ok l∧cs=[v]∧RepD w Z0 (Ad l) v:=by
 rcases open_ints (k:= .u16) Tryz.underlying36 (by kernel_rfl:Tryz.prog.underlying _=_) (by kernel_rfl) h with⟨rfl,_⟩|⟨a,len,cap,zs,rfl,_,h1,h2,h3,_,h4,h5⟩
 ·exact⟨[],_,Ok.nil,rfl,.snil⟩
 ·have hz:len≤zs.length:=by rw[h3];split<;>omega
  have hb: ∀n∈zs,0≤n∧n<65536:=fun n hn=>by
   have:=h5 n hn
   simp[Lit.wf,IntKind.min,IntKind.max,IntKind.signed,IntKind.bits]at this
   omega
  refine⟨(zs.take len).map Int.toNat,_,fun y hy=> ?_,rfl,?_⟩
  ·obtain⟨n,hn,rfl⟩:=jzk.1 hy
   have:=hb n (List.mem_of_mem_take hn)
   omega
  ·have:=Uk (e:=fun _=>True) h1 h2 hz h4
   have e:Ad ((zs.take len).map Int.toNat)= .slice len ((zs.take len).map (D.int .u16)):=by
    show D.slice _ _=_
    rw[List.length_map,A8,Bs hz,List.map_map]
    congr 1
    refine List.map_congr_left fun n hn=> ?_
    have:=hb n (List.mem_of_mem_take hn)
    show D.int .u16 ((n.toNat:Nat):Int)=_
    rw[Int.toNat_of_nonneg this.1]
   rw[e]
   exact this
structure InFact (f:Fct):Prop where
 oa:Ok f.abs
 od:Ok f.den
theorem Tb{P:Program}(hl:laidOutB P=true){W W':World}(hb:Below W.heap.size W W'): ∀{ts:List TypeId} {vs:List Value} {ds:List (DataW H)} {ps:List MemPlace},
  (∀t∈ts,P.readableRec t=true∧t<P.types.size)→DataW.TrodAll enc P W 0 (fun _=>true) true ts vs ds ps→(∀x∈ps,x.block<W.heap.size)→DataW.TrodAll enc P W' 0 (fun b=>decide (b<W.heap.size)) true ts vs ds ps
 |[],vs,ds,ps,_,h,_=>by
  obtain⟨rfl,rfl,rfl⟩:=trodAll_nil h
  rfl
 |t::ts,vs,ds,ps,ht,h,hlt=>by
  obtain⟨v,vs',d,ds',p,q,rfl,rfl,rfl,h1,h2⟩:=trodAll_cons h
  have:=ht t (by simp)
  exact trodAll_cons_mk (Below.trod hl this.1 this.2 h1 hb (fun x hx=>hlt x (by simp[hx]))) (Tb hl hb (fun t' h'=>ht t' (by simp[h'])) h2 (fun x hx=>hlt x (by simp[hx])))
end
theorem WY:laidOutB Tryz.prog=true:=by kernel_rfl
theorem jbF:ownKnob Tryz.prog.godebug=none:=by kernel_rfl
end Go.Va
namespace Go.Va
open Go.Proofs
section
variable {α:Type} {k:Nat} {e:α→List D} (he: ∀x,(e x).length=k)
include he
theorem Qw(l:List α):(l.flatMap e).length=l.length*k:=by
 induction l with
 |nil=>simp
 |cons a l ih=>rw[List.flatMap_cons,List.length_append,he,ih,List.length_cons,Nat.add_mul,Nat.one_mul,Nat.add_comm]
theorem jdj(l:List α)(i:Nat):(l.flatMap e).drop (i*k)=(l.drop i).flatMap e:=by
 induction l generalizing i with
 |nil=>simp
 |cons a l ih=>
  cases i with
  |zero=>simp
  |succ i=>
   rw[List.flatMap_cons,List.drop_succ_cons,List.drop_append,DU (by rw[he,Nat.add_mul];omega),he,List.nil_append,Nat.add_mul,Nat.one_mul,Nat.add_sub_cancel,ih]
theorem Ic(l:List α)(i:Nat)(h:i<l.length):((l.flatMap e).drop (i*k)).take k=e l[i]:=by
 rw[jdj he,BQ h,List.flatMap_cons,List.take_append,Ba (by rw[he];omega),he,Nat.sub_self]
 simp
end
theorem Fct.ds_len(f:Fct):f.ds.length=5:=rfl
def lo(a b:Int):Int:=if b<a then b else a
def hi(a b:Int):Int:=if a<b then b else a
def oth(a b p:Int):Int:=a+b - p
end Go.Va
namespace Go.Va
def CB{α:Type}(p:α→Bool)(l:List α)(k:Nat):Prop:=(l.take k).all p=true
theorem HJ{α:Type}(p:α→Bool)(l:List α):CB p l 0:=by simp[CB]
theorem Iu{α:Type}{p:α→Bool}{l:List α}{k:Nat}(h:k<l.length)(hk:CB p l k)(h1:p l[k]=true):CB p l (k+1):=by
 unfold CB at*;rw[Cr h,List.all_append,hk];simp[h1]
theorem HZ{α:Type}{p:α→Bool}{l:List α}(h:CB p l l.length):l.all p=true:=by
 unfold CB at h
 rwa [BM]at h
theorem Is{α:Type}{p:α→Bool}{l:List α}{k:Nat}(h:k<l.length)(h1:p l[k]=false):l.all p=false:=by
 rw[Bool.eq_false_iff]
 intro hc;rw[jzy]at hc;rw[hc _ (AZ h)]at h1;cases h1
def Di(n:Int)(a:Int):Bool:=decide (a<0)||decide (n≤a)
def FE(n:Int)(l:List Int)(k:Nat):Prop:=(l.take k).any (Di n)=false
theorem jim(n:Int)(l:List Int):FE n l 0:=by simp[FE]
theorem jbJ{n:Int}{l:List Int}{k:Nat}(h:k<l.length)(hk:FE n l k)(h1: ¬l[k]<0)(h2: ¬n≤l[k]):FE n l (k+1):=by
 unfold FE at*;rw[Cr h,List.any_append,hk];simp[Di,h1,h2]
theorem jfJ{n:Int}{l:List Int}(h:FE n l l.length):l.any (Di n)=false:=by
 unfold FE at h
 rwa [BM]at h
theorem Rw{n:Int}{l:List Int}{k:Nat}(h:k<l.length)(h1:l[k]<0∨n≤l[k]):l.any (Di n)=true:=List.any_eq_true.2 ⟨_,AZ h,by simpa [Di]using h1⟩
end Go.Va
namespace Go.Va
open Go.Proofs
structure Grd where
 kind:Int
 args:List Int
 deriving DecidableEq
def Grd.ds(g:Grd):List D:=[.int .i64 g.kind,AT g.args]
theorem Grd.ds_len(g:Grd):g.ds.length=2:=rfl
def Dd(l:List Grd):D:= .slice l.length (l.flatMap Grd.ds)
theorem O1(l:List Grd)(i:Nat)(h:i<l.length):((l.flatMap Grd.ds).drop (i*2)).take 2=l[i].ds:=Ic Grd.ds_len l i h
@[simp high]theorem grd_len(l:List Grd):(l.flatMap Grd.ds).length=l.length*2:=Qw Grd.ds_len l
theorem L3(l:List Grd)(i:Nat)(h:i<l.length):((l.flatMap Grd.ds).map C.d|>.drop (i*2)).take 2=[.d (.int .i64 l[i].kind),.d (AT l[i].args)]:=by
 have:=O1 l i h
 rw[←List.map_drop,←List.map_take,this]
 rfl
end Go.Va
namespace Go.Va
open Go.Proofs Go.ChangeShapes Go.WideShapes Go.ChangeAt Go.RowKit
theorem jad{E:Type}{n:Nat}(hn:0<n){ds:E→List D}(hds: ∀e,(ds e).length=n)(l:List E)(j:Nat):(l.flatMap ds)[j]? =(l[j/n]?).bind fun f=>(ds f)[j%n]? :=by
 have e:j=j/n*n+j%n:=by rw[Nat.mul_comm];exact(Nat.div_add_mod j n).symm
 have hm:=Nat.mod_lt j hn;have h1:(l.flatMap ds)[j]? =((l.flatMap ds).drop (j/n*n))[j%n]? :=by
  rw[List.getElem?_drop]
  congr 1
 rw[h1,jdj hds]
 by_cases h:j/n<l.length
 ·rw[BQ h,AD h,List.flatMap_cons,List.getElem?_append_left (by rw[hds];exact hm)]
  rfl
 ·rw[List.drop_eq_nil_of_le (by omega),B9 (l:=l) (by omega)]
  rfl
section
variable {H:Type} {enc:TypeId×Value→H} {w:World} {base:Nat} {sp:Nat→Bool} {hd:Bool}
theorem JI{E:Type}[Inhabited E]{n:Nat}(hn:0<n){ds:E→List D}(hds: ∀e,(ds e).length=n){Q:E→Prop}{tE tS:TypeId}(hu:Tryz.prog.underlying tS=some (.slice tE))(hcell:Tryz.prog.cellsOf tE=n)
  (he: ∀{fuel:Nat} {cs:List Value} {x:DataW H×List MemPlace},cs.length=n→DataW.trod enc Tryz.prog w base sp hd fuel tE cs=some x→ ∃f:E,Q f∧ ∀(j:Nat) (x:D) (u:Value),(ds f)[j]? =some x→cs[j]? =some u→RepD w Z0 x u)
  {fuel:Nat} {cs:List Value} {x:DataW H×List MemPlace} (h:DataW.trod enc Tryz.prog w base sp hd fuel tS cs=some x):
  ∃(l:List E) (v:Value),(∀f∈l,Q f)∧cs=[v]∧RepD w Z0 (.slice l.length (l.flatMap ds)) v:=by
 rcases Go.Deep.open_slice hu h with⟨e,_⟩|⟨a,len,cap,m,k,DD,Pl,e,_,h1,h2,h3,_,h4⟩
 ·exact⟨[],_,by simp,e,.snil⟩
 ·have hm:len≤m:=by rw[h3];split<;>omega
  rw[hcell]at h4
  have each: ∀i,i<m→ ∃q:E×List Value,Q q.1∧q.2.length=n∧(∀k,k<n→w.cell? ((a.add (i*n)).add k)=q.2[k]?)∧ ∀(j:Nat) (x:D) (u:Value),(ds q.1)[j]? =some x→q.2[j]? =some u→RepD w Z0 x u:=fun i hi=>by
   obtain⟨cs,c1,c2⟩:=h4 i hi
   obtain⟨_,c3,c4⟩:=World.cells?_some c1
   obtain⟨f,f1,f2⟩:=he c3 c2
   exact⟨(f,cs),f1,c3,c4,f2⟩
  obtain⟨q,hq⟩:=Go.Deep.choose_lt each
  have hspot:0<len→a.spot=none:=fun h=>by
   obtain⟨_,q1,q2,_⟩:=hq 0 (by omega)
   have q2:=q2 0 hn;rw[AD (by omega)]at q2
   have:=q2
   unfold Addr.add at this;simp only[Nat.zero_mul,if_true]at this;unfold World.cell? at this;split at this
   ·split at this
    ·cases this
    ·rename_i hn
     simpa using hn
   ·cases this
  refine⟨(List.range len).map fun i=>(q i).1,_,fun f hf=> ?_,e,?_⟩
  ·obtain⟨i,hi,rfl⟩:=jzk.1 hf
   exact(hq i (by have:=List.mem_range.1 hi;omega)).1
  ·have hx: ∀(j:Nat) (x:Va.D),((((List.range len).map fun i=>(q i).1)).flatMap ds)[j]? =some x→j/n<len∧(ds (q (j/n)).1)[j%n]? =some x:=fun j x hj=>by
    rw[jad hn hds,Bf]at hj
    by_cases h:j/n<len
    ·rw[List.getElem?_range h]at hj
     exact⟨h,by simpa using hj⟩
    ·rw[B9 (by simpa using h)]at hj
     cases hj
   rw[show((List.range len).map fun i=>(q i).1).length=len by simp]
   have hat: ∀j,j/n<len→w.cell? ⟨a.block,a.off+j,none⟩=some ((q (j/n)).2.getD (j%n) .nilFunc):=fun j hj=>by
    obtain⟨_,q1,q2,_⟩:=hq (j/n) (by omega)
    have hmd:=Nat.mod_lt j hn;have q2:=q2 (j%n) hmd;rw[AL,AD (by omega)]
    rw[AD (by omega),Go.Deep.add_add]at q2
    have hs:=hspot (Nat.lt_of_le_of_lt (Nat.zero_le _) hj);have:a.add (j/n*n+j%n)=⟨a.block,a.off+j,none⟩:=by
     rw[show j/n*n+j%n=j by rw[Nat.mul_comm];exact Nat.div_add_mod j n]
     unfold Addr.add;split
     ·rename_i h0
      subst h0;obtain⟨b,o,s⟩:=a;simp only at hs;subst hs;rfl
     ·rfl
    rw[←this]
    exact q2
   refine .slice len _ a cap (fun j=>(q (j/n)).2.getD (j%n) .nilFunc) (fun hne=> ?_) h1 h2 (fun j x hj=>hat j (hx j x hj).1) (fun j x hj h=>h) (fun j x hj=> ?_)
   ·obtain⟨x,hx2⟩:=List.exists_mem_of_ne_nil _ hne
    obtain⟨j,hj⟩:=List.getElem?_of_mem hx2
    exact hspot (Nat.lt_of_le_of_lt (Nat.zero_le _) (hx j x hj).1)
   ·obtain⟨hj1,hj2⟩:=hx j x hj
    obtain⟨_,q1,_,q3⟩:=hq (j/n) (by omega)
    refine q3 _ _ _ hj2 ?_;rw[AL,AD (by have:=Nat.mod_lt j hn;omega)]
    rfl
theorem some_of{α:Type}{o:Option α}{l:List α}{i:Nat}(h:o=l[i]?)(hi:i<l.length): ∃y,o=some y:=⟨l[i],by rw[h,AD hi]⟩
theorem UD{fuel:Nat}{cs:List Value}{x:DataW H×List MemPlace}(hlen:cs.length=5)(h:DataW.trod enc Tryz.prog w base sp hd fuel 42 cs=some x):
  ∃f:Fct,InFact f∧ ∀(j:Nat) (x:D) (u:Value),f.ds[j]? =some x→cs[j]? =some u→RepD w Z0 x u:=by
 obtain⟨xs,n,_,_,_,_,hf⟩:=DataW.trod_struct Tryz.underlying42 h
 have hc3:Tryz.prog.cellsOf 3=1:=by kernel_rfl
 have hc22:Tryz.prog.cellsOf 34=1:=by kernel_rfl
 have hc28:Tryz.prog.cellsOf 40=3:=by kernel_rfl
 have hc26:Tryz.prog.cellsOf 38=2:=by kernel_rfl
 have hc24:Tryz.prog.cellsOf 36=1:=by kernel_rfl
 have hc4:Tryz.prog.cellsOf 4=1:=by kernel_rfl
 obtain⟨c0,c1,c2,c3,c4,rfl⟩: ∃c0 c1 c2 c3 c4,cs=[c0,c1,c2,c3,c4]:=by
  match cs,hlen with
  |[c0,c1,c2,c3,c4],_=>exact⟨c0,c1,c2,c3,c4,rfl⟩
 have some_of: ∀{α:Type} {o:Option α} {l:List α} {i:Nat},o=l[i]? →i<l.length→ ∃y,o=some y:=fun {α o l i} h hi=>⟨l[i],by rw[h,AD hi]⟩
 have hx3:xs.length=3:=by assumption
 obtain⟨y0,g0⟩:=some_of (hf 0 _ rfl) (by omega)
 obtain⟨y1,g1⟩:=some_of (hf 1 _ rfl) (by omega)
 obtain⟨y2,g2⟩:=some_of (hf 2 _ rfl) (by omega)
 simp only[hc3,hc22,hc28,List.getElem_toArray,List.getElem_cons_zero,List.getElem_cons_succ,List.drop_zero,List.take_succ_cons,List.take_zero,List.drop_succ_cons]at g0 g1 g2;obtain⟨k,e0,_,_⟩:=DataW.trod_int Tryz.underlying3 g0;obtain⟨l,u1,e1,r1⟩:=Rs g1;obtain⟨ys,n2,_,_,_,hy2,hf2⟩:=DataW.trod_struct Tryz.underlying40 g2;have hy2':ys.length=2:=hy2;obtain⟨z0,k0⟩:=some_of (hf2 0 _ rfl) (by omega)
 obtain⟨z1,k1⟩:=some_of (hf2 1 _ rfl) (by omega)
 simp only[hc26,hc24,List.getElem_toArray,List.getElem_cons_zero,List.getElem_cons_succ,List.drop_zero,List.take_succ_cons,List.take_zero,List.drop_succ_cons]at k0 k1;obtain⟨D4,u4,o4,e4,r4⟩:=Ph k1;obtain⟨zs,n3,_,_,_,hz2,hf3⟩:=DataW.trod_struct Tryz.underlying38 k0;have hz2':zs.length=2:=hz2;obtain⟨q0,j0⟩:=some_of (hf3 0 _ rfl) (by omega)
 obtain⟨q1,j1⟩:=some_of (hf3 1 _ rfl) (by omega)
 simp only[hc4,hc24,List.getElem_toArray,List.getElem_cons_zero,List.getElem_cons_succ,List.drop_zero,List.take_succ_cons,List.take_zero,List.drop_succ_cons]at j0 j1;obtain⟨b,e2,_⟩:=DataW.trod_bool Tryz.underlying4 j0;obtain⟨D3,u3,o3,e3,r3⟩:=Ph j1;cases e0;cases e1;cases e2;cases e3;cases e4;refine⟨⟨k,l,b,D3,D4⟩,⟨o3,o4⟩,fun j x u hx hu=> ?_⟩
 match j,hx,hu with
 |0,hx,hu=>cases hx;cases hu;exact .int _ _
 |1,hx,hu=>cases hx;cases hu;exact r1
 |2,hx,hu=>cases hx;cases hu;exact .bool _
 |3,hx,hu=>cases hx;cases hu;exact r3
 |4,hx,hu=>cases hx;cases hu;exact r4
theorem Ux{fuel:Nat}{cs:List Value}{x:DataW H×List MemPlace}(hlen:cs.length=2)(h:DataW.trod enc Tryz.prog w base sp hd fuel 47 cs=some x):
  ∃g:Grd,True∧ ∀(j:Nat) (x:D) (u:Value),g.ds[j]? =some x→cs[j]? =some u→RepD w Z0 x u:=by
 obtain⟨xs,n,_,_,_,hx,hf⟩:=DataW.trod_struct Tryz.underlying47 h
 have hx2:xs.length=2:=hx
 have hc3:Tryz.prog.cellsOf 3=1:=by kernel_rfl
 have hc22:Tryz.prog.cellsOf 34=1:=by kernel_rfl
 obtain⟨c0,c1,rfl⟩: ∃c0 c1,cs=[c0,c1]:=by
  match cs,hlen with
  |[c0,c1],_=>exact⟨c0,c1,rfl⟩
 obtain⟨y0,g0⟩:=some_of (hf 0 _ rfl) (by omega)
 obtain⟨y1,g1⟩:=some_of (hf 1 _ rfl) (by omega)
 simp only[hc3,hc22,List.getElem_toArray,List.getElem_cons_zero,List.getElem_cons_succ,List.drop_zero,List.take_succ_cons,List.take_zero,List.drop_succ_cons]at g0 g1;obtain⟨k,e0,_,_⟩:=DataW.trod_int Tryz.underlying3 g0;obtain⟨l,u1,e1,r1⟩:=Rs g1;cases e0;cases e1;refine⟨⟨k,l⟩,trivial,fun j x u hx hu=> ?_⟩
 match j,hx,hu with
 |0,hx,hu=>cases hx;cases hu;exact .int _ _
 |1,hx,hu=>cases hx;cases hu;exact r1
end
end Go.Va
namespace Go.Va
open Go.Proofs
structure Der where
 fact:Fct
 rule:Int
 frm:List Int
def Der.ds(x:Der):List D:=x.fact.ds++[.int .i64 x.rule,AT x.frm]
theorem Der.ds_len(x:Der):x.ds.length=7:=rfl
def Dh(l:List Der):D:= .slice l.length (l.flatMap Der.ds)
def Der.Mild(x:Der):Prop:=x.fact.Mild∧x.frm.length≤1000
theorem Xp(l:List Der)(i:Nat)(h:i<l.length):((l.flatMap Der.ds).drop (i*7)).take 7=l[i].ds:=Ic Der.ds_len l i h
theorem Kp(l:List Der)(i:Nat)(h:i<l.length):((l.flatMap Der.ds).map C.d|>.drop (i*7)).take 7=[.d (.int .i64 l[i].fact.kind),.d (AT l[i].fact.args),.d (.bool l[i].fact.neg),.d (Ad l[i].fact.abs),.d (Ad l[i].fact.den),.d (.int .i64 l[i].rule),.d (AT l[i].frm)]:=by
 have:=Xp l i h
 rw[←List.map_drop,←List.map_take,this]
 rfl
@[simp high]theorem der_len(l:List Der):(l.flatMap Der.ds).length=l.length*7:=Qw Der.ds_len l
def grdN(k:Int):Int:=if k=1 then 2 else if k=2 then 3 else if k=3 then 4 else -1
def errG(n:Int)(g:Grd):Int:=
 if grdN g.kind= -1 then 8 else if (g.args.length:Int)≠grdN g.kind then 1 else if g.args.any (Di n) then 2 else 0
end Go.Va
namespace Go.Va
open Int renaming natCast_add → qA, natCast_mul → qB, natCast_emod → qC, natCast_ediv → qD, natCast_pow → qE
open List renaming reduceReplicate → qF
open Go.Proofs
def bs(l:List UInt8):ByteArray:=⟨l.toArray⟩
structure Pat where
 kind:Int
 letters:List UInt8
 n:Int
def Pat.ds(p:Pat):List D:=[.int .i64 p.kind,.str (bs p.letters),.int .i64 p.n]
theorem Pat.ds_len(p:Pat):p.ds.length=3:=rfl
def MB(l:List Pat):D:= .slice l.length (l.flatMap Pat.ds)
structure Rul where
 name:List UInt8
 prem:List Pat
 concl:List Pat
 guards:List Pat
 count:Int
 derive:D
def Rul.ds(r:Rul):List D:=[.str (bs r.name),MB r.prem,MB r.concl,MB r.guards,.int .i64 r.count,r.derive]
def Rul.zero:Rul:=⟨[],[],[],[],0,.nilFn⟩
theorem IC(n:Nat)(cs:List D):CallsF Tryz.prog 244 [.c (.slice n cs)] (.u (.c (.d (.slice n cs)))):=by
 refine cO Tryz.func244 rfl ?_;simp -implicitDefEqProofs[jJ,-qA,-qB]
def BE(s:List UInt8):Pat:=⟨2,s,0⟩
def BJ(s:List UInt8):Pat:=⟨3,s,0⟩
def Bv(s:List UInt8):Pat:=⟨4,s,0⟩
def E4(s:List UInt8):Pat:=⟨1,s,0⟩
def BA(s:List UInt8):Pat:=⟨5,s,0⟩
def C3(s:List UInt8):Pat:=⟨6,s,0⟩
def Bx(s:List UInt8):Pat:=⟨7,s,0⟩
def GR(s:List UInt8):Pat:=⟨8,s,0⟩
def Ft(s:List UInt8)(n:Int):Pat:=⟨9,s,n⟩
def BF(s:List UInt8):Pat:=⟨1,s,0⟩
def Dw(s:List UInt8):Pat:=⟨2,s,0⟩
theorem I3(s:ByteArray):CallsF Tryz.prog 245 [.c (.str s)] (.u (.agg [.d (.int .i64 2),.d (.str s),.d (.int .i64 0)])):=by
 refine cO Tryz.func245 rfl ?_;simp -implicitDefEqProofs[jJ,-qA,-qB]
theorem Jn(s:ByteArray):CallsF Tryz.prog 247 [.c (.str s)] (.u (.agg [.d (.int .i64 3),.d (.str s),.d (.int .i64 0)])):=by
 refine cO Tryz.func247 rfl ?_;simp -implicitDefEqProofs[jJ,-qA,-qB]
theorem J2(s:ByteArray):CallsF Tryz.prog 251 [.c (.str s)] (.u (.agg [.d (.int .i64 4),.d (.str s),.d (.int .i64 0)])):=by
 refine cO Tryz.func251 rfl ?_;simp -implicitDefEqProofs[jJ,-qA,-qB]
theorem J5(s:ByteArray):CallsF Tryz.prog 250 [.c (.str s)] (.u (.agg [.d (.int .i64 1),.d (.str s),.d (.int .i64 0)])):=by
 refine cO Tryz.func250 rfl ?_;simp -implicitDefEqProofs[jJ,-qA,-qB]
theorem If(s:ByteArray):CallsF Tryz.prog 249 [.c (.str s)] (.u (.agg [.d (.int .i64 5),.d (.str s),.d (.int .i64 0)])):=by
 refine cO Tryz.func249 rfl ?_;simp -implicitDefEqProofs[jJ,-qA,-qB]
theorem Jt(s:ByteArray):CallsF Tryz.prog 255 [.c (.str s)] (.u (.agg [.d (.int .i64 6),.d (.str s),.d (.int .i64 0)])):=by
 refine cO Tryz.func255 rfl ?_;simp -implicitDefEqProofs[jJ,-qA,-qB]
theorem Jd(s:ByteArray):CallsF Tryz.prog 257 [.c (.str s)] (.u (.agg [.d (.int .i64 7),.d (.str s),.d (.int .i64 0)])):=by
 refine cO Tryz.func257 rfl ?_;simp -implicitDefEqProofs[jJ,-qA,-qB]
theorem JF(s:ByteArray):CallsF Tryz.prog 253 [.c (.str s)] (.u (.agg [.d (.int .i64 8),.d (.str s),.d (.int .i64 0)])):=by
 refine cO Tryz.func253 rfl ?_;simp -implicitDefEqProofs[jJ,-qA,-qB]
theorem Jw(s:ByteArray)(n:Int):CallsF Tryz.prog 252 [.c (.str s),.c (.int .i64 n)] (.u (.agg [.d (.int .i64 9),.d (.str s),.d (.int .i64 n)])):=by
 refine cO Tryz.func252 rfl ?_;simp -implicitDefEqProofs[jJ,-qA,-qB]
theorem JD(s:ByteArray):CallsF Tryz.prog 246 [.c (.str s)] (.u (.agg [.d (.int .i64 1),.d (.str s),.d (.int .i64 0)])):=by
 refine cO Tryz.func246 rfl ?_;simp -implicitDefEqProofs[jJ,-qA,-qB]
theorem IU(s:ByteArray):CallsF Tryz.prog 256 [.c (.str s)] (.u (.agg [.d (.int .i64 2),.d (.str s),.d (.int .i64 0)])):=by
 refine cO Tryz.func256 rfl ?_;simp -implicitDefEqProofs[jJ,-qA,-qB]
end Go.Va
