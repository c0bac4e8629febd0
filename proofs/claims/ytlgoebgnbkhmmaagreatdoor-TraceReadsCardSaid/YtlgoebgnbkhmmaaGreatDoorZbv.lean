/- a part of the proof -/
import Derived.Test.YtlgoebgnbkhmmaaGreatDoorZbq
import Derived.Test.YtlgoebgnbkhmmaaGreatDoorZbu
import Derived.Test.YtlgoebgnbkhmmaaGreatDoorZbe
import Derived.Test.YtlgoebgnbkhmmaaGreatDoorZay
import Derived.Test.YtlgoebgnbkhmmaaGreatDoorZbl
import Derived.Test.YtlgoebgnbkhmmaaGreatDoorZbk
import Derived.Test.YtlgoebgnbkhmmaaGreatDoorZav
set_option linter.all false
set_option maxHeartbeats 4000000
set_option maxRecDepth 10000
namespace Go.Va
open Int renaming natCast_add → qA, natCast_mul → qB, natCast_emod → qC, natCast_ediv → qD, natCast_pow → qE
open List renaming reduceReplicate → qF
open Go.Proofs
def VH(ns:List ByteArray)(x:ByteArray×List Der×List Grd×Nat):St:=⟨[(0,vC (.d (.str x.1))),(1,vC (.d (A6 ns))),(4,vC (.ptr 4 0)),(7,vC (.ptr 7 0)),(8,vI .i64 x.2.2.2)],
 (4,.box [.nl,.nl])::(7,.box [RQ x.2.1,QD x.2.2.1])::(RO x.2.1++Qk x.2.2.1)⟩
def Vn(ns:List ByteArray)(R:List Der×List Grd×Int×Int)(x:ByteArray×List Der×List Grd×Nat):Prop:=R=KQ ns x.2.1 x.2.2.1 x.2.2.2 (B x.1)∧x.1.size+x.2.2.2≤1501∧x.2.1.length+x.2.2.1.length<x.2.2.2
theorem job(ns:List ByteArray)(hok:Mb ns)(hN:ns.length≤60)(hn: ∀s∈ns,s.size≤30)(s:ByteArray)(hs:s.size≤1500):
  CallsF Tryz.prog 8 [.c (.str s),.c (A6 ns)] (PA (KQ ns [] [] 1 (B s))):=by
 obtain⟨R,hR⟩: ∃R,R=KQ ns [] [] 1 (B s):=⟨_,rfl⟩
 rw[←hR]
 refine cO Tryz.func8 rfl ?_;simp -implicitDefEqProofs[jJ,-qA,-qB];refine CE [(901,67),(902,42)] (VH ns) (Vn ns R) (fun x=>x.1.size) (s,[],[],1) (by simp[AW,lk,St.le,vI,vC,VH,RQ,QD,RO,Qk,A6]) ⟨hR,by simp;omega,by simp⟩ ?_
 rintro⟨s,ds,gs,n⟩ ⟨h1,h2,h3⟩
 simp only at h1 h2 h3;have hD:(RQ ds= .nl∧RO ds=[]∧ds=[])∨(RQ ds= .sl 901 0 ds.length∧RO ds=[(901,.row 7 (ds.flatMap Der.ds) true)]∧ds≠[]):=by
  by_cases e:ds=[]
  ·exact .inl ⟨by rw[e];rfl,by rw[e];rfl,e⟩
  ·exact .inr ⟨(US e).1,(US e).2,e⟩
 have hG:(QD gs= .nl∧Qk gs=[]∧gs=[])∨(QD gs= .sl 902 0 gs.length∧Qk gs=[(902,.row 2 (gs.flatMap Grd.ds) true)]∧gs≠[]):=by
  by_cases e:gs=[]
  ·exact .inl ⟨by rw[e];rfl,by rw[e];rfl,e⟩
  ·exact .inr ⟨(Uc e).1,(Uc e).2,e⟩
 have tD:List.take (ds.length*7) (ds.flatMap Der.ds)=ds.flatMap Der.ds:=Ba (Nat.le_of_eq (So Der.ds_len _))
 have tG:List.take (gs.length*2) (gs.flatMap Grd.ds)=gs.flatMap Grd.ds:=Ba (Nat.le_of_eq (So (k:=2) (fun _=>rfl) _))
 unfold VH;by_cases e:s={ data:= #[] }
 ·have eb:=UQ s;rw[KQ,if_pos (by rw[e];rfl)]at h1
  subst h1;subst e;unfold PA;rcases hD with⟨d1,d2,d3⟩|⟨d1,d2,d3⟩<;>rcases hG with⟨g1,g2,g3⟩|⟨g1,g2,g3⟩
  all_goals
   simp only[d1,d2,g1,g2,List.nil_append,List.append_nil,List.singleton_append];simp -implicitDefEqProofs[jJ,-qA,-qB,eb];refine⟨?_,?_⟩
   ·first|(rw[d3];rfl)|(rw[tD];rfl)
   ·first|(rw[g3];rfl)|(rw[tG];rfl)
 ·have eb:=U7 e;have hB:B s≠[]:=fun h=>e (by rw[←O9 s,h];rfl)
  have kc:=Ph s { data:= #[10] } (by omega) (by decide)
  unfold N7 at kc;rw[show B { data:= #[10] }=[10] from rfl]at kc
  have j1:=P8 (s:=B s) (sep:=[10]);cases hc:(Lib.cut (B s) [10]).2.2 with
  |false=>
   rw[KQ,if_neg hB,dif_neg (by rw[hc];simp)]at h1
   rw[hc]at kc
   subst h1;unfold PA;generalize Ch (Lib.cut (B s) [10]).1=C1 at*;generalize Ch (Lib.cut (B s) [10]).2.1=C2 at*;rcases hD with⟨d1,d2,d3⟩|⟨d1,d2,d3⟩<;>rcases hG with⟨g1,g2,g3⟩|⟨g1,g2,g3⟩
   all_goals
    simp only[d1,d2,g1,g2,List.nil_append,List.append_nil,List.singleton_append];simp -implicitDefEqProofs[jJ,-qA,-qB,eb]
    (first|refine Ac kc ?_|refine Ae kc ?_)
    simp -implicitDefEqProofs[jJ,-qA,-qB];exact⟨rfl,rfl⟩
  |true=>
   rw[hc]at kc
   have j2:=congrArg List.length (j1 hc);rw[List.length_append,List.length_append,Hg]at j2;simp only[List.length_cons,List.length_nil]at j2;have hcc:Lib.cut (B s) [10]=((Lib.cut (B s) [10]).1,(Lib.cut (B s) [10]).2.1,true):=by rw[←hc]
   rw[jnl hok hB hcc (by omega) (by omega)]at h1
   clear j1 hc hcc;generalize (Lib.cut (B s) [10]).1=p1 at*;generalize (Lib.cut (B s) [10]).2.1=p2 at*;have z1:(Ch p1).size≤20000:=by rw[Ja];omega
   have z2:(Ch p2).size+1≤s.size:=by rw[Ja];omega
   obtain⟨y,kg,hy⟩:=jn3 ns hok hN hn (Ch p1) z1
   rw[Mw]at kg hy
   obtain⟨yk,ya⟩:=y
   simp only[Grd.ds,List.map_cons,List.map_nil]at kg;cases hg:NF ns p1 with
   |some g=>
    rw[hg]at h1 kg
    have hy:=hy g hg;subst hy;simp only[Option.isSome_some]at h1 kg;have hinv:Vn ns R (Ch p2,ds,gs++[⟨yk,ya⟩],n+1):=⟨h1,by simp only;omega,by simp only[List.length_append,List.length_singleton];omega⟩
    have hne:gs++[(⟨yk,ya⟩:Grd)]≠[]:=by simp
    have el:(gs++[(⟨yk,ya⟩:Grd)]).length=gs.length+1:=by simp
    have ef:(gs++[(⟨yk,ya⟩:Grd)]).flatMap Grd.ds=gs.flatMap Grd.ds++[.int .i64 yk,AT ya]:=by simp[Grd.ds]
    have hq1:=(Uc hne).1;have hq2:=(Uc hne).2;rw[el]at hq1;rw[ef]at hq2;generalize Ch p1=C1 at*;rcases hD with⟨d1,d2,d3⟩|⟨d1,d2,d3⟩<;>rcases hG with⟨g1,g2,g3⟩|⟨g1,g2,g3⟩
    all_goals
     simp only[d1,d2,g1,g2,List.nil_append,List.append_nil,List.singleton_append];simp -implicitDefEqProofs[jJ,-qA,-qB,eb]
     (first|refine Ac kc ?_|refine Ae kc ?_)
     simp -implicitDefEqProofs[jJ,-qA,-qB]
     (first|refine Ac kg ?_|refine Ae kg ?_)
     simp -implicitDefEqProofs[jJ,-qA,-qB,tG]
     first
     |exact⟨by omega,Ch p2,ds,gs++[⟨yk,ya⟩],n+1,⟨⟨rfl,rfl⟩,⟨d1.symm,by rw[hq1,g3];rfl⟩,by rw[d2,hq2,g3];simp[AW,lk]⟩,hinv,by omega⟩
     |exact⟨⟨by omega,by omega⟩,by omega,Ch p2,ds,gs++[⟨yk,ya⟩],n+1,⟨⟨rfl,rfl⟩,⟨d1.symm,by rw[hq1]⟩,by rw[d2,hq2];simp[AW,lk]⟩,hinv,by omega⟩
   |none=>
    rw[hg]at h1 kg
    simp only[Option.isSome_none]at h1 kg;obtain⟨x,kd,hx⟩:=jpn ns hok hN hn (Ch p1) (by rw[Ja];omega) ds.length (by omega)
    rw[Mw]at kd hx
    obtain⟨⟨k,l,ng,ab,dn⟩,r,fr⟩:=x
    simp only[Der.ds,Fct.ds,List.map_cons,List.map_nil,List.cons_append,List.nil_append]at kd;generalize Ch p1=C1 at*;cases hd:LC ns ds.length p1 with
    |none=>
     rw[hd]at h1 kd
     simp only[Option.isSome_none]at h1 kd;subst h1;unfold PA;generalize Ch p2=C2 at*;rcases hD with⟨d1,d2,d3⟩|⟨d1,d2,d3⟩<;>rcases hG with⟨g1,g2,g3⟩|⟨g1,g2,g3⟩
     all_goals
      simp only[d1,d2,g1,g2,List.nil_append,List.append_nil,List.singleton_append]
      try (rw[d3]at kd;change CallsF _ _ [_,.c (.int .i64 0),_] _ at kd)
      simp -implicitDefEqProofs[jJ,-qA,-qB,eb]
      (first|refine Ac kc ?_|refine Ae kc ?_)
      simp -implicitDefEqProofs[jJ,-qA,-qB]
      (first|refine Ac kg ?_|refine Ae kg ?_)
      simp -implicitDefEqProofs[jJ,-qA,-qB]
      (first|refine Ac kd ?_|refine Ae kd ?_)
      simp -implicitDefEqProofs[jJ,-qA,-qB];exact⟨rfl,rfl⟩
    |some x=>
     have hx:=hx x hd;rw[hd]at h1 kd;simp only[Option.isSome_some]at h1 kd;rcases hG with⟨g1,g2,g3⟩|⟨g1,g2,g3⟩
     ·rw[if_pos g3]at h1
      have hinv:Vn ns R (Ch p2,ds++[x],gs,n+1):=⟨h1,by simp only;omega,by simp only[List.length_append,List.length_singleton];omega⟩
      have hne:ds++[x]≠[]:=by simp
      have el:(ds++[x]).length=ds.length+1:=by simp
      have ef:(ds++[x]).flatMap Der.ds=ds.flatMap Der.ds++[.int .i64 k,AT l,.bool ng,Ad ab,Ad dn,.int .i64 r,AT fr]:=by simp[←hx,Der.ds,Fct.ds]
      have hq1:=(US hne).1;have hq2:=(US hne).2;rw[el]at hq1;rw[ef]at hq2;rcases hD with⟨d1,d2,d3⟩|⟨d1,d2,d3⟩
      all_goals
       simp only[d1,d2,g1,g2,List.nil_append,List.append_nil,List.singleton_append]
       try (rw[d3]at kd;change CallsF _ _ [_,.c (.int .i64 0),_] _ at kd)
       simp -implicitDefEqProofs[jJ,-qA,-qB,eb]
       (first|refine Ac kc ?_|refine Ae kc ?_)
       simp -implicitDefEqProofs[jJ,-qA,-qB]
       (first|refine Ac kg ?_|refine Ae kg ?_)
       simp -implicitDefEqProofs[jJ,-qA,-qB]
       (first|refine Ac kd ?_|refine Ae kd ?_)
       simp -implicitDefEqProofs[jJ,-qA,-qB,tD]
       first
       |exact⟨by omega,Ch p2,ds++[x],gs,n+1,⟨⟨rfl,rfl⟩,⟨by rw[hq1,d3];rfl,g1.symm⟩,by rw[g2,hq2,d3];simp[AW,lk]⟩,hinv,by omega⟩
       |exact⟨⟨by omega,by omega⟩,by omega,Ch p2,ds++[x],gs,n+1,⟨⟨rfl,rfl⟩,⟨by rw[hq1],g1.symm⟩,by rw[g2,hq2];simp[AW,lk]⟩,hinv,by omega⟩
     ·rw[if_neg g3]at h1
      subst h1;unfold PA;have g0:0<gs.length:=List.length_pos_iff.2 g3;generalize Ch p2=C2 at*;rcases hD with⟨d1,d2,d3⟩|⟨d1,d2,d3⟩
      all_goals
       simp only[d1,d2,g1,g2,List.nil_append,List.append_nil,List.singleton_append]
       try (rw[d3]at kd;change CallsF _ _ [_,.c (.int .i64 0),_] _ at kd)
       simp -implicitDefEqProofs[jJ,-qA,-qB,eb]
       (first|refine Ac kc ?_|refine Ae kc ?_)
       simp -implicitDefEqProofs[jJ,-qA,-qB]
       (first|refine Ac kg ?_|refine Ae kg ?_)
       simp -implicitDefEqProofs[jJ,-qA,-qB]
       (first|refine Ac kd ?_|refine Ae kd ?_)
       simp -implicitDefEqProofs[jJ,-qA,-qB,g0];exact⟨rfl,rfl⟩
end Go.Va
namespace Go.Va
open Go.Proofs
theorem jb4(ns:List ByteArray)(t:List UInt8):(readF ns t).1.Wide:=by
 unfold readF;simp only;split
 ·exact(YT ns (Ch t)).1
 ·exact⟨by decide,by decide,Aw 0,Aw 0,by decide⟩
theorem jlm(ns:List ByteArray)(i:Nat)(s:List UInt8):(derR ns i s).1.fact.Wide:=by
 have z:(Der.none).fact.Wide:=⟨by decide,by decide,Aw 0,Aw 0,by decide⟩
 unfold derR;split
 ·exact z
 ·split
  ·exact jb4 ns _
  ·simp only;split
   ·exact z
   ·split
    ·exact z
    ·split
     ·exact z
     ·split
      ·exact z
      ·exact jb4 ns _
theorem jlh{ns:List ByteArray}{ds:List Der}{gs:List Grd}{n:Int}{s:List UInt8}(hd: ∀x∈ds,x.fact.Wide): ∀x∈(KQ ns ds gs n s).1,x.fact.Wide:=by
 induction hk:s.length using Nat.strongRecOn generalizing ds gs n s with
 |ind k ih=>
  rw[KQ]
  split
  ·exact hd
  split
  ·rename_i h0 hc
   have hlt:=Vk (by simp) hc
   split
   ·split
    ·intro x hx;cases hx
    ·exact ih _ (by omega) hd rfl
   ·split
    ·intro x hx;cases hx
    ·exact ih _ (by omega) (fun x hx=>by
      rcases List.mem_append.1 hx with hx|hx
      ·exact hd x hx
      ·rw[List.mem_singleton.1 hx];exact jlm ns _ _) rfl
  ·intro x hx;cases hx
theorem ji1(n:Int):Md n≤20:=by
 unfold Md;split
 ·decide
 ·split
  ·decide
  ·have key: ∀k<29,(rulT ((k:Nat):Int)).count≤20:=by decide+kernel
   have e:rulT n=rulT ((n.toNat:Nat):Int):=by unfold rulT;rw[Int.toNat_natCast]
   by_cases h:n.toNat<29
   ·rw[e];exact key _ h
   ·rw[show(rulT n).count=0 by unfold rulT;rw[Nh _ (by omega)];rfl]
    decide
theorem jlv(ns:List ByteArray):DersOk ns []:=fun i x h=>by simp at h
end Go.Va
namespace Go.Va
open Int renaming natCast_add → qA, natCast_mul → qB, natCast_emod → qC, natCast_ediv → qD, natCast_pow → qE
open List renaming reduceReplicate → qF
open Go.Proofs
def Wz:List (List Nat):=(Ah [0,0,3,7,0,0,48,112,255])
@[simp]def Xu:List Seg:=[.any [] [] (Aq [[0],[5],[18,19],[20],[1],[5],[22,23],[24]]),.one]
def jeb:List (List Nat):=(Ah [0,0,3,7,0,0,48,112,255])
@[simp]def ja4:List Seg:=[.any [] [] (Aq [[0],[5],[27,28],[29],[1],[5],[31,32],[33]]),.one]
def Grd.Short(g:Grd):Prop:=g.args.length≤1000000
def cmpLL:List Int→List Int→Int
 |[],b=>0 - (b.length:Int)
 |a::x,[]=>((a::x).length:Int)
 |a::x,b::y=>if a<b then -1 else if b<a then 1 else cmpLL x y
theorem jlW{a b:List Int}{i:Nat}(ha:i<a.length)(hb:i<b.length):cmpLL (a.drop i) (b.drop i)=if a[i]<b[i] then -1 else if b[i]<a[i] then 1 else cmpLL (a.drop (i+1)) (b.drop (i+1)):=by
 rw[BQ ha,BQ hb,cmpLL]
theorem ja9{a b:List Int}{i:Nat}(ha:i≤a.length)(hb:i≤b.length)(h:i=a.length∨i=b.length):cmpLL (a.drop i) (b.drop i)=(a.length:Int) - b.length:=by
 rcases Nat.lt_or_ge i a.length with h1|h1
 ·have h2:i=b.length:=by omega
  rw[DU (by omega:b.length≤i)]
  have hl:(a.drop i).length=a.length - i:=List.length_drop
  cases hd:a.drop i with
  |nil=>rw[hd]at hl;simp at hl;omega
  |cons x l=>rw[cmpLL,←hd,hl];omega
 ·rw[DU h1,cmpLL,List.length_drop];omega
theorem jdd: ∀a b:List Int,cmpLL a b=0↔a=b
 |[],[]=>by simp[cmpLL]
 |[],b::y=>by simp[cmpLL];omega
 |a::x,[]=>by simp[cmpLL];omega
 |a::x,b::y=>by
  have:=jdd x y
  rw[cmpLL]
  split
  ·simp;omega
  ·split
   ·simp;omega
   ·rw[this];simp;omega
theorem jjP(a b:List Int)(ha:a.length≤1000000)(hb:b.length≤1000000):CallsF Tryz.prog 114 [.c (AT a),.c (AT b)] (.u (.c (.d (.int .i64 (cmpLL a b))))):=by
 refine cO Tryz.func114 rfl ?_;simp -implicitDefEqProofs[jJ,-qA,-qB];refine AV (fun i:Nat=>⟨[(5,vI .i64 i),(0,vC (.d (AT a))),(1,vC (.d (AT b)))],[]⟩) (fun i=>i≤a.length∧i≤b.length∧cmpLL (a.drop i) (b.drop i)=cmpLL a b) (fun i=>a.length - i) 0 (by simp[AW,lk,St.le,vI,vC]) ⟨by omega,by omega,rfl⟩ ?_
 rintro i ⟨h1,h2,h3⟩
 by_cases hA:i<a.length
 ·by_cases hB:i<b.length
  ·rw[jlW hA hB]at h3
   by_cases c1:a[i]<b[i]
   ·rw[if_pos c1]at h3
    rw[←h3]
    simp -implicitDefEqProofs[jJ,-qA,-qB,hA,hB];refine AA Wz Xu (by rfl) ?_
    simp -implicitDefEqProofs[jJ,-qA,-qB,hA,hB,c1,i64]
   ·rw[if_neg c1]at h3
    by_cases c2:b[i]<a[i]
    ·rw[if_pos c2]at h3
     rw[←h3]
     simp -implicitDefEqProofs[jJ,-qA,-qB,hA,hB];refine AA Wz Xu (by rfl) ?_
     simp -implicitDefEqProofs[jJ,-qA,-qB,hA,hB,c1,i64];refine AA jeb ja4 (by rfl) ?_
     simp -implicitDefEqProofs[jJ,-qA,-qB,hA,hB,c2,i64]
    ·rw[if_neg c2]at h3
     simp -implicitDefEqProofs[jJ,-qA,-qB,hA,hB];refine AA Wz Xu (by rfl) ?_
     simp -implicitDefEqProofs[jJ,-qA,-qB,hA,hB,c1,i64];refine AA jeb ja4 (by rfl) ?_
     simp -implicitDefEqProofs[jJ,-qA,-qB,hA,hB,c2,i64];exact⟨by omega,⟨by omega,by omega,h3⟩,by omega⟩
  ·rw[ja9 h1 h2 (by omega)]at h3
   simp -implicitDefEqProofs[jJ,-qA,-qB,hA,hB];omega
 ·rw[ja9 h1 h2 (by omega)]at h3
  simp -implicitDefEqProofs[jJ,-qA,-qB,hA];omega
def TX(a b:Grd):Int:=if a.kind≠b.kind then a.kind - b.kind else cmpLL a.args b.args
theorem cmpGd_zero{a b:Grd}:TX a b=0↔a=b:=by
 unfold TX;obtain⟨k,l⟩:=a;obtain⟨k',l'⟩:=b;simp only[Grd.mk.injEq];by_cases h:k=k'
 ·rw[if_neg (by simp[h]),jdd];simp[h]
 ·rw[if_pos h]
  constructor
  ·intro h2;omega
  ·intro h2;exact absurd h2.1 h
theorem jki(a b:Grd)(ha:a.Short)(hb:b.Short)(hk:a.kind=b.kind∨(-1000≤a.kind∧a.kind≤1000∧ -1000≤b.kind∧b.kind≤1000)):CallsF Tryz.prog 63 [.agg a.ds,.agg b.ds] (.u (.c (.d (.int .i64 (TX a b))))):=by
 have k:=jjP a.args b.args ha hb;unfold TX;simp only[Grd.ds];generalize cmpLL a.args b.args=r at*;refine cO Tryz.func63 rfl ?_;by_cases h:a.kind=b.kind
 ·simp -implicitDefEqProofs[jJ,-qA,-qB,h]
  (first|refine Ac k ?_|refine Ae k ?_)
  simp -implicitDefEqProofs[jJ,-qA,-qB]
 ·have hk: -1000≤a.kind∧a.kind≤1000∧ -1000≤b.kind∧b.kind≤1000:=by rcases hk with hk|hk;exact absurd hk h;exact hk
  simp -implicitDefEqProofs[jJ,-qA,-qB,h];omega
theorem jkK(a:List Grd)(ha: ∀g∈a,g.Short)(hal:a.length≤1099511627776):CallsF Tryz.prog 26 [.c (Dd a),.c (Dd a)] (.u (.c (.d (.bool true)))):=by
 have k: ∀i (h1:i<a.length),CallsF Tryz.prog 63 [.agg a[i].ds,.agg a[i].ds] (.u (.c (.d (.int .i64 0)))):=fun i h1=>by
  have:=jki _ _ (ha _ (AZ h1)) (ha _ (AZ h1)) (.inl rfl)
  rwa [cmpGd_zero.2 rfl]at this
 have hfl:(a.flatMap Grd.ds).length=a.length*2:=So (k:=2) (fun _=>rfl) a
 simp only[Grd.ds]at k;clear ha;unfold Dd;refine cO Tryz.func26 rfl ?_;simp -implicitDefEqProofs[jJ,-qA,-qB];refine AV (fun i:Nat=>⟨[(5,vI .i64 i),(0,vC (.d (.slice a.length (a.flatMap Grd.ds)))),(1,vC (.d (.slice a.length (a.flatMap Grd.ds))))],[]⟩) (fun i=>i≤a.length) (fun i=>a.length - i) 0 (by simp[AW,lk,St.le,vI,vC]) (by omega) ?_
 rintro i hi
 by_cases h:i<a.length
 ·have ea:(((a.flatMap Grd.ds).map C.d).drop (i*2)).take 2=[.d (.int .i64 a[i].kind),.d (AT a[i].args)]:=by
   rw[←List.map_drop,←List.map_take,Ic (k:=2) (fun _=>rfl) a i h];rfl
  have h2:2≤a.length*2 - i*2:=by omega
  have k:=k i h;simp -implicitDefEqProofs[jJ,-qA,-qB,h,hfl];refine AA (Ah [0,0,3,7,0,0,48,112,255,511]) [.any [] [] (Aq [[0],[5],[17,18],[19],[1],[5],[21,22],[23]]),.one,.one] (by rfl) ?_
  simp -implicitDefEqProofs[jJ,-qA,-qB,h,hfl];refine⟨h2,?_⟩;simp -implicitDefEqProofs[jJ,-qA,-qB,ea]
  (first|refine Ac k ?_|refine Ae k ?_)
  simp -implicitDefEqProofs[jJ,-qA,-qB];omega
 ·simp -implicitDefEqProofs[jJ,-qA,-qB,h]
theorem jm4(f:Fct)(hf:f.Wide)(nf:f.kind=9→CV f.neg f.abs f.den=true):CallsF Tryz.prog 64 [.agg f.ds,.agg f.ds] (.u (.c (.d (.int .i64 0)))):=by
 obtain⟨k,a,n,m,d⟩:=f
 obtain⟨la,ld,oa,od,ln⟩:=hf
 simp only[Fct.ds]at*;refine cO Tryz.func64 rfl ?_;simp -implicitDefEqProofs[jJ,-qA,-qB];refine AV (fun i:Nat=>⟨[(5,vI .i64 i),(2,vC (.ptr 2 0)),(3,vC (.ptr 3 0))],[(3,.box [.d (.int .i64 k),.d (AT a),.d (.bool n),.d (Ad m),.d (Ad d)]),(2,.box [.d (.int .i64 k),.d (AT a),.d (.bool n),.d (Ad m),.d (Ad d)])]⟩) (fun i=>i≤a.length) (fun i=>a.length - i) 0 (by simp[AW,lk,St.le,vI,vC]) (by omega) ?_
 rintro i hi
 by_cases h:i<a.length
 ·simp -implicitDefEqProofs[jJ,-qA,-qB,h];refine AA (Ah [0,1,0,7,15,0,32,0,224,480,1023]) [.any [] [] (Aq [[2],[30],[5],[31,32],[33],[3],[35],[5],[36,37],[38]]),.one] (by rfl) ?_
  simp -implicitDefEqProofs[jJ,-qA,-qB,h,i64];exact⟨by omega,by omega,by omega⟩
 ·by_cases h9:k=9
  ·obtain⟨p1,p2,p3,p4,p5⟩:=Cz (nf h9) oa od
   have l1:(limbs (val m)).length≤300:=by rw[←p1];exact la
   have l2:(limbs (val d)).length≤300:=by rw[←p2];exact ld
   have r:=jmY n n (val m) (val d) (val m) (val d) l1 l2 p3 p4 l1 l2 p3 p4;rw[←p1,←p2,(jmP _ _).2 rfl]at r;simp -implicitDefEqProofs[jJ,-qA,-qB,h,h9]
   (first|refine Ac r ?_|refine Ae r ?_)
   simp -implicitDefEqProofs[jJ,-qA,-qB,h9]
  ·simp -implicitDefEqProofs[jJ,-qA,-qB,h,h9]
theorem jl2(f:Fct)(hf:f.Wide)(nf:f.kind=9→CV f.neg f.abs f.den=true):CallsF Tryz.prog 27 [.agg f.ds,.agg f.ds] (.u (.c (.d (.bool true)))):=by
 have k:=jm4 f hf nf;clear hf nf;simp only[Fct.ds]at*;refine cO Tryz.func27 rfl ?_;simp -implicitDefEqProofs[jJ,-qA,-qB]
 (first|refine Ac k ?_|refine Ae k ?_)
 simp -implicitDefEqProofs[jJ,-qA,-qB]
theorem jiM(ds:List Der)(gs:List Grd)(hm: ∀x∈ds,x.fact.Wide∧(x.fact.kind=9→CV x.fact.neg x.fact.abs x.fact.den=true)∧x.frm.length≤1000)(hg: ∀g∈gs,g.Short)(hdl:ds.length≤100000)(hgl:gs.length≤100000):
  CallsF Tryz.prog 9 [.agg [Dh ds,Dd gs],.agg [Dh ds,Dd gs]] (.u (.c (.d (.bool true)))):=by
 have kg:=jkK gs hg (by omega)
 have hfl:(ds.flatMap Der.ds).length=ds.length*7:=So Der.ds_len ds
 generalize Dd gs=G at*;unfold Dh;refine cO Tryz.func9 rfl ?_;simp -implicitDefEqProofs[jJ,-qA,-qB]
 (first|refine Ac kg ?_|refine Ae kg ?_)
 simp -implicitDefEqProofs[jJ,-qA,-qB];refine AV (fun i:Nat=>⟨[(5,vI .i64 i),(2,vC (.ptr 2 0)),(3,vC (.ptr 3 0))],[(3,.box [.d (.slice ds.length (ds.flatMap Der.ds)),.d G]),(2,.box [.d (.slice ds.length (ds.flatMap Der.ds)),.d G])]⟩) (fun i=>i≤ds.length) (fun i=>ds.length - i) 0 (by simp[AW,lk,St.le,vI,vC]) (by omega) ?_
 rintro i hi
 by_cases h:i<ds.length
 ·have ea:=Kp ds i h;have h7:7≤ds.length*7 - i*7:=by omega
  obtain⟨x1,x2,x3⟩:=hm _ (AZ h)
  have kq:=jl2 ds[i].fact x1 x2;simp only[Fct.ds]at kq;simp -implicitDefEqProofs[jJ,-qA,-qB,h,hfl];refine AA (Ah [0,1,0,7,15,0,32,0,224,480,0,0,3103,8191]) [.any [] [6,7] [⟨0,[2],[6,7],[6,7],[]⟩,⟨0,[31],[6,7],[6,7],[]⟩,⟨0,[5],[6,7],[6,7],[]⟩,⟨0,[32,33],[6,7],[6,7],[]⟩,⟨0,[34],[6,7],[6,7],[]⟩,⟨0,[3],[6,7],[6,7],[]⟩,⟨0,[36],[6,7],[6,7],[]⟩,⟨0,[5],[6,7],[6,7],[]⟩,⟨0,[37,38],[6,7],[6,7],[]⟩,⟨0,[39],[6,7],[6,7],[]⟩,⟨1,[],[7],[7],[]⟩,⟨1,[],[6],[6],[]⟩,⟨2,[6,35],[],[],[6]⟩],.one] (by rfl) ?_
  have hmin:min 7 (ds.length*7 - i*7)=7:=by omega
  generalize ds[i]=x at*;obtain⟨⟨k,a,n,m,d⟩,r,fr⟩:=x;simp only at ea kq x3;simp -implicitDefEqProofs[jJ,-qA,-qB,h,hfl,ea,h7,hmin]
  (first|refine Ac kq ?_|refine Ae kq ?_)
  have hlen:lenC (.d (AT fr))=some fr.length:=rfl
  simp -implicitDefEqProofs[jJ,-qA,-qB,hlen];refine AV (fun j:Nat=>⟨[(8,vI .i64 j),(5,vI .i64 i),(2,vC (.ptr 2 0)),(3,vC (.ptr 3 0)),(6,vC (.ptr 6 0)),(7,vC (.ptr 7 0))],
   [(7,.box [.d (.int .i64 k),.d (AT a),.d (.bool n),.d (Ad m),.d (Ad d),.d (.int .i64 r),.d (AT fr)]),(6,.box [.d (.int .i64 k),.d (AT a),.d (.bool n),.d (Ad m),.d (Ad d),.d (.int .i64 r),.d (AT fr)]),
   (3,.box [.d (.slice ds.length (ds.flatMap Der.ds)),.d G]),(2,.box [.d (.slice ds.length (ds.flatMap Der.ds)),.d G])]⟩) (fun j=>j≤fr.length) (fun j=>fr.length - j) 0 (by simp[AW,lk,St.le,vI,vC]) (by omega) ?_
  rintro j hj
  by_cases h':j<fr.length
  ·simp -implicitDefEqProofs[jJ,-qA,-qB,h',hlen];refine AA (Ah [0,1,0,7,15,0,32,0,224,480,1023]) [.any [] [] (Aq [[6],[70],[8],[71,72],[73],[7],[75],[8],[76,77],[78]]),.one] (by rfl) ?_
   simp -implicitDefEqProofs[jJ,-qA,-qB,h',i64];exact⟨by omega,by omega,by omega⟩
  ·simp -implicitDefEqProofs[jJ,-qA,-qB,h',hlen];exact⟨by omega,by omega,by omega⟩
 ·simp -implicitDefEqProofs[jJ,-qA,-qB,h]
def jcx:List (List Nat):=(Ah [0,0,3,7,0,0,48,112,255])
@[simp]def Y3:List Seg:=[.any [] [] (Aq [[0],[6],[59,60],[61],[0],[3],[63,64],[65]]),.one]
def okB(c:UInt8):Bool:=decide (c.toNat=36∨(48≤c.toNat∧c.toNat≤57)∨(65≤c.toNat∧c.toNat≤90)∨(97≤c.toNat∧c.toNat≤122))
def ND(ns:List ByteArray)(i:Nat):Bool:=match ns[i]? with
 |some s=>(B s).all okB&&((ns.take i).all (fun x=> !decide (x=s))&&decide (s.size≠0))
 |none=>true
def Rh(ns:List ByteArray):Bool:=(List.range ns.length).all (ND ns)
theorem jnf{c:UInt8}(h:okB c=true):Eb c=false∧HX c=false:=by
 unfold okB at h;rw[decide_eq_true_eq]at h;have n: ∀k:UInt8,¬c.toNat=k.toNat→(c==k)=false:=fun k hk=>beq_eq_false_iff_ne.2 fun q=>hk (by rw[q])
 have e: ∀k:Nat,(k=32∨k=9∨k=13∨k=10∨k=40∨k=41∨k=44)→ ¬c.toNat=k:=fun k hk=>by omega
 constructor
 ·unfold Eb;rw[n 32 (e 32 (by omega)),n 9 (e 9 (by omega)),n 13 (e 13 (by omega)),n 10 (e 10 (by omega))];rfl
 ·unfold HX;rw[n 40 (e 40 (by omega)),n 41 (e 41 (by omega)),n 44 (e 44 (by omega))];rfl
theorem jgB{ns:List ByteArray}(h:Rh ns=true):Mb ns:=by
 unfold Rh at h;rw[jzy]at h;have key: ∀(i:Nat) (hi:i<ns.length),(∀c∈B ns[i],okB c=true)∧(∀x∈ns.take i,x≠ns[i])∧ns[i].size≠0:=fun i hi=>by
  have q:=h i (List.mem_range.2 hi);unfold ND at q;rw[AD hi]at q;simp only[AR,jzy,decide_eq_true_eq,Bool.not_eq_true',decide_eq_false_iff_not]at q;exact q
 refine⟨fun s hs=> ?_,?_⟩
 ·obtain⟨i,hi,rfl⟩:=List.mem_iff_getElem.1 hs
  obtain⟨h1,_,h3⟩:=key i hi
  refine⟨fun e=>h3 (by rw[←Hg,e];rfl),fun c hc=> ?_⟩
  exact jnf (h1 c hc)
 ·refine List.pairwise_iff_getElem.2 fun i j hi hj hij=> ?_
  exact(key j hj).2.1 _ (List.mem_take_iff_getElem.2 ⟨i,by omega,rfl⟩)
theorem jlM(c:UInt8):(okB c=true∧(c.toNat=36∨(¬c.toNat=36∧ ¬c.toNat<48∧ ¬57<c.toNat)∨(¬c.toNat=36∧ ¬c.toNat<48∧57<c.toNat∧ ¬c.toNat<65∧ ¬90<c.toNat)∨
   (¬c.toNat=36∧ ¬c.toNat<48∧57<c.toNat∧ ¬c.toNat<65∧90<c.toNat∧ ¬c.toNat<97∧ ¬122<c.toNat)))∨
  (okB c=false∧((¬c.toNat=36∧c.toNat<48∧c.toNat<65∧c.toNat<97)∨(¬c.toNat=36∧ ¬c.toNat<48∧57<c.toNat∧c.toNat<65∧c.toNat<97)∨(¬c.toNat=36∧ ¬c.toNat<48∧57<c.toNat∧ ¬c.toNat<65∧90<c.toNat∧c.toNat<97)∨
   (¬c.toNat=36∧ ¬c.toNat<48∧57<c.toNat∧ ¬c.toNat<65∧90<c.toNat∧ ¬c.toNat<97∧122<c.toNat))):=by
 unfold okB;simp only[decide_eq_true_eq,decide_eq_false_iff_not];omega
theorem jgJ(ns:List ByteArray)(hN:ns.length≤60)(hS: ∀s∈ns,s.size≤30):CallsF Tryz.prog 5 [.c (A6 ns)] (.u (.c (.d (.bool (Rh ns))))):=by
 obtain⟨r,hr⟩: ∃r,r=Rh ns:=⟨_,rfl⟩
 rw[←hr]
 unfold Rh at hr;unfold A6;refine cO Tryz.func5 rfl ?_;simp -implicitDefEqProofs[jJ,-qA,-qB];refine AV (fun i:Nat=>⟨[(3,vI .i64 i),(0,vC (.d (EC D.str ns)))],[]⟩)
  (fun i=>i≤ns.length∧CB (ND ns) (List.range ns.length) i) (fun i=>ns.length - i) 0 (by simp[AW,lk,St.le,vI,vC]) ⟨by omega,HJ _ _⟩ ?_
 rintro i ⟨hi,he⟩
 by_cases h:i<ns.length
 ·have g0:ns[i]? =some ns[i]:=AD h
  have hl:i<(List.range ns.length).length:=by simpa using h
  have hs:ND ns i=true→CB (ND ns) (List.range ns.length) (i+1):=fun q=>Iu hl he (by simpa using q)
  have hn:ND ns i=false→(List.range ns.length).all (ND ns)=false:=fun q=>Is hl (by simpa using q)
  have hI:ND ns i=((B ns[i]).all okB&&((ns.take i).all (fun x=> !decide (x=ns[i]))&&decide (ns[i].size≠0))):=by unfold ND;rw[g0]
  clear he;have hz:(B ns[i]).length=ns[i].size:=Hg _;have hw3:=hS _ (AZ h);obtain⟨w,hw⟩: ∃w,w=ns[i]:=⟨_,rfl⟩;rw[←hw]at g0 hI hz hw3;have hw':ns[i]=w:=hw.symm;simp -implicitDefEqProofs[jJ,-qA,-qB,h];refine AV (fun k:Nat=>⟨[(4,vI .i64 k),(3,vI .i64 i),(0,vC (.d (EC D.str ns)))],[]⟩)
   (fun k=>k≤w.size∧CB okB (B w) k) (fun k=>w.size - k) 0 (by simp[AW,lk,St.le,vI,vC]) ⟨by omega,HJ _ _⟩ ?_
  rintro k ⟨hk,hek⟩
  by_cases h':k<w.size
  ·have gi:=SV w h';have h'':k<(B w).length:=by omega
   have ks:=fun q=>Iu h'' hek q
   have kn:=fun q=>Is h'' (p:=okB) q
   clear hek;generalize (B w)[k]=c at*;rcases jlM c with⟨q,hc⟩|⟨q,hc⟩
   ·rcases hc with hc|⟨c1,c2,c3⟩|⟨c1,c2,c3,c4,c5⟩|⟨c1,c2,c3,c4,c5,c6,c7⟩
    ·simp -implicitDefEqProofs[jJ,-qA,-qB,h,hw',h',gi,hc];exact⟨by omega,⟨by omega,ks q⟩,by omega⟩
    ·simp -implicitDefEqProofs[jJ,-qA,-qB,h,hw',h',gi,c1,c2,c3];exact⟨by omega,⟨by omega,ks q⟩,by omega⟩
    ·simp -implicitDefEqProofs[jJ,-qA,-qB,h,hw',h',gi,c1,c2,c3,c4,c5];exact⟨by omega,⟨by omega,ks q⟩,by omega⟩
    ·simp -implicitDefEqProofs[jJ,-qA,-qB,h,hw',h',gi,c1,c2,c3,c4,c5,c6,c7];exact⟨by omega,⟨by omega,ks q⟩,by omega⟩
   ·rw[hn (by rw[hI,kn q];rfl)]at hr
    subst hr;rcases hc with⟨c1,c2,c3,c4⟩|⟨c1,c2,c3,c4,c5⟩|⟨c1,c2,c3,c4,c5,c6⟩|⟨c1,c2,c3,c4,c5,c6,c7⟩
    ·simp -implicitDefEqProofs[jJ,-qA,-qB,h,hw',h',gi,c1,c2,c3,c4]
    ·simp -implicitDefEqProofs[jJ,-qA,-qB,h,hw',h',gi,c1,c2,c3,c4,c5]
    ·simp -implicitDefEqProofs[jJ,-qA,-qB,h,hw',h',gi,c1,c2,c3,c4,c5,c6]
    ·simp -implicitDefEqProofs[jJ,-qA,-qB,h,hw',h',gi,c1,c2,c3,c4,c5,c6,c7]
  ·have hk2:k=(B w).length:=by omega
   subst hk2;rw[HZ hek,Bool.true_and]at hI;simp -implicitDefEqProofs[jJ,-qA,-qB,h,hw',h',hz];refine AV (fun k:Nat=>⟨[(6,vI .i64 k),(3,vI .i64 i),(0,vC (.d (EC D.str ns)))],[]⟩)
    (fun k=>k≤i∧CB (fun x=> !decide (x=w)) (ns.take i) k) (fun k=>i - k) 0 (by simp[AW,lk,St.le,vI,vC]) ⟨by omega,HJ _ _⟩ ?_
   rintro k ⟨hk,hek⟩
   by_cases h1:k<i
   ·have hkn:k<ns.length:=by omega
    have g1:ns[k]? =some ns[k]:=AD hkn
    have h2:k<(ns.take i).length:=by rw[A8];omega
    have ks:=fun q=>Iu h2 hek q
    have kn:=fun q=>Is h2 (p:=fun x=> !decide (x=w)) q
    rw[List.getElem_take]at ks kn
    rcases MK ns[k] w with⟨e,eb⟩|⟨e,eb⟩
    ·rw[hn (by rw[hI,kn (by simp[e])];rfl)]at hr
     subst hr;simp -implicitDefEqProofs[jJ,-qA,-qB,h1];refine AA jcx Y3 (by rfl) ?_
     simp -implicitDefEqProofs[jJ,-qA,-qB,h,hkn,hw',g1,eb]
    ·simp -implicitDefEqProofs[jJ,-qA,-qB,h1];refine AA jcx Y3 (by rfl) ?_
     simp -implicitDefEqProofs[jJ,-qA,-qB,h,hkn,hw',g1,eb];exact⟨by omega,⟨by omega,ks (by simp[e])⟩,by omega⟩
   ·have hk2:k=i:=by omega
    subst hk2;have ha:(ns.take k).all (fun x=> !decide (x=w))=true:=by
     have hlk:(ns.take k).length=k:=by rw[A8];omega
     have:=HZ (l:=ns.take k) (p:=fun x=> !decide (x=w)) (by rw[hlk];exact hek)
     exact this
    rw[ha,Bool.true_and]at hI
    rcases MK w { data:= #[] } with⟨e,eb⟩|⟨e,eb⟩
    ·rw[hn (by rw[hI,e];rfl)]at hr
     subst hr;simp -implicitDefEqProofs[jJ,-qA,-qB,h,hw',eb]
    ·simp -implicitDefEqProofs[jJ,-qA,-qB,h,hw',eb];refine⟨by omega,⟨by omega,hs ?_⟩,by omega⟩
     rw[hI,decide_eq_true_eq]
     exact fun q=>e (by rw[←O9 w,jzv.1 (hz.trans q)];rfl)
 ·have hi2:i=(List.range ns.length).length:=by rw[List.length_range];omega
  subst hi2;rw[HZ he]at hr;subst hr;simp -implicitDefEqProofs[jJ,-qA,-qB]
end Go.Va
