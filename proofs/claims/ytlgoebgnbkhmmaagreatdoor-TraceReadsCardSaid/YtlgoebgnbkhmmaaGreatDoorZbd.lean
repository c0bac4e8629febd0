/- a part of the proof -/
import Derived.Test.YtlgoebgnbkhmmaaGreatDoorZbc
import Derived.Test.YtlgoebgnbkhmmaaGreatDoorZzL
import Derived.Test.YtlgoebgnbkhmmaaGreatDoorZay
set_option linter.all false
set_option maxHeartbeats 4000000
set_option maxRecDepth 100000
namespace Go.Va
open Int renaming natCast_add → qA, natCast_mul → qB, natCast_emod → qC, natCast_ediv → qD, natCast_pow → qE
open List renaming reduceReplicate → qF
open Go.Proofs
theorem YC(n:Int):CallsF Tryz.prog 90 [.c (.int .i64 n)] (.u (.c (.d (.str (Ch (Bp n)))))):=by
 have h:=jaj n;rw[Qs n]at h;exact h
theorem On{n:Int}(h: -9223372036854775808≤n∧n<9223372036854775808):CallsF Tryz.prog 46 [.c (.int .i64 n)] (.u (.c (.d (.str (Ch (A3 n)))))):=by
 rw[jaT]
 exact O3 n h.1 (by omega)
theorem Qe{a b:ByteArray}(h:a.toList=b.toList):a=b:=by
 rw[ByteArray.toList_eq,ByteArray.toList_eq]at h
 obtain⟨a⟩:=a
 obtain⟨b⟩:=b
 simp only at h;rw[Array.toList_inj.1 h]
theorem IY{a b:ByteArray}(h:a≠b):G6 .eql a b=some (vB false):=by
 show some (vB (a.toList==b.toList))=_
 rw[beq_eq_false_iff_ne.2 fun e=>h (Qe e)]
theorem Gw(a:ByteArray):G6 .eql a a=some (vB true):=by
 show some (vB (a.toList==a.toList))=_
 rw[beq_self_eq_true]
theorem Im{l:List UInt8}(h:l≠[]):Ch l≠{ data:= #[] }:=fun e=>h (by
 have:=congrArg (fun s:ByteArray=>s.data.toList) e
 simpa [Ch]using this)
theorem Xx(x:Der)(ns:List ByteArray)(hx:x.Brief)(hl:ns.length≤60)(hn: ∀s∈ns,s.size≤30):
  CallsF Tryz.prog 44 [.agg x.ds,.c (A6 ns)] (Br (lineE ns.length x) (Cc ns x)):=by
 have k1:=YC x.rule;have k2:=Oh x.fact ns hx.m hx.ln hl hn;have hpl:=JC hx.m hn hx.ln;have hnl:=JE x.rule;have hfl:=hx.lf;have hfr:=hx.fr;obtain⟨f,r,frm⟩:=x;obtain⟨F,hF⟩: ∃F,F=Ch (Cc ns ⟨f,r,frm⟩):=⟨_,rfl⟩;unfold Br lineE at*;rw[←hF];unfold Cc FD at hF;unfold A6 at*;simp only[Der.ds,Fct.ds,List.cons_append,List.nil_append]at*;clear hx;by_cases h0:Bp r=[]
 ·rw[h0]at k1
  rw[if_pos h0]
  refine cO Tryz.func44 rfl ?_;simp -implicitDefEqProofs[jJ,-qA,-qB]
  (first|refine Ac k1 ?_|refine Ae k1 ?_)
  simp -implicitDefEqProofs[jJ,-qA,-qB,Ch,Gw]
 ·rw[if_neg h0]
  have h0':=IY (Im h0);generalize wrong f (ns.length:Int)=e at*;have hps:=Ja (Bd f ns);by_cases he:e=0
  ·subst he;rw[if_pos rfl]at k2;have hn2:=Ja (Bp r);generalize hP:Ch (Bd f ns)=P at*;generalize hNm:Ch (Bp r)=Nm at*;by_cases hr:r=0
   ·subst hr;refine cO Tryz.func44 rfl ?_;simp -implicitDefEqProofs[jJ,-qA,-qB]
    (first|refine Ac k1 ?_|refine Ae k1 ?_)
    simp -implicitDefEqProofs[jJ,-qA,-qB,h0']
    (first|refine Ac k2 ?_|refine Ae k2 ?_)
    rw[if_pos rfl,←Ng,hP,show Ch [32,103,105,118,101,110]={ data:= #[32,103,105,118,101,110] } from rfl]at hF
    have hsg:({ data:= #[32,103,105,118,101,110] }:ByteArray).size=6:=rfl
    simp -implicitDefEqProofs[jJ,-qA,-qB,G6,hsg,hF];omega
   ·rw[if_neg hr]at hF
    have hF2:F=P++{ data:= #[32,98,121,32] }++Nm++{ data:= #[32,102,114,111,109,32] }++Ch (Bc (frm.map A3)):=by
     rw[hF,←hP,←hNm,show({ data:= #[32,98,121,32] }:ByteArray)=Ch [32,98,121,32] from rfl,show({ data:= #[32,102,114,111,109,32] }:ByteArray)=Ch [32,102,114,111,109,32] from rfl,
      Ng,Ng,Ng,Ng]
     simp
    clear hF;have hs4:({ data:= #[32,98,121,32] }:ByteArray).size=4:=rfl;have hs6:({ data:= #[32,102,114,111,109,32] }:ByteArray).size=6:=rfl;refine cO Tryz.func44 rfl ?_;simp -implicitDefEqProofs[jJ,-qA,-qB]
    (first|refine Ac k1 ?_|refine Ae k1 ?_)
    simp -implicitDefEqProofs[jJ,-qA,-qB,h0']
    (first|refine Ac k2 ?_|refine Ae k2 ?_)
    simp -implicitDefEqProofs[jJ,-qA,-qB,hr];refine⟨⟨by omega,by omega⟩,?_⟩
    refine CE [(35,47)] (fun i:Nat=>⟨[(39,vI .i64 i),(38,vI .i64 frm.length),(37,vC (.d (AT frm))),(9,vC (.sl 35 0 i)),(7,vC (.d (.str P))),(6,vC (.d (.str Nm)))],
     [(35,.row 1 (strsD (mapTo (fun a=>Ch (A3 a)) frm i)) true)]⟩)
     (fun i=>i≤frm.length) (fun i=>frm.length - i) 0 (by simp[AW,lk,St.le,vI,vC,CA,strsD]) (by omega) ?_
    intro i hi;have hlen:=DC (fun a=>Ch (A3 a)) hi
    have hSM:=HR (mapTo (fun a=>Ch (A3 a)) frm i)
    rw[hlen]at hSM
    by_cases h:i<frm.length
    ·have g0:frm[i]? =some frm[i]:=AD h
     have ki:=On (hfr _ (AZ h));have e1:=D9 (fun a=>Ch (A3 a)) h
     have e2:=Hq (mapTo (fun a=>Ch (A3 a)) frm i) (Ch (A3 frm[i]))
     rw[←e1]at e2
     simp -implicitDefEqProofs[jJ,-qA,-qB,h,g0,i64]
     (first|refine Ac ki ?_|refine Ae ki ?_)
     simp -implicitDefEqProofs[jJ,-qA,-qB,hSM];exact⟨⟨by omega,by omega⟩,by omega,i+1,⟨rfl,e2.symm⟩,by omega,by omega⟩
    ·have hi2:i=frm.length:=by omega
     subst hi2;have hd:=PS hfr;have kj:=G4 (mapTo (fun a=>Ch (A3 a)) frm frm.length) (by omega) (fun s hs=>by
      unfold mapTo at hs;obtain⟨a,ha,rfl⟩:=jzk.1 hs;rw[Ja];have:=hd _ (jzk.2 ⟨a,List.mem_of_mem_take ha,rfl⟩);omega)
     have hmap:(mapTo (fun a=>Ch (A3 a)) frm frm.length).map B=frm.map A3:=by
      rw[Eo,List.map_map]
      rfl
     have hc:=Dn _ hd;rw[List.length_map,←Ja]at hc;rw[hmap,hlen]at kj;generalize mapTo (fun a=>Ch (A3 a)) frm frm.length=M at*
     generalize strsD M=SM at*;generalize Ch (Bc (frm.map A3))=C at*;have hS3:SM.take frm.length=SM:=Ba (by omega)
     simp -implicitDefEqProofs[jJ,-qA,-qB,G6,hs4,hs6,hSM,hS3];refine⟨by omega,by omega,by omega,?_⟩
     (first|refine Ac kj ?_|refine Ae kj ?_)
     simp -implicitDefEqProofs[jJ,-qA,-qB,G6,hs4,hs6,hF2];omega
  ·rw[if_neg he]at k2
   refine cO Tryz.func44 rfl ?_;simp -implicitDefEqProofs[jJ,-qA,-qB]
   (first|refine Ac k1 ?_|refine Ae k1 ?_)
   simp -implicitDefEqProofs[jJ,-qA,-qB,h0']
   (first|refine Ac k2 ?_|refine Ae k2 ?_)
   simp -implicitDefEqProofs[jJ,-qA,-qB,he];rfl
def In(k:Int):Int:=if k=1 then 2 else if k=2 then 3 else if k=3 then 4 else 0
theorem TC(k:Int):CallsF Tryz.prog 17 [.c (.int .i64 k)] (.tup [.c (.d (.str (Ch (A7 k)))),.c (.d (.int .i64 (In k)))]):=by
 unfold A7 In;refine cO Tryz.func17 rfl ?_;by_cases h1:k=1
 ·subst h1;simp -implicitDefEqProofs[jJ,-qA,-qB];rfl
 by_cases h2:k=2
 ·subst h2;simp -implicitDefEqProofs[jJ,-qA,-qB];rfl
 by_cases h3:k=3
 ·subst h3;simp -implicitDefEqProofs[jJ,-qA,-qB];rfl
 simp -implicitDefEqProofs[jJ,-qA,-qB,h1,h2,h3];rfl
theorem YY(g:Grd)(ns:List ByteArray)(hg:g.args.length≤20)(hl:ns.length≤60)(hn: ∀s∈ns,s.size≤30):
  CallsF Tryz.prog 47 [.agg g.ds,.c (A6 ns)] (Br (errG ns.length g) (Bq ns g)):=by
 have k1:=TC g.kind;have hw:=JO g.kind;have hws:=Ja (A7 g.kind);obtain⟨k,l⟩:=g;obtain⟨F,hF⟩: ∃F,F=Ch (Bq ns ⟨k,l⟩):=⟨_,rfl⟩;unfold Br errG;rw[←hF];unfold Bq at hF;unfold A6;simp only[Grd.ds]at*;by_cases h0:k=1∨k=2∨k=3
 case neg=>
  have e1: ¬k=1:=fun h=>h0 (.inl h)
  have e2: ¬k=2:=fun h=>h0 (.inr (.inl h))
  have e3: ¬k=3:=fun h=>h0 (.inr (.inr h))
  have w0:A7 k=[]:=by unfold A7;rw[if_neg e1,if_neg e2,if_neg e3]
  have g0:grdN k= -1:=by unfold grdN;rw[if_neg e1,if_neg e2,if_neg e3]
  rw[w0]at k1
  rw[if_pos g0]
  refine cO Tryz.func47 rfl ?_;simp -implicitDefEqProofs[jJ,-qA,-qB]
  (first|refine Ac k1 ?_|refine Ae k1 ?_)
  simp -implicitDefEqProofs[jJ,-qA,-qB,Ch,Gw]
 have w0:A7 k≠[]:=by rcases h0 with rfl|rfl|rfl<;>decide
 have n0:In k=grdN k∧2≤grdN k∧grdN k≤4:=by rcases h0 with rfl|rfl|rfl<;>decide
 obtain⟨n0,n1,n2⟩:=n0
 rw[n0]at k1
 have h0':=IY (Im w0);have q1:grdN k≠ -1:=by omega
 rw[if_neg q1]
 obtain⟨an,han⟩: ∃an,an=l.any (Di ns.length):=⟨_,rfl⟩
 rw[←han]
 clear q1;generalize grdN k=m at*;have hF2:F=Ch (A7 k)++{ data:= #[40] }++Ch (Bc (l.map (AN ns)))++{ data:= #[41] }:=by
  rw[hF,show({ data:= #[40] }:ByteArray)=Ch [40] from rfl,show({ data:= #[41] }:ByteArray)=Ch [41] from rfl,Ng,Ng,Ng]
 clear hF;generalize Ch (A7 k)=Wd at*;have hs1:({ data:= #[40] }:ByteArray).size=1:=rfl;have hs2:({ data:= #[41] }:ByteArray).size=1:=rfl;by_cases hm:(l.length:Int)=m
 case neg=>
  rw[if_pos hm]
  refine cO Tryz.func47 rfl ?_;simp -implicitDefEqProofs[jJ,-qA,-qB]
  (first|refine Ac k1 ?_|refine Ae k1 ?_)
  simp -implicitDefEqProofs[jJ,-qA,-qB,h0',hm];rfl
 subst hm;have q2: ¬((l.length:Int)≠l.length):=fun h=>h rfl
 rw[if_neg q2]
 refine cO Tryz.func47 rfl ?_;simp -implicitDefEqProofs[jJ,-qA,-qB]
 (first|refine Ac k1 ?_|refine Ae k1 ?_)
 simp -implicitDefEqProofs[jJ,-qA,-qB,h0'];refine⟨⟨by omega,by omega⟩,?_⟩
 refine CE [(25,47)] (fun i:Nat=>⟨[(29,vI .i64 i),(28,vI .i64 l.length),(27,vC (.d (AT l))),(8,vC (.sl 25 0 i)),(6,vC (.d (.str Wd))),(1,vC (.d (EC D.str ns)))],
  [(25,.row 1 (strsD (mapTo (A2 ns) l i)) true)]⟩)
  (fun i=>i≤l.length∧FE ns.length l i) (fun i=>l.length - i) 0 (by simp[AW,lk,St.le,vI,vC,CA,strsD]) ⟨by omega,jim _ _⟩ ?_
 rintro i ⟨hi,hno⟩
 have hlen:=DC (A2 ns) hi;have hSM:=HR (mapTo (A2 ns) l i);rw[hlen]at hSM;by_cases h:i<l.length
 ·have g0:l[i]? =some l[i]:=AD h
  by_cases h5:l[i]<0
  ·have ha:an=true:=han.trans (Rw h (.inl h5))
   simp -implicitDefEqProofs[jJ,-qA,-qB,h,g0,i64,h5,ha];rfl
  ·by_cases h6:(ns.length:Int)≤l[i]
   ·have ha:an=true:=han.trans (Rw h (.inr h6))
    simp -implicitDefEqProofs[jJ,-qA,-qB,h,g0,i64,h5,h6,ha];rfl
   ·have g1:=Gi (ns:=ns) (a:=l[i]) (by omega) (by omega)
    have e1:=D9 (A2 ns) h;have e2:=Hq (mapTo (A2 ns) l i) (A2 ns l[i]);rw[←e1]at e2;have hns:=jbJ h hno h5 h6;simp -implicitDefEqProofs[jJ,-qA,-qB,h,g0,i64,h5,h6,g1,hSM];exact⟨⟨by omega,by omega⟩,⟨by omega,by omega⟩,by omega,i+1,⟨rfl,e2.symm⟩,⟨by omega,hns⟩,by omega⟩
 ·have hi2:i=l.length:=by omega
  subst hi2;have ha:an=false:=han.trans (jfJ hno);have kj:=G4 (mapTo (A2 ns) l l.length) (by omega) (fun s hs=>by
   unfold mapTo at hs;obtain⟨a,_,rfl⟩:=jzk.1 hs;have:=Hc hn a;omega)
  have hmap:(mapTo (A2 ns) l l.length).map B=l.map (AN ns):=by
   rw[Eo,List.map_map]
   rfl
  have hc:=Dn (k:=30) (l.map (AN ns)) fun x hx=>by
   obtain⟨a,_,rfl⟩:=jzk.1 hx
   exact Er hn a
  rw[List.length_map,←Ja]at hc
  rw[hmap,hlen]at kj
  generalize mapTo (A2 ns) l l.length=M at*;generalize strsD M=SM at*;generalize Ch (Bc (l.map (AN ns)))=C at*;have hS3:SM.take l.length=SM:=Ba (by omega)
  simp -implicitDefEqProofs[jJ,-qA,-qB,G6,hs1,hs2,hSM,hS3];refine⟨by omega,?_⟩
  (first|refine Ac kj ?_|refine Ae kj ?_)
  simp -implicitDefEqProofs[jJ,-qA,-qB,G6,hs1,hs2,hF2,ha];omega
end Go.Va
namespace Go.Va
open Go.RowKit
variable [Gv]
def KE(k:Nat):List U→List (Nat×V)
 |[]=>[]
 |u::r=>(k,.u u)::KE (k+1) r
def St.initH(us:List U)(h:List (Nat×Blk)):St:={ t:=KE 0 us,h:=h }
def St.clean(ids:List Nat)(st:St):St:={ st.on (B1 ids)with h:=Ds (fun i=> !ids.contains i) (st.on (B1 ids)).h }
def Cv:Nat:=3000000000000
def St.initG(us:List U)(gs:List C)(h:List (Nat×Blk)):St:=St.initH us (h++[(Cv,.gh gs)])
def C.dat:C→C
 | .nl=> .d (.slice 0 [])
 |c=>c
def Blk.dat:Blk→Blk
 | .box cs=> .box (cs.map C.dat)
 |b=>b
def St.fin(fz:Option (List Nat))(st:St):St:=match fz with
 |none=>st
 |some ids=>{ st.freeze ids with h:=(st.freeze ids).h.map fun e=>(e.1,e.2.dat) }
def Lc(T:AH)(rs:List ResultVar)(gs':List C)(h':List (Nat×Blk))(v:V)(e:Exit)(st:St):Prop:=
 (e= .ret∨e= .normal)∧ ∃(r1:List (Nat×Nat)) (fz:Option (List Nat)) (gs0:List C),lk Cv ((rns r1 st).fin fz).h=some (.gh gs0)∧gs'=gs0.map (C.on (B1 (h'.map (·.1))))∧let s:=((rns r1 st).fin fz).clean (h'.map (·.1));(s.res T rs=some v∨ ∃v0,((rns r1 st).fin fz).res T rs=some v0∧v=v0.on (B1 (h'.map (·.1))))∧AW s.h h'
section
variable {P:Program} {T:AH} {M Z:Addr→Prop} {w0 w:World} {ρ:AE} {st:St} {a:Act}
theorem Nv(ρ:AE)(w:World)(Z:Addr→Prop)(ids:List Nat):Cf ρ (Bj ids ρ) w w Z (B1 ids):=by
 intro c v h;have hk:Keep w w (Ar ρ Z) (Ar (Bj ids ρ) Z):=Keep.mono fun ad ho=>ho.imp id fun⟨i,o,hi,ho⟩=>⟨i,o,(A9 hi).2,ho⟩
 have key: ∀i,c.id? =some i→ids.contains i=true→RepC (Bj ids ρ) w Z c v:=fun i hi hm=>RepC.keep hk (fun k hk'=>by rw[hi]at hk';cases hk';exact D5 (by simpa using hm)) h
 cases c with
 |d x=>exact RepC.keep hk (fun _ h=>by cases h) h
 |nl=>exact h
 |bad=>exact h
 |sl i off n=>
  simp only[C.on,B1];split
  ·rename_i hm;exact key i rfl hm
  ·exact RepC.one h
 |ptr i off=>
  simp only[C.on,B1];split
  ·rename_i hm;exact key i rfl hm
  ·exact RepC.one h
 |mp q i=>
  simp only[C.on,B1];split
  ·rename_i hm;exact key i rfl hm
  ·exact RepC.one h
theorem Rel.clean(h:Rel M Z w0 ρ st a w)(ids:List Nat):Rel M Z w0 (Bj ids ρ) (st.clean ids) a w where
 fr:=h.fr
 heap:=⟨⟨fun j o hj=>h.heap.owns.cells j o (A9 hj).2,fun j j' o o' hj hj'=>h.heap.owns.apart j j' o o' (A9 hj).2 (A9 hj').2,fun j o hj=>h.heap.owns.lim j o (A9 hj).2⟩,fun j b hb=>by
  simp only[St.clean]at hb;rw[FZ]at hb;split at hb
  ·cases hb
  ·rename_i hj
   simp only[St.on]at hb;rw[BN,jze]at hb;obtain⟨b0,hb0,rfl⟩:=hb;obtain⟨o,ho,hr⟩:=h.heap.rep j b0 hb0;exact⟨o,(D5 (by simpa using hj)).trans ho,hr.turn (Nv ρ w Z ids) (Keep.mono fun ad ho=>ho.imp id fun⟨i,o,hi,ho⟩=>⟨i,o,(A9 hi).2,ho⟩) (fun _ _ _=>rfl) (fun _ _ _ h=>h)⟩⟩
 mine:=fun j o ad hj=>h.mine j o ad (A9 hj).2
 out:=h.out
 mz:=h.mz
 tmps:=fun t v hv=>by
  simp only[St.clean,St.on]at hv;rw[BN,jze]at hv;obtain⟨v0,hv0,rfl⟩:=hv;exact(h.tmps t v0 hv0).turn (Nv ρ w Z ids)
 defers:=h.defers
 mps:=h.mps.sub fun j o hj _=>(A9 hj).2
theorem RepC.dat{c:C}{v:Value}(h:RepC ρ w Z c v):RepC ρ w Z c.dat v:=by
 cases c with
 |nl=>cases (show v=_ from h);exact .snil
 |_=>exact h
theorem Rel.fin(h:Rel M Z w0 ρ st a w)(fz:Option (List Nat)): ∃ρ',Rel M Z w0 ρ' (st.fin fz) a w:=by
 cases fz with
 |none=>exact⟨ρ,h⟩
 |some ids=>
  have k:=h.freeze ids;refine⟨_,k.fr,⟨k.heap.owns,fun i b hb=> ?_⟩,k.mine,k.out,k.mz,k.tmps,k.defers,k.mps⟩
  simp only[St.fin]at hb;rw[BN,jze]at hb;obtain⟨b0,hb0,rfl⟩:=hb;obtain⟨o,ho,hr⟩:=k.heap.rep i b0 hb0;refine⟨o,ho,?_⟩;cases b0 with
  |box cs=>
   obtain⟨q1,q2,q3,q4⟩:=hr
   refine⟨q1,by rw[List.length_map];exact q2,q3,fun j c hc=> ?_⟩
   rw[Bf,jze]at hc
   obtain⟨c0,hc0,rfl⟩:=hc
   obtain⟨v,h1,h2,h3⟩:=q4 j c0 hc0
   exact⟨v,h1,h2,h3.dat⟩
  |_=>exact hr
theorem Nc: ∀(us:List U) (k t:Nat) (v:V),lk t (KE k us)=some v→k≤t∧ ∃u,us[t - k]? =some u∧v= .u u
 |[],_,_,_,h=>by cases h
 |c::cs,k,t,v,h=>by
  simp only[KE,lk]at h;split at h
  ·rename_i e;subst e;cases h;exact⟨AO _,c,by simp,rfl⟩
  ·obtain⟨h1,c',h2,h3⟩:=Nc cs (k+1) t v h
   exact⟨by omega,c',by rw[show t - k=t - (k+1)+1 by omega];simpa using h2,h3⟩
theorem Z3(r0:List (Nat×Nat))(hT:A5 P T)(hm:P.follows .mixedOrders=true){f:FuncId}{fn:Func}{c:Code}{us:List U}{gs gs':List C}{h h':List (Nat×Blk)}{v:V}(hf:P.funcs[f]? =some fn)(hb:fn.body=some c)
  (hname : (fn.name == "runtime.NumGoroutine") = false) (hn : us.length ≤ fn.ntmps) (hys : fn.ntmps ≤ YS) (hok : B6 fn.ntmps [] c = true) (hG : lk Cv h = none) (hng : ∀ i cs, lk i h ≠ some (.gh cs)) (hng' : ∀ i cs, lk i h' ≠ some (.gh cs))
  (hw:Bl P T c (rns r0 (St.initG us gs h)) (Lc T fn.results.toList gs' h' v)):GJ P f us gs gs' h h' v:=by
 refine⟨⟨fn,hf,by rw[hb];rfl,hname⟩,fun {G1} w Z ρ0 vals hZ hh hcz hl0 hvals=> ?_⟩
 have hlen:vals.length=us.length:=hvals.1.symm
 refine calls_of_wp hf hb ?_;generalize htm:(vals.toArray++Array.replicate (fn.ntmps - vals.toArray.size) undef)=tm;have hsz:tm.size=fn.ntmps:=by rw[←htm];simp;omega
 have hgv: ∀t,t<vals.length→tm.getD t undef=vals.getD t undef:=fun t ht=>by
  rw[←htm,Cn,Array.getElem?_append_left (by simp;omega)]
  simp
 have hG0:ρ0 Cv=none:=by
  cases hq:ρ0 Cv with
  |none=>rfl
  |some o=>have:=hl0 _ _ hq;rw[hG]at this;cases this
 have hmp0:Mps ρ0 w:=Heap.mps hh hl0
 let og:Own:={ g:=0,o:=0,sz:=0,room:=0,app:=false,nil:=true }
 let ρG:AE:=upd ρ0 Cv (some og)
 have hhas: ∀ad,¬og.has ad:=fun ad hh=>by cases hh.1
 have hgs1: ∀i o,ρG i=some o→(∃ad,o.has ad)→ρ0 i=some o:=fun i o hi ⟨ad,ha⟩=>by
  by_cases e:i=Cv
  ·subst e;simp only[ρG,BZ]at hi;cases hi;exact(hhas ad ha).elim
  ·simpa only[ρG,BG _ _ e]using hi
 have hmono: ∀i o,ρ0 i=some o→ρG i=some o:=fun i o hi=>by
  by_cases e:i=Cv
  ·subst e;rw[hG0]at hi;cases hi
  ·exact(BG _ _ e).trans hi
 have hout: ∀ad,Ar ρG Z ad→Ar ρ0 Z ad:=fun ad ho=>ho.imp id fun⟨i,o,hi,ho⟩=>⟨i,o,hgs1 i o hi ⟨ad,ho⟩,ho⟩
 have hcells: ∀ad,Cells ρG ad→Cells ρ0 ad:=fun ad ⟨i,o,hi,ho⟩=>⟨i,o,hgs1 i o hi ⟨ad,ho⟩,ho⟩
 have hC: ∀(c:C) (y:Value),RepC ρ0 w Z c y→RepC ρG w Z c y:=fun c y hr=>by
  cases c with
  |d x=>exact RepD.keep (Keep.mono hout) hr
  |nl=>exact hr
  |bad=>exact hr
  |sl i off n=>obtain⟨o,ho,r⟩:=hr;exact⟨o,hmono i o ho,r⟩
  |ptr i off=>obtain⟨o,ho,r⟩:=hr;exact⟨o,hmono i o ho,r⟩
  |mp q i=>obtain⟨o,ho,r⟩:=hr;exact⟨o,hmono i o ho,r⟩
 have hU: ∀(u:U) (y:Value),RepU ρ0 w Z u y→RepU ρG w Z u y:=fun u y hr=>by
  cases u with
  |c x=>exact hC x y hr
  |agg cs=>obtain⟨vs,hv,hl,hr⟩:=hr;exact⟨vs,hv,hl,fun j x v hx hv=>hC x v (hr j x v hx hv)⟩
  |clo f cs=>obtain⟨vs,hv,hl,hr⟩:=hr;exact⟨vs,hv,hl,fun j x v hx hv=>hC x v (hr j x v hx hv)⟩
 have hmpG:Mps ρG w:=fun i o hi hm=>by
  by_cases e:i=Cv
  ·subst e;simp only[ρG,BZ]at hi;cases hi;cases hm.2
  ·simp only[ρG,BG _ _ e]at hi;exact hmp0 i o hi hm
 obtain⟨hho,hhr⟩:=hh
 let G2:Gv:=⟨fun j y=> ∃x,gs[j]? =some x∧RepC ρ0 w Z x y⟩
 have hheapG: @Heap G2 ρG w Z (h++[(Cv,.gh gs)]):=⟨⟨fun i o hi hg j hj=>by
   by_cases e:i=Cv
   ·subst e;simp only[ρG,BZ]at hi;cases hi;cases hg
   ·simp only[ρG,BG _ _ e]at hi;exact hho.cells i o hi hg j hj,
  fun i i' o o' hi hi' hne ad ho ho'=>hho.apart i i' o o' (hgs1 i o hi ⟨ad,ho⟩) (hgs1 i' o' hi' ⟨ad,ho'⟩) hne ad ho ho',
  fun i o hi=>by
   by_cases e:i=Cv
   ·subst e;simp only[ρG,BZ]at hi;cases hi;exact Nat.zero_le _
   ·simp only[ρG,BG _ _ e]at hi;exact hho.lim i o hi⟩,fun i b hb=>by
  rw[HQ]at hb
  cases hl:lk i h with
  |some b2=>
   rw[hl]at hb
   have hb:b2=b:=Bi hb
   subst hb;obtain⟨o,ho,hr⟩:=hhr i _ hl;refine⟨o,hmono i o ho,?_⟩;cases b2 with
   |row sz cs app=>obtain⟨q1,q2,q3,q4,q5⟩:=hr;exact⟨q1,q2,q3,q4,fun j x hx=>by obtain⟨v,hv,hd⟩:=q5 j x hx;exact⟨v,hv,hd.keep (Keep.mono hout)⟩⟩
   |box cs=>obtain⟨q1,q2,q3,q4⟩:=hr;exact⟨q1,q2,q3,fun j x hx=>by obtain⟨v,hv,h1,hd⟩:=q4 j x hx;exact⟨v,hv,h1,hC _ _ hd⟩⟩
   |fbox f cs=>obtain⟨q1,q2,q3,v,hv,vs,hvs,hl,hd⟩:=hr;exact⟨q1,q2,q3,v,hv,vs,hvs,hl,fun j x u hx hu=>hC _ _ (hd j x u hx hu)⟩
   |mp x=>exact hr
   |gh cs=>exact absurd hl (hng i cs)
  |none=>
   rw[hl]at hb
   simp only[Option.none_or,lk]at hb;split at hb
   ·rename_i e
    subst e;cases hb;exact⟨og,BZ _ _ _,rfl,⟨rfl,rfl⟩,fun j x hx y ⟨x',hx',hr⟩=>by rw[hx]at hx';cases hx';exact hC _ _ hr⟩
   ·cases hb⟩
 have hrel: @Rel G2 (Cells ρ0) Z w ρG (St.initG us gs h) { tmps:=tm,defers:=[] } w:=
  {fr:=⟨rfl,DR.refl _,rfl,rfl,AO _,fun a v _ h=>h,fun _ _ _=>rfl,fun _ _ _=>rfl⟩
   heap:=hheapG
   mine:=fun i o ad hi ho=> .inl (hcells ad ⟨i,o,hi,ho⟩)
   out:=hZ
   mz:=hcz
   tmps:=fun t v hv=>by
    obtain⟨_,u,hu,rfl⟩:=Nc us 0 t v hv
    simp only[Nat.sub_zero]at hu;have ht:t<vals.length:=by rw[hlen];exact(jzg.1 hu).1
    rw[hgv t ht]
    exact hU _ _ (hvals.2 t u _ hu (by simp[ht]))
   defers:=rfl
   mps:=hmpG }
 have htr: ∀x r,lk YS (rns r0 (St.initG us gs h)).t≠some (.tr x r):=fun x r hx=>by
  have hx:=TrLe.rns r0 (s:=St.initG us gs h) _ _ hx;obtain⟨_,_,_,he⟩:=Nc us 0 YS _ hx;cases he
 obtain⟨ρi,hrel1⟩:=Rel.rns r0 hrel
 have hc:=Dr (P:=P) (T:=T) (X:=⟨Cells ρ0,Z,w,fn.ntmps,[],fun k=>tm.getD k undef,none,fun _=>False,fun _=>False⟩) hT (fun Y' h=>by cases h) hm c (Lc T fn.results.toList gs' h' v) _ w hok
  ⟨_,_,_,_,_,⟨fun k hk=>rfl,fun _=>⟨rfl,rfl,rfl⟩,hrel.fr.mono fun _ h=> .inl h,fun _ h=>h,fun _ h=> .inl h,fun x r hx=>absurd hx (htr x r)⟩,hrel1,hsz,hw⟩
 refine hc.mono' fun e a' w' hg=> ?_
 obtain⟨M1,Z1,w1,ρ1,st,hL,h1,h2,hend,r1,fz,gs0,hgh,rfl,hres,hhp⟩:=hg
 obtain⟨rfl,rfl,rfl⟩:=hL.plain rfl
 obtain⟨ρ2,h30⟩:=Rel.rns r1 h1
 obtain⟨ρ,h3⟩:=h30.fin fz
 have h4:=Rel.clean h3 (h'.map (·.1));obtain⟨x,hx,hrx⟩: ∃x,(results fn a'.tmps).run P w'= .ok x w'∧RepV (Bj (h'.map (·.1)) ρ) w' Z1 v x:=by
  rcases hres with hres|⟨v0,hres,rfl⟩
  ·exact GT (P:=P) hT h4 hres
  ·obtain⟨x,hx,hrx⟩:=GT (P:=P) hT h3 hres
   exact⟨x,hx,hrx.turn (Nv ρ w' Z1 _)⟩
 have hpost: ∃ρ',Fr (Cells ρ0) w1 w'∧ @Heap G1 ρ' w' Z1 h'∧(∀i o,ρ' i=some o→(lk i h').isSome=true)∧(∀ad,Cells ρ' ad→Cells ρ0 ad∨w1.heap.size≤ad.block)∧
   (∀(j:Nat) (c c':C),gs[j]? =some c→(gs0.map (C.on (B1 (h'.map (·.1)))))[j]? =some c'→ ∀y,RepC ρ0 w1 Z1 c y→RepC ρ' w' Z1 c' y)∧RepV ρ' w' Z1 v x:=by
  refine⟨Bj (h'.map (·.1)) ρ,h4.fr,@Heap.mk G1 _ _ _ _ h4.heap.owns fun i b hb=> ?_,fun i o hi=>UN (A9 hi).1,fun ad ⟨i,o,hi,ho⟩=>h4.mine i o ad hi ho,fun j c c' hc hc' y hy=> ?_,hrx⟩
  ·obtain⟨o,ho,hr⟩:=h4.heap.rep i b (IN hhp i b hb)
   refine⟨o,ho,?_⟩
   cases b with
   |gh cs=>exact absurd hb (hng' i cs)
   |_=>exact hr
  ·rw[Bf,jze]at hc'
   obtain⟨c0,hc0,rfl⟩:=hc'
   obtain⟨o,ho,_,_,hr⟩:=h3.heap.rep _ _ hgh
   exact Nv ρ w' Z1 _ _ _ (hr j c0 hc0 y ⟨c,hc,hy⟩)
 rcases hend with rfl|rfl
 ·exact⟨h1.defers,x,hx,x,rfl,hpost⟩
 ·exact⟨h1.defers,x,hx,x,rfl,hpost⟩
end
end Go.Va
namespace Go.Va
open Go.Proofs Go.RowKit
theorem jbA(s:ByteArray)(n:Int)(hl:s.size≤18)(h:Lib.atoi s.data.toList=some n)(w:World):
  Calls Tryz.prog 103 #[.string s] w fun e w'=> ∃vs:List Value,e= .returned (.tuple vs.toArray)∧Below w.heap.size w w'∧vs=[.int .i64 n,.nilIface]:=by
 refine(Any.strconv_Atoi Tryz.laysAt s n hl h w).mono ?_
 rintro e w' ⟨rfl,t,rfl⟩
 exact⟨[.int .i64 n,.nilIface],rfl,YO w _ t,rfl⟩
theorem TD(s:ByteArray)(n:Int)(hl:s.size≤18)(h:Lib.atoi s.data.toList=some n):
  CallsF Tryz.prog 103 [.c (.str s)] (.tup ([D.int .i64 n,D.lit .nilIface].map fun d=> .c (.d d))):=by
 refine Jv (D8 Tryz.func103 rfl (by decide)) fun w Z vals hZ hvs=> ?_
 obtain⟨v,rfl,hv⟩:=OK hvs
 clear hvs;cases hv;refine(jbA s n hl h w).mono ?_;rintro e w' ⟨vs,rfl,hb,rfl⟩;refine⟨_,rfl,hb,rfl,fun j x v hx hv=> ?_⟩
 match j,hx,hv with
 |0,hx,hv=>cases hx;cases hv;exact .int _ _
 |1,hx,hv=>cases hx;cases hv;exact .lit _ rfl
end Go.Va
