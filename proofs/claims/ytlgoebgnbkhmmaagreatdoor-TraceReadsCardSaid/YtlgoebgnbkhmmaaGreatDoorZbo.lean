/- a part of the proof -/
import Derived.Test.YtlgoebgnbkhmmaaGreatDoorZbc
import Derived.Test.YtlgoebgnbkhmmaaGreatDoorZbn
import Derived.Test.YtlgoebgnbkhmmaaGreatDoorZbd
import Derived.Test.YtlgoebgnbkhmmaaGreatDoorZaw
set_option linter.all false
set_option maxHeartbeats 1500000
set_option maxRecDepth 10000
namespace Go.Va
open Int renaming natCast_add → qA, natCast_mul → qB, natCast_emod → qC, natCast_ediv → qD, natCast_pow → qE
open List renaming reduceReplicate → qF
open Go.Proofs
theorem jlK(k:Int)(hk:arity k≠0):CallsF Tryz.prog 187 [.c (.int .i64 k)] (.u (.c (.d (.str (Ch (By k)))))):=by
 unfold By;refine cO Tryz.func187 rfl ?_;by_cases h1:k=1
 ·subst h1;simp -implicitDefEqProofs[jJ,-qA,-qB];rfl
 by_cases h2:k=2
 ·subst h2;simp -implicitDefEqProofs[jJ,-qA,-qB];rfl
 by_cases h3:k=3
 ·subst h3;simp -implicitDefEqProofs[jJ,-qA,-qB];rfl
 by_cases h4:k=4
 ·subst h4;simp -implicitDefEqProofs[jJ,-qA,-qB];rfl
 by_cases h5:k=5
 ·subst h5;simp -implicitDefEqProofs[jJ,-qA,-qB];rfl
 by_cases h6:k=6
 ·subst h6;simp -implicitDefEqProofs[jJ,-qA,-qB];rfl
 by_cases h7:k=7
 ·subst h7;simp -implicitDefEqProofs[jJ,-qA,-qB];rfl
 by_cases h8:k=8
 ·subst h8;simp -implicitDefEqProofs[jJ,-qA,-qB];rfl
 by_cases h9:k=9
 ·subst h9;simp -implicitDefEqProofs[jJ,-qA,-qB];rfl
 exact absurd (by simp[arity,h1,h2,h3,h4,h5,h6,h7,h8,h9]) hk
theorem jg6{f:Fct}{n:Int}(h:wrong f n=0):f.args.length=arity f.kind:=by
 unfold wrong at h;by_cases h1:arity f.kind=0
 ·rw[if_pos h1]at h;cases h
 rw[if_neg h1]at h
 by_cases h2:f.args.length≠arity f.kind
 ·rw[if_pos h2]at h;cases h
 simpa using h2
def EM(w:List UInt8)(l:List (List UInt8)):List UInt8:=w++Bc l
theorem SL(w:List UInt8):EM w []=w:=by simp[EM,Bc,Lib.join_nil]
theorem WQ(w x:List UInt8):Ch (EM w [x])=Ch w++Ch x:=by
 rw[Ng]
 have:=Mj [] x
 simp only[List.nil_append,if_pos]at this;unfold EM;rw[this]
theorem Ux(w:List UInt8){l:List (List UInt8)}(x:List UInt8)(h:l≠[]):Ch (EM w (l++[x]))=Ch (EM w l)++{ data:= #[44,32] }++Ch x:=by
 rw[show({ data:= #[44,32] }:ByteArray)=Ch [44,32] from rfl,Ng,Ng]
 unfold EM;rw[Mj,if_neg h];simp
theorem Wg{w:List UInt8}{l:List (List UInt8)}{k:Nat}(h: ∀x∈l,x.length≤k):(Ch (EM w l)).size≤w.length+l.length*(k+2):=by
 have:=Dn l h
 rw[Ja]
 unfold EM;rw[List.length_append];omega
theorem Yn{α β:Type}(f:α→β){l:List α}{i:Nat}(h:i≤l.length)(h0:i≠0):mapTo f l i≠[]:=fun e=>by
 have:=DC f h
 rw[e]at this
 exact h0 this.symm
theorem UZ(ns:List ByteArray)(a:Int):Ch (AN ns a)=A2 ns a:=rfl
theorem jn8(f:Fct)(ns:List ByteArray)(hm:f.Wide)(hl:ns.length≤60)(hn: ∀s∈ns,s.size≤30):
  CallsF Tryz.prog 112 [.agg f.ds,.c (A6 ns)] (Br (wrong f ns.length) (Bd f ns)):=by
 have k1:=jll f ⟨hm.oa,hm.od,by have:=hm.la;omega,by have:=hm.ld;omega⟩ ns.length
 have hw:=IB f.kind;obtain⟨kind,args,neg,abs,den⟩:=f;unfold Br;obtain⟨F,hF⟩: ∃F,F=Ch (Bd ⟨kind,args,neg,abs,den⟩ ns):=⟨_,rfl⟩;rw[←hF];unfold Bd DQ at hF;unfold A6;simp only at*;have wl:=fun h=>jg6 (f:=⟨kind,args,neg,abs,den⟩) (n:=(ns.length:Int)) h
 obtain⟨e,he⟩: ∃e,e=wrong ⟨kind,args,neg,abs,den⟩ (ns.length:Int):=⟨_,rfl⟩
 rw[←he]at k1 wl ⊢
 refine cO Tryz.func112 rfl ?_;simp -implicitDefEqProofs[jJ,-qA,-qB]
 (first|refine Ac k1 ?_|refine Ae k1 ?_)
 by_cases h0:e=0
 ·subst h0;obtain⟨z1,z2,z3⟩:=Pf he.symm;simp only at z1 z2 z3;have wl:=wl rfl;simp only at wl;have hal:args.length≤20:=by have:=Yf kind;omega
  have k2:=jlK kind z1;have hws:=Ja (By kind);have hs1:({ data:= #[40] }:ByteArray).size=1:=rfl;have hs2:({ data:= #[41] }:ByteArray).size=1:=rfl;have hs3:({ data:= #[44,32] }:ByteArray).size=2:=rfl;have hres:Ch (By kind)++{ data:= #[40] }=Ch (EM (By kind++[40]) []):=by
   rw[SL,show({ data:= #[40] }:ByteArray)=Ch [40] from rfl,Ng]
  have hx: ∀i,∀x∈mapTo (AN ns) args i,x.length≤100:=fun i x hx=>by
   unfold mapTo at hx;obtain⟨a,_,rfl⟩:=jzk.1 hx;have:=Er hn a;omega
  have hwl:(By kind++[40]).length≤21:=by rw[List.length_append];simp only[List.length_singleton];omega
  generalize hWK:By kind++[40]=WK at*;simp -implicitDefEqProofs[jJ,-qA,-qB]
  (first|refine Ac k2 ?_|refine Ae k2 ?_)
  simp -implicitDefEqProofs[jJ,-qA,-qB,G6,hs1,hres];refine⟨by omega,?_⟩
  refine CE [] (fun i:Nat=>⟨[(24,vI .i64 i),(23,vI .i64 args.length),(22,vC (.d (AT args))),(7,vC (.d (.str (Ch (EM WK (mapTo (AN ns) args i)))))),(2,vC (.ptr 2 0)),(1,vC (.d (EC D.str ns)))],
   [(2,.box [.d (.int .i64 kind),.d (AT args),.d (.bool neg),.d (Ad abs),.d (Ad den)])]⟩)
   (fun i=>i≤args.length) (fun i=>args.length - i) 0 (by simp[AW,lk,St.le,vI,vC,CA]) (by omega) ?_
  intro i hi;have hlen:=DC (AN ns) hi;have hsz:=Wg (w:=WK) (hx i);rw[hlen]at hsz;by_cases h:i<args.length
  ·have g0:args[i]? =some args[i]:=AD h
   obtain⟨r0,r1⟩:=z2 _ (AZ h)
   have g1:=Gi r0 r1;have e1:=D9 (AN ns) h;have hns:=Hc hn args[i];have hmu:i*102≤2040:=by omega
   by_cases hi0:i=0
   ·subst hi0;have e2:=WQ WK (AN ns args[0]);rw[CA,List.nil_append]at e1;rw[←e1,UZ]at e2;rw[CA,SL]at hsz ⊢;simp -implicitDefEqProofs[jJ,-qA,-qB,h,g0,i64,g1,G6,hs3];exact⟨⟨r0,r1⟩,by omega,1,⟨rfl,e2.symm⟩,by omega,by omega⟩
   ·have e2:=Ux WK (AN ns args[i]) (Yn (AN ns) hi hi0);rw[←e1,UZ]at e2;have hip:0<i:=by omega
    generalize Ch (EM WK (mapTo (AN ns) args i))=S at*;simp -implicitDefEqProofs[jJ,-qA,-qB,h,hip,g0,i64,g1,G6,hs3];exact⟨by omega,⟨r0,r1⟩,by omega,by omega,i+1,⟨rfl,e2.symm⟩,by omega,by omega⟩
  ·have hi2:i=args.length:=by omega
   subst hi2;rw[Eo]at*;by_cases h9:kind=9
   ·subst h9;obtain⟨ea,ed,d0,hg,hng⟩:=Cz (z3 rfl) hm.oa hm.od;have kt:=jgK neg (val abs) (val den) (by rw[←ea];exact hm.la) (by rw[←ed];exact hm.ld) d0 hg
    rw[←ea,←ed]at kt
    have hi:intW neg (val abs)++(if val den=1 then [] else 47::Lib.decDigits (val den))=BL neg (val abs) (val den):=by
     unfold BL intW;cases neg with
     |false=>simp
     |true=>simp[hng rfl]
    rw[hi]at kt
    have hrl:=jaA (neg:=neg) hm.oa hm.od hm.la hm.ld;rw[←Ja]at hrl;have hne:args.map (AN ns)≠[]:=fun e=>by
     have:=congrArg List.length e
     rw[List.length_map,wl]at this
     cases this
    have hF2:F=Ch (EM WK (args.map (AN ns)++[BL neg (val abs) (val den)]))++{ data:= #[41] }:=by
     rw[hF,if_pos rfl,show({ data:= #[41] }:ByteArray)=Ch [41] from rfl,Ng]
     rfl
    rw[Ux WK _ hne,ByteArray.append_assoc]at hF2
    generalize Ch (BL neg (val abs) (val den))=R at*;generalize Ch (EM WK (args.map (AN ns)))=S at*;simp -implicitDefEqProofs[jJ,-qA,-qB]
    (first|refine Ac kt ?_|refine Ae kt ?_)
    simp -implicitDefEqProofs[jJ,-qA,-qB,G6,hs2,hs3,hF2,ByteArray.size_append];refine⟨by omega,by omega,by omega,?_⟩
    simp only[ByteArray.append_assoc]
   ·rw[if_neg h9,List.append_nil]at hF
    have hF2:F=Ch (EM WK (args.map (AN ns)))++{ data:= #[41] }:=by
     rw[hF,show({ data:= #[41] }:ByteArray)=Ch [41] from rfl,Ng]
     rfl
    generalize Ch (EM WK (args.map (AN ns)))=S at*;simp -implicitDefEqProofs[jJ,-qA,-qB,h9,G6,hs2,hF2];omega
 ·simp -implicitDefEqProofs[jJ,-qA,-qB,h0];rfl
theorem jdy(k:Int):CallsF Tryz.prog 58 [.c (.int .i64 k)] (.tup [.c (.d (.str (Ch (A7 k)))),.c (.d (.int .i64 (if k=1 then 2 else if k=2 then 3 else if k=3 then 4 else -1)))]):=by
 unfold A7;refine cO Tryz.func58 rfl ?_;by_cases h1:k=1
 ·subst h1;simp -implicitDefEqProofs[jJ,-qA,-qB];rfl
 by_cases h2:k=2
 ·subst h2;simp -implicitDefEqProofs[jJ,-qA,-qB];rfl
 by_cases h3:k=3
 ·subst h3;simp -implicitDefEqProofs[jJ,-qA,-qB];rfl
 simp -implicitDefEqProofs[jJ,-qA,-qB,h1,h2,h3];rfl
theorem jbL(n:Int):CallsF Tryz.prog 109 [.c (.int .i64 n)] (.u (.c (.d (.str (Ch (Bp n)))))):=jny n
theorem jgT(l:List UInt8):Ch l++{ data:= #[41] }=Ch (l++[41]):=by
 rw[show({ data:= #[41] }:ByteArray)=Ch [41] from rfl,Ng]
theorem jmI(l:List UInt8):Ch l++{ data:= #[40] }=Ch (l++[40]):=by
 rw[show({ data:= #[40] }:ByteArray)=Ch [40] from rfl,Ng]
theorem joz(l:List UInt8):{ data:= #[105,102,32] }++Ch l=Ch ([105,102,32]++l):=by
 rw[show({ data:= #[105,102,32] }:ByteArray)=Ch [105,102,32] from rfl,Ng]
theorem joq(g:Grd)(ns:List ByteArray)(hl:ns.length≤60)(hn: ∀s∈ns,s.size≤30):
  CallsF Tryz.prog 59 [.agg g.ds,.c (A6 ns)] (Br (errG ns.length g) ([105,102,32]++Bq ns g)):=by
 have k1:=jdy g.kind;have hw:=JO g.kind;obtain⟨k,l⟩:=g;obtain⟨F,hF⟩: ∃F,F=Ch ([105,102,32]++Bq ns ⟨k,l⟩):=⟨_,rfl⟩;unfold Br errG;rw[←hF];unfold Bq at hF;unfold A6;simp only[Grd.ds]at*
 change CallsF _ _ _ (.tup [_,.c (.d (.int .i64 (grdN k)))])at k1
 by_cases h0:k=1∨k=2∨k=3
 case neg=>
  have e1: ¬k=1:=fun h=>h0 (.inl h)
  have e2: ¬k=2:=fun h=>h0 (.inr (.inl h))
  have e3: ¬k=3:=fun h=>h0 (.inr (.inr h))
  have g0:grdN k= -1:=by unfold grdN;rw[if_neg e1,if_neg e2,if_neg e3]
  rw[if_pos g0]
  rw[g0]at k1
  generalize Ch (A7 k)=Wd at*;refine cO Tryz.func59 rfl ?_;simp -implicitDefEqProofs[jJ,-qA,-qB]
  (first|refine Ac k1 ?_|refine Ae k1 ?_)
  simp -implicitDefEqProofs[jJ,-qA,-qB];rfl
 have n0:2≤grdN k∧grdN k≤4:=by rcases h0 with rfl|rfl|rfl<;>decide
 obtain⟨n1,n2⟩:=n0
 have q1:grdN k≠ -1:=by omega
 rw[if_neg q1]
 obtain⟨an,han⟩: ∃an,an=l.any (Di ns.length):=⟨_,rfl⟩
 rw[←han]
 clear q1;generalize grdN k=m at*;have hws:=Ja (A7 k);have hW1:=joz (A7 k);have hW2:=jmI ([105,102,32]++A7 k);have hWl:([105,102,32]++A7 k++[40]).length≤24:=by simp;omega
 have hWl2:=Ja ([105,102,32]++A7 k);have hWl3:([105,102,32]++A7 k).length≤23:=by simp;omega
 have hF2:F=Ch (EM ([105,102,32]++A7 k++[40]) (l.map (AN ns)))++{ data:= #[41] }:=by
  rw[hF,jgT]
  unfold EM;simp
 clear hF;generalize [105,102,32]++A7 k++[40]=WK at*;generalize Ch ([105,102,32]++A7 k)=Wi at*;generalize Ch (A7 k)=Wd at*;have hs0:({ data:= #[105,102,32] }:ByteArray).size=3:=rfl;have hs1:({ data:= #[40] }:ByteArray).size=1:=rfl;have hs2:({ data:= #[41] }:ByteArray).size=1:=rfl;have hs3:({ data:= #[44,32] }:ByteArray).size=2:=rfl;have q3: ¬m<0:=by omega
 by_cases hm:(l.length:Int)=m
 case neg=>
  rw[if_pos hm]
  refine cO Tryz.func59 rfl ?_;simp -implicitDefEqProofs[jJ,-qA,-qB]
  (first|refine Ac k1 ?_|refine Ae k1 ?_)
  simp -implicitDefEqProofs[jJ,-qA,-qB,q3,hm];rfl
 subst hm;have q2: ¬((l.length:Int)≠l.length):=fun h=>h rfl
 rw[if_neg q2]
 have hx: ∀i,∀x∈mapTo (AN ns) l i,x.length≤100:=fun i x hx=>by
  unfold mapTo at hx;obtain⟨a,_,rfl⟩:=jzk.1 hx;have:=Er hn a;omega
 refine cO Tryz.func59 rfl ?_;simp -implicitDefEqProofs[jJ,-qA,-qB]
 (first|refine Ac k1 ?_|refine Ae k1 ?_)
 simp -implicitDefEqProofs[jJ,-qA,-qB,q3,G6,hs0,hs1,hW1,hW2];refine⟨by omega,by omega,?_⟩
 refine CE [] (fun i:Nat=>⟨[(9,vI .i64 i),(7,vI .i64 l.length),(8,vC (.d (.str (Ch (EM WK (mapTo (AN ns) l i)))))),(2,vC (.ptr 2 0)),(1,vC (.d (EC D.str ns)))],
  [(2,.box [.d (.int .i64 k),.d (AT l)])]⟩)
  (fun i=>i≤l.length∧FE ns.length l i) (fun i=>l.length - i) 0 (by simp[AW,lk,St.le,vI,vC,CA,SL]) ⟨by omega,jim _ _⟩ ?_
 rintro i ⟨hi,hno⟩
 have hlen:=DC (AN ns) hi;have hsz:=Wg (w:=WK) (hx i);rw[hlen]at hsz;by_cases h:i<l.length
 ·have g0:l[i]? =some l[i]:=AD h
  by_cases h5:l[i]<0
  ·have ha:an=true:=han.trans (Rw h (.inl h5))
   simp -implicitDefEqProofs[jJ,-qA,-qB,h,g0,i64,h5,ha];rfl
  ·by_cases h6:(ns.length:Int)≤l[i]
   ·have ha:an=true:=han.trans (Rw h (.inr h6))
    simp -implicitDefEqProofs[jJ,-qA,-qB,h,g0,i64,h5,h6,ha];rfl
   ·have g1:=Gi (ns:=ns) (a:=l[i]) (by omega) (by omega)
    have e1:=D9 (AN ns) h;have hns:=jbJ h hno h5 h6;have hnm:=Hc hn l[i];by_cases hi0:i=0
    ·subst hi0;have e2:=WQ WK (AN ns l[0]);rw[CA,List.nil_append]at e1;rw[←e1,UZ]at e2;rw[CA,SL]at hsz ⊢;simp -implicitDefEqProofs[jJ,-qA,-qB,h,g0,i64,h5,h6,g1,G6,hs3];exact⟨⟨by omega,by omega⟩,by omega,1,⟨rfl,e2.symm⟩,⟨by omega,hns⟩,by omega⟩
    ·have e2:=Ux WK (AN ns l[i]) (Yn (AN ns) hi hi0);rw[←e1,UZ]at e2;have hip:0<i:=by omega
     generalize Ch (EM WK (mapTo (AN ns) l i))=S at*;simp -implicitDefEqProofs[jJ,-qA,-qB,h,hip,g0,i64,h5,h6,g1,G6,hs3];exact⟨by omega,⟨by omega,by omega⟩,by omega,by omega,i+1,⟨rfl,e2.symm⟩,⟨by omega,hns⟩,by omega⟩
 ·have hi2:i=l.length:=by omega
  subst hi2;have ha:an=false:=han.trans (jfJ hno);rw[Eo]at*;generalize Ch (EM WK (l.map (AN ns)))=S at*;simp -implicitDefEqProofs[jJ,-qA,-qB,G6,hs2,hF2,ha];omega
theorem jkz(i:Nat)(hi:i<100000)(x:Der)(ns:List ByteArray)(hm:x.fact.Wide)(hfl:x.frm.length≤20)(hfr: ∀a∈x.frm,-9223372036854775808≤a∧a<9223372036854775808)(hl:ns.length≤60)(hn: ∀s∈ns,s.size≤30):
  CallsF Tryz.prog 62 [.c (.int .i64 i),.agg x.ds,.c (A6 ns)] (Br (lineE ns.length x) (CI ns i x)):=by
 have k1:=jbL x.rule;have k2:=jn8 x.fact ns hm hl hn;have kd:=jc3 i (by omega) (by omega)
 have hdl:=DX (n:=i) (by omega) (by omega)
 have hpl:=fun h=>JC hm hn (show x.fact.args.length≤20 by rw[jg6 (n:=ns.length) h];have:=Yf x.fact.kind;omega)
 have hnl:=JE x.rule;obtain⟨f,r,frm⟩:=x;obtain⟨F,hF⟩: ∃F,F=Ch (CI ns i ⟨f,r,frm⟩):=⟨_,rfl⟩;unfold Br lineE at*;rw[←hF];unfold CI Cc FD at hF;unfold A6 at*;simp only[Der.ds,Fct.ds,List.cons_append,List.nil_append]at*;clear hm;by_cases h0:Bp r=[]
 ·rw[h0]at k1
  rw[if_pos h0]
  refine cO Tryz.func62 rfl ?_;simp -implicitDefEqProofs[jJ,-qA,-qB]
  (first|refine Ac k1 ?_|refine Ae k1 ?_)
  simp -implicitDefEqProofs[jJ,-qA,-qB,Ch,Gw]
 ·rw[if_neg h0]
  have h0':=IY (Im h0);generalize wrong f (ns.length:Int)=e at*;by_cases he:e=0
  ·subst he;rw[if_pos rfl]at k2;have hpl:=hpl rfl;have hs2:({ data:= #[46,32] }:ByteArray).size=2:=rfl;have hz1:=Ja (A3 i);have hz2:=Ja (Bd f ns);have hz3:=Ja (Bp r);by_cases hr:r=0
   ·subst hr;have hF2:F=Ch (A3 i)++{ data:= #[46,32] }++Ch (Bd f ns)++{ data:= #[32,103,105,118,101,110] }:=by
     rw[hF,if_pos rfl,show({ data:= #[46,32] }:ByteArray)=Ch [46,32] from rfl,show({ data:= #[32,103,105,118,101,110] }:ByteArray)=Ch [32,103,105,118,101,110] from rfl,Ng,Ng,Ng]
     simp
    clear hF;have hsg:({ data:= #[32,103,105,118,101,110] }:ByteArray).size=6:=rfl;generalize Ch (A3 i)=Dg at*;generalize Ch (Bd f ns)=Pw at*;generalize Ch (Bp 0)=Nm at*;refine cO Tryz.func62 rfl ?_;simp -implicitDefEqProofs[jJ,-qA,-qB]
    (first|refine Ac k1 ?_|refine Ae k1 ?_)
    simp -implicitDefEqProofs[jJ,-qA,-qB,h0']
    (first|refine Ac k2 ?_|refine Ae k2 ?_)
    simp -implicitDefEqProofs[jJ,-qA,-qB]
    (first|refine Ac kd ?_|refine Ae kd ?_)
    simp -implicitDefEqProofs[jJ,-qA,-qB,G6,hs2,hsg,hF2,ByteArray.size_append];omega
   ·rw[if_neg hr]at hF
    have hF2:F=Ch (EM (A3 i++[46,32]++Bd f ns++[32,98,121,32]++Bp r++[32,102,114,111,109,32]) (frm.map A3)):=by
     rw[hF]
     unfold EM;simp
    clear hF;have hW:Ch (A3 i)++{ data:= #[46,32] }++Ch (Bd f ns)++{ data:= #[32,98,121,32] }++Ch (Bp r)++{ data:= #[32,102,114,111,109,32] }=Ch (A3 i++[46,32]++Bd f ns++[32,98,121,32]++Bp r++[32,102,114,111,109,32]):=by
     rw[show({ data:= #[46,32] }:ByteArray)=Ch [46,32] from rfl,show({ data:= #[32,98,121,32] }:ByteArray)=Ch [32,98,121,32] from rfl,show({ data:= #[32,102,114,111,109,32] }:ByteArray)=Ch [32,102,114,111,109,32] from rfl,
      Ng,Ng,Ng,Ng,Ng]
    have hWl:(A3 i++[46,32]++Bd f ns++[32,98,121,32]++Bp r++[32,102,114,111,109,32]).length≤6000:=by
     simp only[List.length_append,List.length_cons,List.length_nil];omega
    generalize A3 i++[46,32]++Bd f ns++[32,98,121,32]++Bp r++[32,102,114,111,109,32]=WK at*;have hs4:({ data:= #[32,98,121,32] }:ByteArray).size=4:=rfl;have hs6:({ data:= #[32,102,114,111,109,32] }:ByteArray).size=6:=rfl;have hsc:({ data:= #[44,32] }:ByteArray).size=2:=rfl;generalize Ch (A3 i)=Dg at*;generalize Ch (Bd f ns)=Pw at*;generalize Ch (Bp r)=Nm at*;refine cO Tryz.func62 rfl ?_;simp -implicitDefEqProofs[jJ,-qA,-qB]
    (first|refine Ac k1 ?_|refine Ae k1 ?_)
    simp -implicitDefEqProofs[jJ,-qA,-qB,h0']
    (first|refine Ac k2 ?_|refine Ae k2 ?_)
    simp -implicitDefEqProofs[jJ,-qA,-qB]
    (first|refine Ac kd ?_|refine Ae kd ?_)
    simp -implicitDefEqProofs[jJ,-qA,-qB,G6,hs2,hr,ByteArray.size_append];refine⟨by omega,by omega,?_⟩
    refine⟨by omega,?_⟩
    (first|refine Ac k1 ?_|refine Ae k1 ?_)
    simp -implicitDefEqProofs[jJ,-qA,-qB,G6,hs2,hs4,hs6,ByteArray.size_append,hW];refine⟨by omega,by omega,?_⟩
    have hx: ∀k,∀w∈mapTo A3 frm k,w.length≤40:=fun k w hw=>by
     unfold mapTo at hw;obtain⟨a,ha,rfl⟩:=jzk.1 hw;have:=hfr a (List.mem_of_mem_take ha);exact DX this.1 this.2
    refine CE [] (fun k:Nat=>⟨[(10,vI .i64 k),(8,vC (.d (.str (Ch (EM WK (mapTo A3 frm k)))))),(4,vC (.ptr 4 0))],
     [(4,.box [.d (.int .i64 f.kind),.d (AT f.args),.d (.bool f.neg),.d (Ad f.abs),.d (Ad f.den),.d (.int .i64 r),.d (AT frm)])]⟩)
     (fun k=>k≤frm.length) (fun k=>frm.length - k) 0 (by simp[AW,lk,St.le,vI,vC,CA,SL]) (by omega) ?_
    intro k hk;have hlen:=DC A3 hk;have hsz:=Wg (w:=WK) (hx k);rw[hlen]at hsz;by_cases h:k<frm.length
    ·have g0:frm[k]? =some frm[k]:=AD h
     have hb:=hfr _ (AZ h);have ki:=jc3 frm[k] hb.1 hb.2;have hil:=DX hb.1 hb.2;rw[←Ja]at hil;have e1:=D9 A3 h;by_cases hk0:k=0
     ·subst hk0;have e2:=WQ WK (A3 frm[0]);rw[CA,List.nil_append]at e1;rw[←e1]at e2;rw[CA,SL]at hsz ⊢;generalize Ch (A3 frm[0])=Dk at*;simp -implicitDefEqProofs[jJ,-qA,-qB,h,g0,i64]
      (first|refine Ac ki ?_|refine Ae ki ?_)
      simp -implicitDefEqProofs[jJ,-qA,-qB,G6];exact⟨by omega,1,⟨rfl,e2.symm⟩,by omega,by omega⟩
     ·have e2:=Ux WK (A3 frm[k]) (Yn A3 hk hk0);rw[←e1]at e2;have hkp:0<k:=by omega
      generalize Ch (A3 frm[k])=Dk at*;generalize Ch (EM WK (mapTo A3 frm k))=S at*;simp -implicitDefEqProofs[jJ,-qA,-qB,h,hkp,g0,i64,G6,hsc];refine⟨by omega,?_⟩
      (first|refine Ac ki ?_|refine Ae ki ?_)
      simp -implicitDefEqProofs[jJ,-qA,-qB,G6,hsc,ByteArray.size_append];exact⟨by omega,by omega,k+1,⟨rfl,e2.symm⟩,by omega,by omega⟩
    ·have hk2:k=frm.length:=by omega
     subst hk2;rw[Eo]at*;simp -implicitDefEqProofs[jJ,-qA,-qB,hF2]
  ·rw[if_neg he]at k2
   refine cO Tryz.func62 rfl ?_;simp -implicitDefEqProofs[jJ,-qA,-qB]
   (first|refine Ac k1 ?_|refine Ae k1 ?_)
   simp -implicitDefEqProofs[jJ,-qA,-qB,h0']
   (first|refine Ac k2 ?_|refine Ae k2 ?_)
   simp -implicitDefEqProofs[jJ,-qA,-qB,he];rfl
end Go.Va
