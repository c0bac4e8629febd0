/- a part of the proof -/
import Derived.Test.YtpklcnmcllbbjaaGreatDoorJba
import Derived.Test.YtpklcnmcllbbjaaGreatDoorJaw
set_option linter.all false
set_option maxHeartbeats 4000000
set_option maxRecDepth 10000
namespace Go.Va
open Int renaming natCast_add → qA, natCast_mul → qB, natCast_emod → qC, natCast_ediv → qD, natCast_pow → qE
open List renaming reduceReplicate → qF
open Go.Proofs
theorem YC(n:Int):CallsF Tryz.prog 49 [.c (.int .i64 n)] (.u (.c (.d (.str (Ch (Bp n)))))):=by
 have h:=jaj n;rw[Qs n]at h;exact h
theorem On{n:Int}(h: -9223372036854775808≤n∧n<9223372036854775808):CallsF Tryz.prog 19 [.c (.int .i64 n)] (.u (.c (.d (.str (Ch (digI n)))))):=by
 rw[jaT]
 exact O3 n h.1 (by omega)
theorem Qe{a b:ByteArray}(h:a.toList=b.toList):a=b:=by
 rw[ByteArray.toList_eq,ByteArray.toList_eq]at h
 obtain⟨a⟩:=a
 obtain⟨b⟩:=b
 simp only at h;rw[Array.toList_inj.1 h]
theorem IY{a b:ByteArray}(h:a≠b):G6 .eql a b=some (vB false):=by
 show some (vB (a.toList==b.toList))=_
 rw[beq_eq_false_iff_ne.2 fun e=>h (Qe e)]
theorem Gw(a:ByteArray):G6 .eql a a=some (vB true):=by
 show some (vB (a.toList==a.toList))=_
 rw[beq_self_eq_true]
theorem Im{l:List UInt8}(h:l≠[]):Ch l≠{ data:= #[] }:=fun e=>h (by
 have:=congrArg (fun s:ByteArray=>s.data.toList) e
 simpa [Ch]using this)
theorem Xx(x:Der)(ns:List ByteArray)(hx:x.Brief)(hl:ns.length≤60)(hn: ∀s∈ns,s.size≤30):
  CallsF Tryz.prog 17 [.agg x.ds,.c (A6 ns)] (Br (lineE ns.length x) (Cc ns x)):=by
 have k1:=YC x.rule;have k2:=Oh x.fact ns hx.m hx.ln hl hn;have hpl:=JC hx.m hn hx.ln;have hnl:=JE x.rule;have hfl:=hx.lf;have hfr:=hx.fr;obtain⟨f,r,frm⟩:=x;obtain⟨F,hF⟩: ∃F,F=Ch (Cc ns ⟨f,r,frm⟩):=⟨_,rfl⟩;unfold Br lineE at*;rw[←hF];unfold Cc FD at hF;unfold A6 at*;simp only[Der.ds,Fct.ds,List.cons_append,List.nil_append]at*;clear hx;by_cases h0:Bp r=[]
 ·rw[h0]at k1
  rw[if_pos h0]
  refine cO Tryz.func17 rfl ?_;simp -implicitDefEqProofs[jJ,-qA,-qB]
  (first|refine Ac k1 ?_|refine Ae k1 ?_)
  simp -implicitDefEqProofs[jJ,-qA,-qB,Ch,Gw]
 ·rw[if_neg h0]
  have h0':=IY (Im h0);generalize wrong f (ns.length:Int)=e at*;have hps:=Ja (Bd f ns);by_cases he:e=0
  ·subst he;rw[if_pos rfl]at k2;have hn2:=Ja (Bp r);generalize hP:Ch (Bd f ns)=P at*;generalize hNm:Ch (Bp r)=Nm at*;by_cases hr:r=0
   ·subst hr;refine cO Tryz.func17 rfl ?_;simp -implicitDefEqProofs[jJ,-qA,-qB]
    (first|refine Ac k1 ?_|refine Ae k1 ?_)
    simp -implicitDefEqProofs[jJ,-qA,-qB,h0']
    (first|refine Ac k2 ?_|refine Ae k2 ?_)
    rw[if_pos rfl,←Ng,hP,show Ch [32,103,105,118,101,110]={ data:= #[32,103,105,118,101,110] } from rfl]at hF
    have hsg:({ data:= #[32,103,105,118,101,110] }:ByteArray).size=6:=rfl
    simp -implicitDefEqProofs[jJ,-qA,-qB,G6,hsg,hF];omega
   ·rw[if_neg hr]at hF
    have hF2:F=P++{ data:= #[32,98,121,32] }++Nm++{ data:= #[32,102,114,111,109,32] }++Ch (Bc (frm.map digI)):=by
     rw[hF,←hP,←hNm,show({ data:= #[32,98,121,32] }:ByteArray)=Ch [32,98,121,32] from rfl,show({ data:= #[32,102,114,111,109,32] }:ByteArray)=Ch [32,102,114,111,109,32] from rfl,
      Ng,Ng,Ng,Ng]
     simp
    clear hF;have hs4:({ data:= #[32,98,121,32] }:ByteArray).size=4:=rfl;have hs6:({ data:= #[32,102,114,111,109,32] }:ByteArray).size=6:=rfl;refine cO Tryz.func17 rfl ?_;simp -implicitDefEqProofs[jJ,-qA,-qB]
    (first|refine Ac k1 ?_|refine Ae k1 ?_)
    simp -implicitDefEqProofs[jJ,-qA,-qB,h0']
    (first|refine Ac k2 ?_|refine Ae k2 ?_)
    simp -implicitDefEqProofs[jJ,-qA,-qB,hr];refine⟨⟨by omega,by omega⟩,?_⟩
    refine CE [(35,47)] (fun i:Nat=>⟨[(39,vI .i64 i),(38,vI .i64 frm.length),(37,vC (.d (AT frm))),(9,vC (.sl 35 0 i)),(7,vC (.d (.str P))),(6,vC (.d (.str Nm)))],
     [(35,.row 1 (strsD (mapTo (fun a=>Ch (digI a)) frm i)) true)]⟩)
     (fun i=>i≤frm.length) (fun i=>frm.length - i) 0 (by simp[AW,lk,St.le,vI,vC,CA,strsD]) (by omega) ?_
    intro i hi;have hlen:=DC (fun a=>Ch (digI a)) hi
    have hSM:=HR (mapTo (fun a=>Ch (digI a)) frm i)
    rw[hlen]at hSM
    by_cases h:i<frm.length
    ·have g0:frm[i]? =some frm[i]:=AD h
     have ki:=On (hfr _ (AZ h));have e1:=D9 (fun a=>Ch (digI a)) h
     have e2:=Hq (mapTo (fun a=>Ch (digI a)) frm i) (Ch (digI frm[i]))
     rw[←e1]at e2
     simp -implicitDefEqProofs[jJ,-qA,-qB,h,g0,i64]
     (first|refine Ac ki ?_|refine Ae ki ?_)
     simp -implicitDefEqProofs[jJ,-qA,-qB,hSM];exact⟨⟨by omega,by omega⟩,by omega,i+1,⟨rfl,e2.symm⟩,by omega,by omega⟩
    ·have hi2:i=frm.length:=by omega
     subst hi2;have hd:=PS hfr;have kj:=G4 (mapTo (fun a=>Ch (digI a)) frm frm.length) (by omega) (fun s hs=>by
      unfold mapTo at hs;obtain⟨a,ha,rfl⟩:=jzk.1 hs;rw[Ja];have:=hd _ (jzk.2 ⟨a,List.mem_of_mem_take ha,rfl⟩);omega)
     have hmap:(mapTo (fun a=>Ch (digI a)) frm frm.length).map B=frm.map digI:=by
      rw[Eo,List.map_map]
      rfl
     have hc:=Dn _ hd;rw[List.length_map,←Ja]at hc;rw[hmap,hlen]at kj;generalize mapTo (fun a=>Ch (digI a)) frm frm.length=M at*
     generalize strsD M=SM at*;generalize Ch (Bc (frm.map digI))=C at*;have hS3:SM.take frm.length=SM:=Ba (by omega)
     simp -implicitDefEqProofs[jJ,-qA,-qB,G6,hs4,hs6,hSM,hS3];refine⟨by omega,by omega,by omega,?_⟩
     (first|refine Ac kj ?_|refine Ae kj ?_)
     simp -implicitDefEqProofs[jJ,-qA,-qB,G6,hs4,hs6,hF2];omega
  ·rw[if_neg he]at k2
   refine cO Tryz.func17 rfl ?_;simp -implicitDefEqProofs[jJ,-qA,-qB]
   (first|refine Ac k1 ?_|refine Ae k1 ?_)
   simp -implicitDefEqProofs[jJ,-qA,-qB,h0']
   (first|refine Ac k2 ?_|refine Ae k2 ?_)
   simp -implicitDefEqProofs[jJ,-qA,-qB,he];rfl
def In(k:Int):Int:=if k=1 then 2 else if k=2 then 3 else if k=3 then 4 else 0
theorem TC(k:Int):CallsF Tryz.prog 41 [.c (.int .i64 k)] (.tup [.c (.d (.str (Ch (A7 k)))),.c (.d (.int .i64 (In k)))]):=by
 unfold A7 In;refine cO Tryz.func41 rfl ?_;by_cases h1:k=1
 ·subst h1;simp -implicitDefEqProofs[jJ,-qA,-qB];rfl
 by_cases h2:k=2
 ·subst h2;simp -implicitDefEqProofs[jJ,-qA,-qB];rfl
 by_cases h3:k=3
 ·subst h3;simp -implicitDefEqProofs[jJ,-qA,-qB];rfl
 simp -implicitDefEqProofs[jJ,-qA,-qB,h1,h2,h3];rfl
theorem YY(g:Grd)(ns:List ByteArray)(hg:g.args.length≤20)(hl:ns.length≤60)(hn: ∀s∈ns,s.size≤30):
  CallsF Tryz.prog 20 [.agg g.ds,.c (A6 ns)] (Br (errG ns.length g) (Bq ns g)):=by
 have k1:=TC g.kind;have hw:=JO g.kind;have hws:=Ja (A7 g.kind);obtain⟨k,l⟩:=g;obtain⟨F,hF⟩: ∃F,F=Ch (Bq ns ⟨k,l⟩):=⟨_,rfl⟩;unfold Br errG;rw[←hF];unfold Bq at hF;unfold A6;simp only[Grd.ds]at*;by_cases h0:k=1∨k=2∨k=3
 case neg=>
  have e1: ¬k=1:=fun h=>h0 (.inl h)
  have e2: ¬k=2:=fun h=>h0 (.inr (.inl h))
  have e3: ¬k=3:=fun h=>h0 (.inr (.inr h))
  have w0:A7 k=[]:=by unfold A7;rw[if_neg e1,if_neg e2,if_neg e3]
  have g0:grdN k= -1:=by unfold grdN;rw[if_neg e1,if_neg e2,if_neg e3]
  rw[w0]at k1
  rw[if_pos g0]
  refine cO Tryz.func20 rfl ?_;simp -implicitDefEqProofs[jJ,-qA,-qB]
  (first|refine Ac k1 ?_|refine Ae k1 ?_)
  simp -implicitDefEqProofs[jJ,-qA,-qB,Ch,Gw]
 have w0:A7 k≠[]:=by rcases h0 with rfl|rfl|rfl<;>decide
 have n0:In k=grdN k∧2≤grdN k∧grdN k≤4:=by rcases h0 with rfl|rfl|rfl<;>decide
 obtain⟨n0,n1,n2⟩:=n0
 rw[n0]at k1
 have h0':=IY (Im w0);have q1:grdN k≠ -1:=by omega
 rw[if_neg q1]
 obtain⟨an,han⟩: ∃an,an=l.any (Di ns.length):=⟨_,rfl⟩
 rw[←han]
 clear q1;generalize grdN k=m at*;have hF2:F=Ch (A7 k)++{ data:= #[40] }++Ch (Bc (l.map (AN ns)))++{ data:= #[41] }:=by
  rw[hF,show({ data:= #[40] }:ByteArray)=Ch [40] from rfl,show({ data:= #[41] }:ByteArray)=Ch [41] from rfl,Ng,Ng,Ng]
 clear hF;generalize Ch (A7 k)=Wd at*;have hs1:({ data:= #[40] }:ByteArray).size=1:=rfl;have hs2:({ data:= #[41] }:ByteArray).size=1:=rfl;by_cases hm:(l.length:Int)=m
 case neg=>
  rw[if_pos hm]
  refine cO Tryz.func20 rfl ?_;simp -implicitDefEqProofs[jJ,-qA,-qB]
  (first|refine Ac k1 ?_|refine Ae k1 ?_)
  simp -implicitDefEqProofs[jJ,-qA,-qB,h0',hm];rfl
 subst hm;have q2: ¬((l.length:Int)≠l.length):=fun h=>h rfl
 rw[if_neg q2]
 refine cO Tryz.func20 rfl ?_;simp -implicitDefEqProofs[jJ,-qA,-qB]
 (first|refine Ac k1 ?_|refine Ae k1 ?_)
 simp -implicitDefEqProofs[jJ,-qA,-qB,h0'];refine⟨⟨by omega,by omega⟩,?_⟩
 refine CE [(25,47)] (fun i:Nat=>⟨[(29,vI .i64 i),(28,vI .i64 l.length),(27,vC (.d (AT l))),(8,vC (.sl 25 0 i)),(6,vC (.d (.str Wd))),(1,vC (.d (EC D.str ns)))],
  [(25,.row 1 (strsD (mapTo (A2 ns) l i)) true)]⟩)
  (fun i=>i≤l.length∧FE ns.length l i) (fun i=>l.length - i) 0 (by simp[AW,lk,St.le,vI,vC,CA,strsD]) ⟨by omega,jim _ _⟩ ?_
 rintro i ⟨hi,hno⟩
 have hlen:=DC (A2 ns) hi;have hSM:=HR (mapTo (A2 ns) l i);rw[hlen]at hSM;by_cases h:i<l.length
 ·have g0:l[i]? =some l[i]:=AD h
  by_cases h5:l[i]<0
  ·have ha:an=true:=han.trans (Rw h (.inl h5))
   simp -implicitDefEqProofs[jJ,-qA,-qB,h,g0,i64,h5,ha];rfl
  ·by_cases h6:(ns.length:Int)≤l[i]
   ·have ha:an=true:=han.trans (Rw h (.inr h6))
    simp -implicitDefEqProofs[jJ,-qA,-qB,h,g0,i64,h5,h6,ha];rfl
   ·have g1:=Gi (ns:=ns) (a:=l[i]) (by omega) (by omega)
    have e1:=D9 (A2 ns) h;have e2:=Hq (mapTo (A2 ns) l i) (A2 ns l[i]);rw[←e1]at e2;have hns:=jbJ h hno h5 h6;simp -implicitDefEqProofs[jJ,-qA,-qB,h,g0,i64,h5,h6,g1,hSM];exact⟨⟨by omega,by omega⟩,⟨by omega,by omega⟩,by omega,i+1,⟨rfl,e2.symm⟩,⟨by omega,hns⟩,by omega⟩
 ·have hi2:i=l.length:=by omega
  subst hi2;have ha:an=false:=han.trans (jfJ hno);have kj:=G4 (mapTo (A2 ns) l l.length) (by omega) (fun s hs=>by
   unfold mapTo at hs;obtain⟨a,_,rfl⟩:=jzk.1 hs;have:=Hc hn a;omega)
  have hmap:(mapTo (A2 ns) l l.length).map B=l.map (AN ns):=by
   rw[Eo,List.map_map]
   rfl
  have hc:=Dn (k:=30) (l.map (AN ns)) fun x hx=>by
   obtain⟨a,_,rfl⟩:=jzk.1 hx
   exact Er hn a
  rw[List.length_map,←Ja]at hc
  rw[hmap,hlen]at kj
  generalize mapTo (A2 ns) l l.length=M at*;generalize strsD M=SM at*;generalize Ch (Bc (l.map (AN ns)))=C at*;have hS3:SM.take l.length=SM:=Ba (by omega)
  simp -implicitDefEqProofs[jJ,-qA,-qB,G6,hs1,hs2,hSM,hS3];refine⟨by omega,?_⟩
  (first|refine Ac kj ?_|refine Ae kj ?_)
  simp -implicitDefEqProofs[jJ,-qA,-qB,G6,hs1,hs2,hF2,ha];omega
theorem jcO(k:Int):CallsF Tryz.prog 57 [.c (.int .i64 k)] (.tup [.c (.d (.str (Ch (A7 k)))),.c (.d (.int .i64 (if k=1 then 2 else if k=2 then 3 else if k=3 then 4 else -1)))]):=by
 unfold A7;refine cO Tryz.func57 rfl ?_;by_cases h1:k=1
 ·subst h1;simp -implicitDefEqProofs[jJ,-qA,-qB];rfl
 by_cases h2:k=2
 ·subst h2;simp -implicitDefEqProofs[jJ,-qA,-qB];rfl
 by_cases h3:k=3
 ·subst h3;simp -implicitDefEqProofs[jJ,-qA,-qB];rfl
 simp -implicitDefEqProofs[jJ,-qA,-qB,h1,h2,h3];rfl
theorem Wj(n:Int):CallsF Tryz.prog 54 [.c (.int .i64 n)] (.u (.c (.d (.str (Ch (Bp n)))))):=ZA n
theorem U5(l:List UInt8):Ch l++{ data:= #[41] }=Ch (l++[41]):=by
 rw[show({ data:= #[41] }:ByteArray)=Ch [41] from rfl,Ng]
theorem jcl(l:List UInt8):Ch l++{ data:= #[40] }=Ch (l++[40]):=by
 rw[show({ data:= #[40] }:ByteArray)=Ch [40] from rfl,Ng]
theorem Wn(l:List UInt8):Ch l++{ data:= #[10] }=Ch (l++[10]):=by
 rw[show({ data:= #[10] }:ByteArray)=Ch [10] from rfl,Ng]
theorem Md(s:ByteArray)(l:List UInt8):s++Ch l++{ data:= #[10] }=s++Ch (l++[10]):=by
 rw[ByteArray.append_assoc,Wn]
theorem UK(l:List UInt8):{ data:= #[105,102,32] }++Ch l=Ch ([105,102,32]++l):=by
 rw[show({ data:= #[105,102,32] }:ByteArray)=Ch [105,102,32] from rfl,Ng]
theorem Xu(g:Grd)(ns:List ByteArray)(hg:g.args.length≤20)(hl:ns.length≤60)(hn: ∀s∈ns,s.size≤30):
  CallsF Tryz.prog 23 [.agg g.ds,.c (A6 ns)] (Br (errG ns.length g) ([105,102,32]++Bq ns g)):=by
 have k1:=jcO g.kind;have hw:=JO g.kind;obtain⟨k,l⟩:=g;obtain⟨F,hF⟩: ∃F,F=Ch ([105,102,32]++Bq ns ⟨k,l⟩):=⟨_,rfl⟩;unfold Br errG;rw[←hF];unfold Bq at hF;unfold A6;simp only[Grd.ds]at*
 change CallsF _ _ _ (.tup [_,.c (.d (.int .i64 (grdN k)))])at k1
 by_cases h0:k=1∨k=2∨k=3
 case neg=>
  have e1: ¬k=1:=fun h=>h0 (.inl h)
  have e2: ¬k=2:=fun h=>h0 (.inr (.inl h))
  have e3: ¬k=3:=fun h=>h0 (.inr (.inr h))
  have g0:grdN k= -1:=by unfold grdN;rw[if_neg e1,if_neg e2,if_neg e3]
  rw[if_pos g0]
  rw[g0]at k1
  generalize Ch (A7 k)=Wd at*;refine cO Tryz.func23 rfl ?_;simp -implicitDefEqProofs[jJ,-qA,-qB]
  (first|refine Ac k1 ?_|refine Ae k1 ?_)
  simp -implicitDefEqProofs[jJ,-qA,-qB];rfl
 have n0:2≤grdN k∧grdN k≤4:=by rcases h0 with rfl|rfl|rfl<;>decide
 obtain⟨n1,n2⟩:=n0
 have q1:grdN k≠ -1:=by omega
 rw[if_neg q1]
 obtain⟨an,han⟩: ∃an,an=l.any (Di ns.length):=⟨_,rfl⟩
 rw[←han]
 clear q1;generalize grdN k=m at*;have hws:=Ja (A7 k);have hW1:=UK (A7 k);have hW2:=jcl ([105,102,32]++A7 k);have hWl:([105,102,32]++A7 k++[40]).length≤24:=by simp;omega
 have hWl2:=Ja ([105,102,32]++A7 k);have hWl3:([105,102,32]++A7 k).length≤23:=by simp;omega
 have hF2:F=Ch (A3 ([105,102,32]++A7 k++[40]) (l.map (AN ns)))++{ data:= #[41] }:=by
  rw[hF,U5]
  unfold A3;simp
 clear hF;generalize [105,102,32]++A7 k++[40]=WK at*;generalize Ch ([105,102,32]++A7 k)=Wi at*;generalize Ch (A7 k)=Wd at*;have hs0:({ data:= #[105,102,32] }:ByteArray).size=3:=rfl;have hs1:({ data:= #[40] }:ByteArray).size=1:=rfl;have hs2:({ data:= #[41] }:ByteArray).size=1:=rfl;have hs3:({ data:= #[44,32] }:ByteArray).size=2:=rfl;have q3: ¬m<0:=by omega
 by_cases hm:(l.length:Int)=m
 case neg=>
  rw[if_pos hm]
  refine cO Tryz.func23 rfl ?_;simp -implicitDefEqProofs[jJ,-qA,-qB]
  (first|refine Ac k1 ?_|refine Ae k1 ?_)
  simp -implicitDefEqProofs[jJ,-qA,-qB,q3,hm];rfl
 subst hm;have q2: ¬((l.length:Int)≠l.length):=fun h=>h rfl
 rw[if_neg q2]
 have hx: ∀i,∀x∈mapTo (AN ns) l i,x.length≤100:=fun i x hx=>by
  unfold mapTo at hx;obtain⟨a,_,rfl⟩:=jzk.1 hx;have:=Er hn a;omega
 refine cO Tryz.func23 rfl ?_;simp -implicitDefEqProofs[jJ,-qA,-qB]
 (first|refine Ac k1 ?_|refine Ae k1 ?_)
 simp -implicitDefEqProofs[jJ,-qA,-qB,q3,G6,hs0,hs1,hW1,hW2];refine⟨by omega,by omega,?_⟩
 refine CE [] (fun i:Nat=>⟨[(9,vI .i64 i),(7,vI .i64 l.length),(8,vC (.d (.str (Ch (A3 WK (mapTo (AN ns) l i)))))),(2,vC (.ptr 2 0)),(1,vC (.d (EC D.str ns)))],
  [(2,.box [.d (.int .i64 k),.d (AT l)])]⟩)
  (fun i=>i≤l.length∧FE ns.length l i) (fun i=>l.length - i) 0 (by simp[AW,lk,St.le,vI,vC,CA,Eb]) ⟨by omega,jim _ _⟩ ?_
 rintro i ⟨hi,hno⟩
 have hlen:=DC (AN ns) hi;have hsz:=HX (w:=WK) (hx i);rw[hlen]at hsz;by_cases h:i<l.length
 ·have g0:l[i]? =some l[i]:=AD h
  by_cases h5:l[i]<0
  ·have ha:an=true:=han.trans (Rw h (.inl h5))
   simp -implicitDefEqProofs[jJ,-qA,-qB,h,g0,i64,h5,ha];rfl
  ·by_cases h6:(ns.length:Int)≤l[i]
   ·have ha:an=true:=han.trans (Rw h (.inr h6))
    simp -implicitDefEqProofs[jJ,-qA,-qB,h,g0,i64,h5,h6,ha];rfl
   ·have g1:=Gi (ns:=ns) (a:=l[i]) (by omega) (by omega)
    have e1:=D9 (AN ns) h;have hns:=jbJ h hno h5 h6;have hnm:=Hc hn l[i];by_cases hi0:i=0
    ·subst hi0;have e2:=H9 WK (AN ns l[0]);rw[CA,List.nil_append]at e1;rw[←e1,Hf]at e2;rw[CA,Eb]at hsz ⊢;simp -implicitDefEqProofs[jJ,-qA,-qB,h,g0,i64,h5,h6,g1,G6,hs3];exact⟨⟨by omega,by omega⟩,by omega,1,⟨rfl,e2.symm⟩,⟨by omega,hns⟩,by omega⟩
    ·have e2:=F2 WK (AN ns l[i]) (H0 (AN ns) hi hi0);rw[←e1,Hf]at e2;have hip:0<i:=by omega
     generalize Ch (A3 WK (mapTo (AN ns) l i))=S at*;simp -implicitDefEqProofs[jJ,-qA,-qB,h,hip,g0,i64,h5,h6,g1,G6,hs3];exact⟨by omega,⟨by omega,by omega⟩,by omega,by omega,i+1,⟨rfl,e2.symm⟩,⟨by omega,hns⟩,by omega⟩
 ·have hi2:i=l.length:=by omega
  subst hi2;have ha:an=false:=han.trans (jfJ hno);rw[Eo]at*;generalize Ch (A3 WK (l.map (AN ns)))=S at*;simp -implicitDefEqProofs[jJ,-qA,-qB,G6,hs2,hF2,ha];omega
theorem jaI(i:Nat)(hi:i<1000)(x:Der)(ns:List ByteArray)(hx:x.Brief)(hl:ns.length≤60)(hn: ∀s∈ns,s.size≤30):
  CallsF Tryz.prog 22 [.c (.int .i64 i),.agg x.ds,.c (A6 ns)] (Br (lineE ns.length x) (CI ns i x)):=by
 have k1:=Wj x.rule;have k2:=Wz x.fact ns hx.m hx.la hx.ld hx.ln hl hn;have kd:=Oj i (by omega) (by omega)
 have hdl:=DX (n:=i) (by omega) (by omega)
 have hpl:=JC hx.m hn hx.ln;have hnl:=JE x.rule;have hfl:=hx.lf;have hfr:=hx.fr;obtain⟨f,r,frm⟩:=x;obtain⟨F,hF⟩: ∃F,F=Ch (CI ns i ⟨f,r,frm⟩):=⟨_,rfl⟩;unfold Br lineE at*;rw[←hF];unfold CI Cc FD at hF;unfold A6 at*;simp only[Der.ds,Fct.ds,List.cons_append,List.nil_append]at*;clear hx;by_cases h0:Bp r=[]
 ·rw[h0]at k1
  rw[if_pos h0]
  refine cO Tryz.func22 rfl ?_;simp -implicitDefEqProofs[jJ,-qA,-qB]
  (first|refine Ac k1 ?_|refine Ae k1 ?_)
  simp -implicitDefEqProofs[jJ,-qA,-qB,Ch,Gw]
 ·rw[if_neg h0]
  have h0':=IY (Im h0);generalize wrong f (ns.length:Int)=e at*;by_cases he:e=0
  ·subst he;rw[if_pos rfl]at k2;have hs2:({ data:= #[46,32] }:ByteArray).size=2:=rfl;have hz1:=Ja (digI i);have hz2:=Ja (Bd f ns);have hz3:=Ja (Bp r);by_cases hr:r=0
   ·subst hr;have hF2:F=Ch (digI i)++{ data:= #[46,32] }++Ch (Bd f ns)++{ data:= #[32,103,105,118,101,110] }:=by
     rw[hF,if_pos rfl,show({ data:= #[46,32] }:ByteArray)=Ch [46,32] from rfl,show({ data:= #[32,103,105,118,101,110] }:ByteArray)=Ch [32,103,105,118,101,110] from rfl,Ng,Ng,Ng]
     simp
    clear hF;have hsg:({ data:= #[32,103,105,118,101,110] }:ByteArray).size=6:=rfl;generalize Ch (digI i)=Dg at*;generalize Ch (Bd f ns)=Pw at*;generalize Ch (Bp 0)=Nm at*;refine cO Tryz.func22 rfl ?_;simp -implicitDefEqProofs[jJ,-qA,-qB]
    (first|refine Ac k1 ?_|refine Ae k1 ?_)
    simp -implicitDefEqProofs[jJ,-qA,-qB,h0']
    (first|refine Ac k2 ?_|refine Ae k2 ?_)
    simp -implicitDefEqProofs[jJ,-qA,-qB]
    (first|refine Ac kd ?_|refine Ae kd ?_)
    simp -implicitDefEqProofs[jJ,-qA,-qB,G6,hs2,hsg,hF2,ByteArray.size_append];omega
   ·rw[if_neg hr]at hF
    have hF2:F=Ch (A3 (digI i++[46,32]++Bd f ns++[32,98,121,32]++Bp r++[32,102,114,111,109,32]) (frm.map digI)):=by
     rw[hF]
     unfold A3;simp
    clear hF;have hW:Ch (digI i)++{ data:= #[46,32] }++Ch (Bd f ns)++{ data:= #[32,98,121,32] }++Ch (Bp r)++{ data:= #[32,102,114,111,109,32] }=Ch (digI i++[46,32]++Bd f ns++[32,98,121,32]++Bp r++[32,102,114,111,109,32]):=by
     rw[show({ data:= #[46,32] }:ByteArray)=Ch [46,32] from rfl,show({ data:= #[32,98,121,32] }:ByteArray)=Ch [32,98,121,32] from rfl,show({ data:= #[32,102,114,111,109,32] }:ByteArray)=Ch [32,102,114,111,109,32] from rfl,
      Ng,Ng,Ng,Ng,Ng]
    have hWl:(digI i++[46,32]++Bd f ns++[32,98,121,32]++Bp r++[32,102,114,111,109,32]).length≤2400:=by
     simp only[List.length_append,List.length_cons,List.length_nil];omega
    generalize digI i++[46,32]++Bd f ns++[32,98,121,32]++Bp r++[32,102,114,111,109,32]=WK at*;have hs4:({ data:= #[32,98,121,32] }:ByteArray).size=4:=rfl;have hs6:({ data:= #[32,102,114,111,109,32] }:ByteArray).size=6:=rfl;have hsc:({ data:= #[44,32] }:ByteArray).size=2:=rfl;generalize Ch (digI i)=Dg at*;generalize Ch (Bd f ns)=Pw at*;generalize Ch (Bp r)=Nm at*;refine cO Tryz.func22 rfl ?_;simp -implicitDefEqProofs[jJ,-qA,-qB]
    (first|refine Ac k1 ?_|refine Ae k1 ?_)
    simp -implicitDefEqProofs[jJ,-qA,-qB,h0']
    (first|refine Ac k2 ?_|refine Ae k2 ?_)
    simp -implicitDefEqProofs[jJ,-qA,-qB]
    (first|refine Ac kd ?_|refine Ae kd ?_)
    simp -implicitDefEqProofs[jJ,-qA,-qB,G6,hs2,hr,ByteArray.size_append];refine⟨by omega,by omega,?_⟩
    refine⟨by omega,?_⟩
    (first|refine Ac k1 ?_|refine Ae k1 ?_)
    simp -implicitDefEqProofs[jJ,-qA,-qB,G6,hs2,hs4,hs6,ByteArray.size_append,hW];refine⟨by omega,by omega,?_⟩
    have hx: ∀k,∀w∈mapTo digI frm k,w.length≤40:=fun k w hw=>by
     unfold mapTo at hw;obtain⟨a,ha,rfl⟩:=jzk.1 hw;have:=hfr a (List.mem_of_mem_take ha);exact DX this.1 this.2
    refine CE [] (fun k:Nat=>⟨[(10,vI .i64 k),(8,vC (.d (.str (Ch (A3 WK (mapTo digI frm k)))))),(4,vC (.ptr 4 0))],
     [(4,.box [.d (.int .i64 f.kind),.d (AT f.args),.d (.bool f.neg),.d (Ad f.abs),.d (Ad f.den),.d (.int .i64 r),.d (AT frm)])]⟩)
     (fun k=>k≤frm.length) (fun k=>frm.length - k) 0 (by simp[AW,lk,St.le,vI,vC,CA,Eb]) (by omega) ?_
    intro k hk;have hlen:=DC digI hk;have hsz:=HX (w:=WK) (hx k);rw[hlen]at hsz;by_cases h:k<frm.length
    ·have g0:frm[k]? =some frm[k]:=AD h
     have hb:=hfr _ (AZ h);have ki:=Oj frm[k] hb.1 hb.2;have hil:=DX hb.1 hb.2;rw[←Ja]at hil;have e1:=D9 digI h;by_cases hk0:k=0
     ·subst hk0;have e2:=H9 WK (digI frm[0]);rw[CA,List.nil_append]at e1;rw[←e1]at e2;rw[CA,Eb]at hsz ⊢;generalize Ch (digI frm[0])=Dk at*;simp -implicitDefEqProofs[jJ,-qA,-qB,h,g0,i64]
      (first|refine Ac ki ?_|refine Ae ki ?_)
      simp -implicitDefEqProofs[jJ,-qA,-qB,G6];exact⟨by omega,1,⟨rfl,e2.symm⟩,by omega,by omega⟩
     ·have e2:=F2 WK (digI frm[k]) (H0 digI hk hk0);rw[←e1]at e2;have hkp:0<k:=by omega
      generalize Ch (digI frm[k])=Dk at*;generalize Ch (A3 WK (mapTo digI frm k))=S at*;simp -implicitDefEqProofs[jJ,-qA,-qB,h,hkp,g0,i64,G6,hsc];refine⟨by omega,?_⟩
      (first|refine Ac ki ?_|refine Ae ki ?_)
      simp -implicitDefEqProofs[jJ,-qA,-qB,G6,hsc,ByteArray.size_append];exact⟨by omega,by omega,k+1,⟨rfl,e2.symm⟩,by omega,by omega⟩
    ·have hk2:k=frm.length:=by omega
     subst hk2;rw[Eo]at*;simp -implicitDefEqProofs[jJ,-qA,-qB,hF2]
  ·rw[if_neg he]at k2
   refine cO Tryz.func22 rfl ?_;simp -implicitDefEqProofs[jJ,-qA,-qB]
   (first|refine Ac k1 ?_|refine Ae k1 ?_)
   simp -implicitDefEqProofs[jJ,-qA,-qB,h0']
   (first|refine Ac k2 ?_|refine Ae k2 ?_)
   simp -implicitDefEqProofs[jJ,-qA,-qB,he];rfl
theorem TE(ds:List Der)(gs:List Grd)(ns:List ByteArray)(hd:ds.length≤12)(hg:gs.length≤12)(hx: ∀x∈ds,x.Brief)(hy: ∀g∈gs,g.args.length≤20)(hl:ns.length≤60)(hn: ∀s∈ns,s.size≤30):
  CallsF Tryz.prog 8 [.agg [Dh ds,Dd gs],.c (A6 ns)] (Br (textE ns.length ds gs) (C4 ns ds gs)):=by
 have hs1:({ data:= #[10] }:ByteArray).size=1:=rfl
 have hw0:=jbL ns ds;have hll: ∀i,i≤ds.length→(Ch (A1 ns ds i)).size≤40800:=fun i hi=>by
  have:=FT hx hn hd i hi
  rw[Ja]
  omega
 have hgl: ∀i,i≤gs.length→(Ch (A1 ns ds ds.length++Bn ns gs i)).size≤50400:=fun i hi=>by
  have h1:=FT hx hn hd ds.length (AO _);have h2:=HD hy hn i hi;rw[Ja,List.length_append];omega
 obtain⟨F,hF⟩: ∃F,F=Ch (C4 ns ds gs):=⟨_,rfl⟩
 obtain⟨e,he⟩: ∃e,e=textE ns.length ds gs:=⟨_,rfl⟩
 unfold Br;rw[←hF,←he];unfold textE at he;unfold C4 at hF;unfold A6 at*;refine cO Tryz.func8 rfl ?_;simp only[Dh,Dd]at*;simp -implicitDefEqProofs[jJ,-qA,-qB,-qF];refine CE [] (fun i:Nat=>⟨[(7,vI .i64 i),(6,vC (.d (.str (Ch (A1 ns ds i))))),(2,vC (.ptr 2 0)),(1,vC (.d (EC D.str ns)))],[(2,.box [.d (.slice ds.length (ds.flatMap Der.ds)),.d (.slice gs.length (gs.flatMap Grd.ds))])]⟩)
  (fun i=>i≤ds.length∧BV (lineE ns.length) ds i) (fun i=>ds.length - i) 0 (by simp[AW,lk,St.le,vI,vC,hw0,Ch]) ⟨by omega,Hi _ _⟩ ?_
 rintro i ⟨hi,hok⟩
 have hli:=hll i hi;by_cases h:i<ds.length
 ·have g:=Kp ds i h;have b1:i*7+7≤ds.length*7:=by omega
  have kl:=jaI i (by omega) ds[i] ns (hx _ (AZ h)) hl hn
  have hN:=HM (i:=i) (hx _ (AZ h)) hn (by omega)
  rw[←Ja]at hN
  have e2:Ch (A1 ns ds i)++Ch (CI ns i ds[i])++{ data:= #[10] }=Ch (A1 ns ds (i+1)):=by
   rw[JJ h,Md,Ng]
  have hat:=fun q=>FU h hok q
  have hsu:=fun q=>GK h hok q
  unfold Br at kl;unfold A6 at kl;generalize lineE ns.length ds[i]=x at*;generalize Ch (CI ns i ds[i])=Li at*;generalize Ch (A1 ns ds i)=S at*;simp only[Der.ds,Fct.ds,List.cons_append,List.nil_append]at kl;by_cases hx0:x=0
  ·subst hx0;rw[if_pos rfl]at kl;simp -implicitDefEqProofs[jJ,-qA,-qB,-qF,h,g];refine⟨by omega,?_⟩
   (first|refine Ac kl ?_|refine Ae kl ?_)
   simp -implicitDefEqProofs[jJ,-qA,-qB,-qF,G6,hs1,ByteArray.size_append];exact⟨by omega,by omega,by omega,i+1,⟨rfl,e2⟩,⟨by omega,hsu rfl⟩,by omega⟩
  ·rw[if_neg hx0]at kl
   rw[hat hx0,if_neg hx0]at he
   subst he;simp -implicitDefEqProofs[jJ,-qA,-qB,-qF,h,g];refine⟨by omega,?_⟩
   (first|refine Ac kl ?_|refine Ae kl ?_)
   simp -implicitDefEqProofs[jJ,-qA,-qB,-qF,hx0];rfl
 ·have hi2:i=ds.length:=by omega
  subst hi2;rw[GS hok,if_pos rfl]at he;simp -implicitDefEqProofs[jJ,-qA,-qB,-qF];refine CE [] (fun i:Nat=>⟨[(10,vI .i64 i),(6,vC (.d (.str (Ch (A1 ns ds ds.length++Bn ns gs i))))),(2,vC (.ptr 2 0)),(1,vC (.d (EC D.str ns)))],[(2,.box [.d (.slice ds.length (ds.flatMap Der.ds)),.d (.slice gs.length (gs.flatMap Grd.ds))])]⟩)
   (fun i=>i≤gs.length∧BV (errG ns.length) gs i) (fun i=>gs.length - i) 0 (by simp[AW,lk,St.le,vI,vC,Bn]) ⟨by omega,Hi _ _⟩ ?_
  rintro i ⟨hi,hok⟩
  have hli:=hgl i hi;by_cases h:i<gs.length
  ·have g:=L3 gs i h;have b1:i*2+2≤gs.length*2:=by omega
   have kl:=Xu gs[i] ns (hy _ (AZ h)) hl hn;have hN:=Je hn (hy _ (AZ h));have hN2:(Ch ([105,102,32]++Bq ns gs[i])).size≤703:=by rw[Ja];simp;omega
   have e2:Ch (A1 ns ds ds.length++Bn ns gs i)++Ch ([105,102,32]++Bq ns gs[i])++{ data:= #[10] }=Ch (A1 ns ds ds.length++Bn ns gs (i+1)):=by
    rw[Ji h,Md,Ng]
    simp
   have hat:=fun q=>FU h hok q
   have hsu:=fun q=>GK h hok q
   unfold Br at kl;unfold A6 at kl;generalize errG ns.length gs[i]=x at*;generalize Ch ([105,102,32]++Bq ns gs[i])=Li at*;generalize Ch (A1 ns ds ds.length++Bn ns gs i)=S at*;simp only[Grd.ds]at kl;by_cases hx0:x=0
   ·subst hx0;rw[if_pos rfl]at kl;simp -implicitDefEqProofs[jJ,-qA,-qB,-qF,h,g];refine⟨by omega,?_⟩
    (first|refine Ac kl ?_|refine Ae kl ?_)
    simp -implicitDefEqProofs[jJ,-qA,-qB,-qF,G6,hs1,ByteArray.size_append];exact⟨by omega,by omega,by omega,i+1,⟨rfl,e2⟩,⟨by omega,hsu rfl⟩,by omega⟩
   ·rw[if_neg hx0]at kl
    rw[hat hx0]at he
    subst he;simp -implicitDefEqProofs[jJ,-qA,-qB,-qF,h,g];refine⟨by omega,?_⟩
    (first|refine Ac kl ?_|refine Ae kl ?_)
    simp -implicitDefEqProofs[jJ,-qA,-qB,-qF,hx0];rfl
  ·have hi2:i=gs.length:=by omega
   subst hi2;rw[GS hok]at he;subst he;simp -implicitDefEqProofs[jJ,-qA,-qB,-qF,hF]
end Go.Va
