/- a part of the proof -/
import Derived.Test.YtlgoebgnbkhmmaaGreatDoorZbt
import Derived.Test.YtlgoebgnbkhmmaaGreatDoorZbm
import Derived.Test.YtlgoebgnbkhmmaaGreatDoorZbn
import Derived.Test.YtlgoebgnbkhmmaaGreatDoorZbr
set_option linter.all false
set_option maxHeartbeats 4000000
set_option maxRecDepth 10000
namespace Go.Va
open Int renaming natCast_add → qA, natCast_mul → qB, natCast_emod → qC, natCast_ediv → qD, natCast_pow → qE
open List renaming reduceReplicate → qF
open Go.Proofs
def X1:List (List Nat):=(Ah [0,1,3,7,15,31,7,71,199,511,1023])
@[simp]def VA:List Seg:=[.one,.one,.one,.any [] [] (Aq [[17,79],[80,79],[81,79],[17,79],[83,79],[84,79]]),.one,.one]
theorem jmp(hA: ∀x:ByteArray,x.size≤100000→Qf x)(ns:List ByteArray)(hN:ns.length≤60)(hn: ∀s∈ns,s.size≤30)(s:ByteArray)(hs:s.size≤100000)(m:Nat)(hm:m≤100000):
  CallsF Tryz.prog 22 [.c (.str s),.c (.int .i64 m),.c (A6 ns)] (.tup [.agg ((derR ns m (B s)).1.ds.map .d),.c (.d (.bool (derR ns m (B s)).2))]):=by
 have ki:=On (n:=m) ⟨by omega,by omega⟩
 have kI:=DX (n:=m) (by omega) (by omega)
 have k1:=VQ s (Ch (A3 m)++{ data:= #[46,32] });rw[show B (Ch (A3 m)++{ data:= #[46,32] })=A3 m++[46,32] from by rw[show({ data:= #[46,32] }:ByteArray)=Ch [46,32] from rfl,Ng];rfl]at k1
 have hb:G6 .add (Ch (A3 m)) { data:= #[46,32] }=some (vC (.d (.str (Ch (A3 m)++{ data:= #[46,32] })))):=by
  simp only[G6,Dz];rw[if_pos (by rw[Ja];show(A3 m).length+2≤_;omega)]
  rfl
 have z0:(Der.none).ds.map RC.d=[.d (.int .i64 0),.d (.slice 0 []),.d (.bool false),.d (.slice 0 []),.d (.slice 0 []),.d (.int .i64 0),.d (.slice 0 [])]:=rfl
 unfold derR;cases h1:Dj (B s) (A3 m++[46,32])with
 |none=>
  rw[h1]at k1
  simp only[KZ,z0]at*;generalize Ch (A3 m)=I at*;refine cO Tryz.func22 rfl ?_;simp -implicitDefEqProofs[jJ,-qA,-qB]
  (first|refine Ac ki ?_|refine Ae ki ?_)
  simp -implicitDefEqProofs[jJ,-qA,-qB,hb]
  (first|refine Ac k1 ?_|refine Ae k1 ?_)
  simp -implicitDefEqProofs[jJ,-qA,-qB]
 |some s1=>
  rw[h1]at k1
  have z1:s1.length≤100000:=by
   have:=congrArg List.length (cutP_some.1 h1)
   rw[Hg,List.length_append]at this
   omega
  have zs:(Ch s1).size≤100000:=by rw[Ja];exact z1
  have k2:=jak (Ch s1) { data:= #[32,103,105,118,101,110] } (by omega)
  rw[Mw,show B { data:= #[32,103,105,118,101,110] }=[32,103,105,118,101,110] from rfl]at k2
  simp only;cases h2:LI s1 [32,103,105,118,101,110]with
  |some t=>
   rw[h2]at k2
   have k3:=jdc ns hN hn (Ch t);rw[Mw]at k3;simp only;generalize readF ns t=r at*;obtain⟨f,b⟩:=r;obtain⟨k,l,n,u,d⟩:=f;simp only[KZ,Der.ds,Fct.ds,List.map_cons,List.map_nil,List.cons_append,List.nil_append]at*;generalize Ch (A3 m)=I at*;generalize Ch s1=S1 at*;generalize Ch t=T at*;refine cO Tryz.func22 rfl ?_;simp -implicitDefEqProofs[jJ,-qA,-qB]
   (first|refine Ac ki ?_|refine Ae ki ?_)
   simp -implicitDefEqProofs[jJ,-qA,-qB,hb]
   (first|refine Ac k1 ?_|refine Ae k1 ?_)
   simp -implicitDefEqProofs[jJ,-qA,-qB]
   (first|refine Ac k2 ?_|refine Ae k2 ?_)
   simp -implicitDefEqProofs[jJ,-qA,-qB]
   (first|refine Ac k3 ?_|refine Ae k3 ?_)
   simp -implicitDefEqProofs[jJ,-qA,-qB];rfl
  |none=>
   rw[h2]at k2
   simp only[KZ]at k1 k2;have k4:CallsF Tryz.prog 21 [.c (.str (Ch s1)),.c (.str { data:= #[32,98,121,32] })] (.tup [.c (.d (.str (Ch (Lib.cut s1 [32,98,121,32]).1))),.c (.d (.str (Ch (Lib.cut s1 [32,98,121,32]).2.1))),.c (.d (.bool (Lib.cut s1 [32,98,121,32]).2.2))]):=UT (Ch s1) { data:= #[32,98,121,32] } (by omega)
   have j1:=P8 (s:=s1) (sep:=[32,98,121,32]);generalize Lib.cut s1 [32,98,121,32]=c at*;obtain⟨c1,c2,c3⟩:=c;simp only at*;cases c3 with
   |false=>
    simp only[if_true,z0];generalize Ch (A3 m)=I at*;generalize Ch s1=S1 at*;generalize Ch c1=C1 at*;generalize Ch c2=C2 at*;refine cO Tryz.func22 rfl ?_;simp -implicitDefEqProofs[jJ,-qA,-qB]
    (first|refine Ac ki ?_|refine Ae ki ?_)
    simp -implicitDefEqProofs[jJ,-qA,-qB,hb]
    (first|refine Ac k1 ?_|refine Ae k1 ?_)
    simp -implicitDefEqProofs[jJ,-qA,-qB]
    (first|refine Ac k2 ?_|refine Ae k2 ?_)
    simp -implicitDefEqProofs[jJ,-qA,-qB]
    (first|refine Ac k4 ?_|refine Ae k4 ?_)
    simp -implicitDefEqProofs[jJ,-qA,-qB]
   |true=>
    have j2:=congrArg List.length (j1 rfl);simp only[List.length_append,List.length_cons,List.length_nil]at j2;have zc2:(Ch c2).size≤100000:=by rw[Ja];omega
    have k5:CallsF Tryz.prog 21 [.c (.str (Ch c2)),.c (.str { data:= #[32,102,114,111,109,32] })] (.tup [.c (.d (.str (Ch (Lib.cut c2 [32,102,114,111,109,32]).1))),.c (.d (.str (Ch (Lib.cut c2 [32,102,114,111,109,32]).2.1))),.c (.d (.bool (Lib.cut c2 [32,102,114,111,109,32]).2.2))]):=UT (Ch c2) { data:= #[32,102,114,111,109,32] } (by omega)
    have j3:=P8 (s:=c2) (sep:=[32,102,114,111,109,32]);rw[if_neg (by simp)]
    generalize Lib.cut c2 [32,102,114,111,109,32]=d at*;obtain⟨d1,d2,d3⟩:=d;simp only at*;have k6:=jgN (Ch d1);rw[Mw]at k6;cases d3 with
    |false=>
     rw[if_pos (.inl rfl),z0]
     generalize ruleR d1=r at*;generalize Ch (A3 m)=I at*;generalize Ch s1=S1 at*;generalize Ch c1=C1 at*;generalize Ch c2=C2 at*;generalize Ch d1=D1 at*;generalize Ch d2=D2 at*;refine cO Tryz.func22 rfl ?_;simp -implicitDefEqProofs[jJ,-qA,-qB]
     (first|refine Ac ki ?_|refine Ae ki ?_)
     simp -implicitDefEqProofs[jJ,-qA,-qB,hb]
     (first|refine Ac k1 ?_|refine Ae k1 ?_)
     simp -implicitDefEqProofs[jJ,-qA,-qB]
     (first|refine Ac k2 ?_|refine Ae k2 ?_)
     simp -implicitDefEqProofs[jJ,-qA,-qB]
     (first|refine Ac k4 ?_|refine Ae k4 ?_)
     simp -implicitDefEqProofs[jJ,-qA,-qB]
     (first|refine Ac k5 ?_|refine Ae k5 ?_)
     simp -implicitDefEqProofs[jJ,-qA,-qB]
     (first|refine Ac k6 ?_|refine Ae k6 ?_)
     simp -implicitDefEqProofs[jJ,-qA,-qB]
    |true=>
     have j4:=congrArg List.length (j3 rfl);simp only[List.length_append,List.length_cons,List.length_nil]at j4;have zd2:(Ch d2).size≤100000:=by rw[Ja];omega
     have k7:=jkT hA (Ch d2) zd2 m hm;rw[Mw]at k7;have k8:=jaw (ruleR d1);have k9:=jdc ns hN hn (Ch c1);rw[Mw]at k9;generalize ruleR d1=r at*;generalize readF ns c1=q at*;obtain⟨⟨k,l,n,u,d⟩,b⟩:=q;simp only[Der.ds,Fct.ds,List.map_cons,List.map_nil,List.cons_append,List.nil_append]at k9;generalize Ch (A3 m)=I at*;generalize Ch s1=S1 at*;generalize Ch c1=C1 at*;generalize Ch c2=C2 at*;generalize Ch d1=D1 at*;generalize Ch d2=D2 at*;by_cases hr:r=0
     ·subst hr;rw[if_pos (.inr rfl),z0];refine cO Tryz.func22 rfl ?_;simp -implicitDefEqProofs[jJ,-qA,-qB]
      (first|refine Ac ki ?_|refine Ae ki ?_)
      simp -implicitDefEqProofs[jJ,-qA,-qB,hb]
      (first|refine Ac k1 ?_|refine Ae k1 ?_)
      simp -implicitDefEqProofs[jJ,-qA,-qB]
      (first|refine Ac k2 ?_|refine Ae k2 ?_)
      simp -implicitDefEqProofs[jJ,-qA,-qB]
      (first|refine Ac k4 ?_|refine Ae k4 ?_)
      simp -implicitDefEqProofs[jJ,-qA,-qB]
      (first|refine Ac k5 ?_|refine Ae k5 ?_)
      simp -implicitDefEqProofs[jJ,-qA,-qB]
      (first|refine Ac k6 ?_|refine Ae k6 ?_)
      simp -implicitDefEqProofs[jJ,-qA,-qB]
     ·rw[if_neg (by simp[hr])]
      cases hf:Qq m d2 with
      |none=>
       rw[hf]at k7
       simp only[Option.getD_none,Option.isSome_none,z0]at*;refine cO Tryz.func22 rfl ?_;simp -implicitDefEqProofs[jJ,-qA,-qB]
       (first|refine Ac ki ?_|refine Ae ki ?_)
       simp -implicitDefEqProofs[jJ,-qA,-qB,hb]
       (first|refine Ac k1 ?_|refine Ae k1 ?_)
       simp -implicitDefEqProofs[jJ,-qA,-qB]
       (first|refine Ac k2 ?_|refine Ae k2 ?_)
       simp -implicitDefEqProofs[jJ,-qA,-qB]
       (first|refine Ac k4 ?_|refine Ae k4 ?_)
       simp -implicitDefEqProofs[jJ,-qA,-qB]
       (first|refine Ac k5 ?_|refine Ae k5 ?_)
       simp -implicitDefEqProofs[jJ,-qA,-qB]
       (first|refine Ac k6 ?_|refine Ae k6 ?_)
       simp -implicitDefEqProofs[jJ,-qA,-qB,hr]
       (first|refine Ac k7 ?_|refine Ae k7 ?_)
       simp -implicitDefEqProofs[jJ,-qA,-qB];refine AA X1 VA (by rfl) ?_
       simp -implicitDefEqProofs[jJ,-qA,-qB]
      |some fl=>
       rw[hf]at k7
       simp only[Option.getD_some,Option.isSome_some]at*;have hlen:lenC (.d (AT fl))=some fl.length:=rfl;by_cases hp:(fl.length:Int)=Md r
       ·simp only[hp,ne_eq,not_true,if_false,Der.ds,Fct.ds,List.map_cons,List.map_nil,List.cons_append,List.nil_append];refine cO Tryz.func22 rfl ?_;simp -implicitDefEqProofs[jJ,-qA,-qB]
        (first|refine Ac ki ?_|refine Ae ki ?_)
        simp -implicitDefEqProofs[jJ,-qA,-qB,hb]
        (first|refine Ac k1 ?_|refine Ae k1 ?_)
        simp -implicitDefEqProofs[jJ,-qA,-qB]
        (first|refine Ac k2 ?_|refine Ae k2 ?_)
        simp -implicitDefEqProofs[jJ,-qA,-qB]
        (first|refine Ac k4 ?_|refine Ae k4 ?_)
        simp -implicitDefEqProofs[jJ,-qA,-qB]
        (first|refine Ac k5 ?_|refine Ae k5 ?_)
        simp -implicitDefEqProofs[jJ,-qA,-qB]
        (first|refine Ac k6 ?_|refine Ae k6 ?_)
        simp -implicitDefEqProofs[jJ,-qA,-qB,hr]
        (first|refine Ac k7 ?_|refine Ae k7 ?_)
        simp -implicitDefEqProofs[jJ,-qA,-qB];refine AA X1 VA (by rfl) ?_
        simp -implicitDefEqProofs[jJ,-qA,-qB,hlen];refine⟨_,k8,?_⟩;simp -implicitDefEqProofs[jJ,-qA,-qB,hp]
        (first|refine Ac k9 ?_|refine Ae k9 ?_)
        simp -implicitDefEqProofs[jJ,-qA,-qB]
       ·simp only[hp,ne_eq,not_false_eq_true,if_true,z0];refine cO Tryz.func22 rfl ?_;simp -implicitDefEqProofs[jJ,-qA,-qB]
        (first|refine Ac ki ?_|refine Ae ki ?_)
        simp -implicitDefEqProofs[jJ,-qA,-qB,hb]
        (first|refine Ac k1 ?_|refine Ae k1 ?_)
        simp -implicitDefEqProofs[jJ,-qA,-qB]
        (first|refine Ac k2 ?_|refine Ae k2 ?_)
        simp -implicitDefEqProofs[jJ,-qA,-qB]
        (first|refine Ac k4 ?_|refine Ae k4 ?_)
        simp -implicitDefEqProofs[jJ,-qA,-qB]
        (first|refine Ac k5 ?_|refine Ae k5 ?_)
        simp -implicitDefEqProofs[jJ,-qA,-qB]
        (first|refine Ac k6 ?_|refine Ae k6 ?_)
        simp -implicitDefEqProofs[jJ,-qA,-qB,hr]
        (first|refine Ac k7 ?_|refine Ae k7 ?_)
        simp -implicitDefEqProofs[jJ,-qA,-qB];refine AA X1 VA (by rfl) ?_
        simp -implicitDefEqProofs[jJ,-qA,-qB,hlen];refine⟨_,k8,?_⟩;simp -implicitDefEqProofs[jJ,-qA,-qB,hp]
def Ms(ns:List ByteArray)(a:Nat):List (Ky×Int):=(ns.zipIdx a).map fun p=>(.s p.1,(p.2:Int))
theorem jjZ(x y:ByteArray):D6 (.s x) (.s y)=decide (y=x):=by
 show(x==y)=_
 by_cases e:y=x
 ·rw[e,Qg];simp
 ·rw[decide_eq_false e]
  cases h:(x==y)
  ·rfl
  ·exact absurd (Qo h).symm e
theorem W7(x:ByteArray): ∀(ns:List ByteArray) (a k:Nat),B5 (.s x) (Ms ns a) k=(F2 x ns).map fun(i:Nat)=>(i+k,((i+a:Nat):Int))
 |[],_,_=>rfl
 |y::l,a,k=>by
  unfold Ms;rw[List.zipIdx_cons,List.map_cons];simp only[B5,jjZ,F2];by_cases e:y=x
  ·rw[if_pos e]
   simp[e]
  ·rw[if_neg e]
   simp only[e,decide_false];rw[if_neg (by simp)]
   have:=W7 x l (a+1) (k+1)
   unfold Ms at this;rw[this];cases F2 x l with
   |none=>rfl
   |some i=>
    simp only[Option.map_some];rw[show i+(k+1)=i+1+k by omega,show i+(a+1)=i+1+a by omega]
theorem jbw(ns:List ByteArray)(a:Nat): ∀(k:Ky) (b:Int),(k,b)∈Ms ns a→k.num=false:=fun k b h=>by
 unfold Ms at h;obtain⟨p,_,e⟩:=jzk.1 h;cases e;rfl
theorem Zj{x:ByteArray}: ∀{ns:List ByteArray},x∉ns→F2 x ns=none
 |[],_=>rfl
 |y::l,h=>by
  unfold F2;rw[if_neg (fun e=>h (by rw[e];simp)),Zj (fun m=>h (List.mem_cons_of_mem _ m))]
  rfl
theorem jg9{ns:List ByteArray}(hn:ns.Nodup){i:Nat}(h:i<ns.length):GY (.s ns[i]) i (Ms (ns.take i) 0)=Ms (ns.take (i+1)) 0:=by
 have hx:ns[i]∉ns.take i:=fun m=>by
  have h1:=List.nodup_append.1 (List.take_append_drop i ns ▸ hn);rw[BQ h]at h1;exact h1.2.2 _ m _ (List.mem_cons_self) rfl
 unfold GY;rw[W7,Zj hx];simp only[Option.map_none];unfold Ms;rw[Cr h,List.zipIdx_append,List.map_append];simp[A8,Bs (Nat.le_of_lt h)]
theorem So{α:Type}{e:α→List D}{k:Nat}(he: ∀a,(e a).length=k)(l:List α):(l.flatMap e).length=l.length*k:=by
 induction l with
 |nil=>simp
 |cons a l ih=>rw[List.flatMap_cons,List.length_append,ih,he,List.length_cons,Nat.succ_mul,Nat.add_comm]
def RQ(l:List Der):C:=if l=[] then .nl else .sl 901 0 l.length
def RO(l:List Der):List (Nat×Blk):=if l=[] then [] else [(901,.row 7 (l.flatMap Der.ds) true)]
def QD(l:List Grd):C:=if l=[] then .nl else .sl 902 0 l.length
def Qk(l:List Grd):List (Nat×Blk):=if l=[] then [] else [(902,.row 2 (l.flatMap Grd.ds) true)]
theorem US{l:List Der}(h:l≠[]):RQ l= .sl 901 0 l.length∧RO l=[(901,.row 7 (l.flatMap Der.ds) true)]:=⟨by unfold RQ;rw[if_neg h],by unfold RO;rw[if_neg h]⟩
theorem Uc{l:List Grd}(h:l≠[]):QD l= .sl 902 0 l.length∧Qk l=[(902,.row 2 (l.flatMap Grd.ds) true)]:=⟨by unfold QD;rw[if_neg h],by unfold Qk;rw[if_neg h]⟩
theorem jcA{f:FuncId}{es:List (Ky×Int)}{t:ByteArray}{v:V}{dst:Option Nat}{st:St}{K:St→Prop}(h:GJ Tryz.prog f [.c (.d (.str t)),.c (.ptr 7 0)] [.ptr 7 0] [.ptr 7 0] (Lb es) (Lb es) v)(hv: ∀x r,v≠ .tr x r)(h7:lk 7 st.h=some (.box [.mp false 20]))(h20:lk 20 st.h=some (.mp (.mp es)))
  (k:K (st.backH dst [7,20] [] [.ptr 7 0] [.ptr 7 0] (Lb es) v)):Kl Tryz.prog dst st K f [] [.c (.d (.str t)),.c (.ptr 7 0)]:=
 .inr (.inr (.inr (.inl (.inr (.inr (.inr (.inr (.inr ⟨rfl,[.ptr 7 0],[.ptr 7 0],Lb es,Lb es,v,[7,20],[],h,hv,⟨fun i b hi=>by
  simp only[Lb,lk]at hi;split at hi
  ·cases hi;rename_i e
   exact⟨by simp[e],_,e ▸ h7,rfl⟩
  ·split at hi<;>cases hi;rename_i e
   exact⟨by simp[e],_,e ▸ h20,rfl⟩,fun i hi=>by
  rcases jzn.1 hi with rfl|hi
  ·rfl
  ·rw[List.mem_singleton.1 hi];rfl,fun i b hi=>by
  simp only[Lb,lk]at hi;split at hi
  ·rename_i e;exact .inl (by simp[e])
  ·split at hi<;>cases hi;rename_i e
   exact .inl (by simp[e])⟩,k⟩))))))))
def PA(r:List Der×List Grd×Int×Int):R:= .tup [.agg [.d (Dh r.1),.d (Dd r.2.1)],.c (.d (.int .i64 r.2.2.1)),.c (.d (.int .i64 r.2.2.2))]
def XL(ns:List ByteArray)(R:List Der×List Grd×Int×Int)(x:ByteArray×List Der×List Grd×Nat):Prop:=R=KQ ns x.2.1 x.2.2.1 x.2.2.2 (B x.1)∧x.1.size+x.2.2.2≤100001∧x.2.1.length+x.2.2.1.length<x.2.2.2
def Ye(ns:List ByteArray)(x:ByteArray×List Der×List Grd×Nat):St:=⟨[(0,vC (.d (.str x.1))),(1,vC (.d (A6 ns))),(4,vC (.ptr 4 0)),(5,vI .i64 x.2.2.2),(6,vI .i64 0),(7,vC (.ptr 7 0)),(10,.u (.clo 16 [.ptr 7 0]))],
 (4,.box [RQ x.2.1,QD x.2.2.1])::(7,.box [.mp false 20])::(20,.mp (.mp (Ms ns 0)))::(RO x.2.1++Qk x.2.2.1)⟩
theorem jdP(hA: ∀x:ByteArray,x.size≤100000→Qf x)(ns:List ByteArray)(hnd:ns.Nodup)(hN:ns.length≤60)(hn: ∀s∈ns,s.size≤30)(s:ByteArray)(hs:s.size≤100000):
  CallsF Tryz.prog 7 [.c (.str s),.c (A6 ns)] (PA (KQ ns [] [] 1 (B s))):=by
 obtain⟨R,hR⟩: ∃R,R=KQ ns [] [] 1 (B s):=⟨_,rfl⟩
 rw[←hR]
 refine cO Tryz.func7 rfl ?_;unfold A6;simp -implicitDefEqProofs[jJ,-qA,-qB];refine CE [] (fun i:Nat=>⟨[(23,vI .i64 i),(22,vI .i64 ns.length),(21,vC (.d (EC D.str ns))),(0,vC (.d (.str s))),(1,vC (.d (EC D.str ns))),(4,vC (.ptr 4 0)),(7,vC (.ptr 7 0))],
  [(4,.box [.nl,.nl]),(7,.box [.mp false 20]),(20,.mp (.mp (Ms (ns.take i) 0)))]⟩) (fun i=>i≤ns.length) (fun i=>ns.length - i) 0
  (by simp[AW,lk,St.le,vI,vC,Ms]) (by omega) ?_
 rintro i hi
 by_cases hlt:i<ns.length
 ·have g0:ns[i]? =some ns[i]:=AD hlt
  have hu:=jg9 hnd hlt;have hm:=jbw (ns.take i) 0;have hkey:C.key? false (.d (.str ns[i]))=some (.s ns[i]):=rfl;simp -implicitDefEqProofs[jJ,-qA,-qB,hlt,g0,hkey,hu];exact⟨hm,by omega,i+1,⟨rfl,rfl⟩,by omega,by omega⟩
 ·have hi2:i=ns.length:=by omega
  subst hi2;rw[BM];simp -implicitDefEqProofs[jJ,-qA,-qB];refine CE [(901,87),(902,64)] (Ye ns) (XL ns R) (fun x=>x.1.size) (s,[],[],1) (by simp[AW,lk,St.le,vI,vC,Ye,RQ,QD,RO,Qk,A6]) ⟨hR,by simp;omega,by simp⟩ ?_
  rintro⟨s,ds,gs,n⟩ ⟨h1,h2,h3⟩
  simp only at h1 h2 h3;have hD:(RQ ds= .nl∧RO ds=[]∧ds=[])∨(RQ ds= .sl 901 0 ds.length∧RO ds=[(901,.row 7 (ds.flatMap Der.ds) true)]∧ds≠[]):=by
   by_cases e:ds=[]
   ·exact .inl ⟨by rw[e];rfl,by rw[e];rfl,e⟩
   ·exact .inr ⟨(US e).1,(US e).2,e⟩
  have hG:(QD gs= .nl∧Qk gs=[]∧gs=[])∨(QD gs= .sl 902 0 gs.length∧Qk gs=[(902,.row 2 (gs.flatMap Grd.ds) true)]∧gs≠[]):=by
   by_cases e:gs=[]
   ·exact .inl ⟨by rw[e];rfl,by rw[e];rfl,e⟩
   ·exact .inr ⟨(Uc e).1,(Uc e).2,e⟩
  have tD:List.take (ds.length*7) (ds.flatMap Der.ds)=ds.flatMap Der.ds:=Ba (Nat.le_of_eq (So Der.ds_len _))
  have tG:List.take (gs.length*2) (gs.flatMap Grd.ds)=gs.flatMap Grd.ds:=Ba (Nat.le_of_eq (So (k:=2) (fun _=>rfl) _))
  unfold Ye;rw[KQ]at h1;by_cases e:s={ data:= #[] }
  ·have eb:=UQ s;rw[if_pos (by rw[e];rfl)]at h1
   subst h1;subst e;unfold PA;rcases hD with⟨d1,d2,d3⟩|⟨d1,d2,d3⟩<;>rcases hG with⟨g1,g2,g3⟩|⟨g1,g2,g3⟩
   all_goals
    simp only[d1,d2,g1,g2,List.nil_append,List.append_nil,List.singleton_append];simp -implicitDefEqProofs[jJ,-qA,-qB,eb];refine⟨?_,?_⟩
    ·first|(rw[d3];rfl)|(rw[tD];rfl)
    ·first|(rw[g3];rfl)|(rw[tG];rfl)
  ·have eb:=U7 e;have hB:B s≠[]:=fun h=>e (by rw[←O9 s,h];rfl)
   rw[if_neg hB]at h1
   have kc:CallsF Tryz.prog 21 [.c (.str s),.c (.str { data:= #[10] })] (.tup [.c (.d (.str (Ch (Lib.cut (B s) [10]).1))),.c (.d (.str (Ch (Lib.cut (B s) [10]).2.1))),.c (.d (.bool (Lib.cut (B s) [10]).2.2))]):=UT s { data:= #[10] } (by omega)
   have j1:=P8 (s:=B s) (sep:=[10]);cases hc:(Lib.cut (B s) [10]).2.2 with
   |false=>
    rw[dif_neg (by rw[hc];simp)]at h1
    rw[hc]at kc
    subst h1;unfold PA;generalize Ch (Lib.cut (B s) [10]).1=C1 at*;generalize Ch (Lib.cut (B s) [10]).2.1=C2 at*;rcases hD with⟨d1,d2,d3⟩|⟨d1,d2,d3⟩<;>rcases hG with⟨g1,g2,g3⟩|⟨g1,g2,g3⟩
    all_goals
     simp only[d1,d2,g1,g2,List.nil_append,List.append_nil,List.singleton_append];simp -implicitDefEqProofs[jJ,-qA,-qB,eb]
     (first|refine Ac kc ?_|refine Ae kc ?_)
     simp -implicitDefEqProofs[jJ,-qA,-qB];exact⟨rfl,rfl⟩
   |true=>
    rw[dif_pos hc]at h1
    rw[hc]at kc
    have j2:=congrArg List.length (j1 hc);rw[List.length_append,List.length_append,Hg]at j2;clear j1 hc;generalize (Lib.cut (B s) [10]).1=p1 at*;generalize (Lib.cut (B s) [10]).2.1=p2 at*;simp only[List.length_cons,List.length_nil]at j2;have z1:(Ch p1).size≤100000:=by rw[Ja];omega
    have z2:(Ch p2).size+1≤s.size:=by rw[Ja];omega
    have kp:=VQ (Ch p1) { data:= #[105,102,32] };rw[Mw,show B { data:= #[105,102,32] }=[105,102,32] from rfl]at kp
    cases hp:Dj p1 [105,102,32]with
    |some t=>
     rw[hp]at h1 kp
     simp only[KZ]at h1 kp;have lt:(Ch t).size≤100000:=by
      have:=congrArg List.length (cutP_some.1 hp)
      rw[List.length_append]at this
      rw[Ja]at z1 ⊢
      omega
     have kg:=jg2 ns (Ms ns 0) (jbw ns 0) (fun x=>by have:=W7 x ns 0 0;simpa using this) hN (Ch t) lt
     rw[Mw]at kg
     cases hg:Nw ns t with
     |none=>
      rw[hg]at h1 kg
      simp only at h1;subst h1;unfold PA;generalize Ch t=T at*;generalize Ch p1=C1 at*;generalize Ch p2=C2 at*;rcases hD with⟨d1,d2,d3⟩|⟨d1,d2,d3⟩<;>rcases hG with⟨g1,g2,g3⟩|⟨g1,g2,g3⟩
      all_goals
       simp only[d1,d2,g1,g2,List.nil_append,List.append_nil,List.singleton_append];simp -implicitDefEqProofs[jJ,-qA,-qB,eb]
       (first|refine Ac kc ?_|refine Ae kc ?_)
       simp -implicitDefEqProofs[jJ,-qA,-qB]
       (first|refine Ac kp ?_|refine Ae kp ?_)
       simp -implicitDefEqProofs[jJ,-qA,-qB,-jeF];refine .inr (jcA kg (fun x r e=>by cases e) rfl rfl ?_)
       simp -implicitDefEqProofs[jJ,-qA,-qB,Lb,TY,St.backH,St.on,Fs,GM,C.same,V.on,U.on,C.on];exact⟨rfl,rfl⟩
     |some g=>
      rw[hg]at h1 kg
      simp only at h1;obtain⟨gk,ga⟩:=g;have hinv:XL ns R (Ch p2,ds,gs++[⟨gk,ga⟩],n+1):=⟨h1,by simp only;omega,by simp only[List.length_append,List.length_singleton];omega⟩
      have hne:gs++[(⟨gk,ga⟩:Grd)]≠[]:=by simp
      have el:(gs++[(⟨gk,ga⟩:Grd)]).length=gs.length+1:=by simp
      have ef:(gs++[(⟨gk,ga⟩:Grd)]).flatMap Grd.ds=gs.flatMap Grd.ds++[.int .i64 gk,AT ga]:=by simp[Grd.ds]
      have hq1:=(Uc hne).1;have hq2:=(Uc hne).2;rw[el]at hq1;rw[ef]at hq2;generalize Ch t=T at*;generalize Ch p1=C1 at*;rcases hD with⟨d1,d2,d3⟩|⟨d1,d2,d3⟩<;>rcases hG with⟨g1,g2,g3⟩|⟨g1,g2,g3⟩
      all_goals
       simp only[d1,d2,g1,g2,List.nil_append,List.append_nil,List.singleton_append];simp -implicitDefEqProofs[jJ,-qA,-qB,eb]
       (first|refine Ac kc ?_|refine Ae kc ?_)
       simp -implicitDefEqProofs[jJ,-qA,-qB]
       (first|refine Ac kp ?_|refine Ae kp ?_)
       simp -implicitDefEqProofs[jJ,-qA,-qB,-jeF];refine .inr (jcA kg (fun x r e=>by cases e) rfl rfl ?_)
       simp -implicitDefEqProofs[jJ,-qA,-qB,Lb,TY,St.backH,St.on,Fs,GM,C.same,V.on,U.on,C.on,tG]
       first
       |exact⟨by omega,Ch p2,ds,gs++[⟨gk,ga⟩],n+1,⟨⟨rfl,rfl⟩,⟨d1.symm,by rw[hq1,g3];rfl⟩,by rw[d2,hq2,g3];simp[AW,lk]⟩,hinv,by omega⟩
       |exact⟨⟨by omega,by omega⟩,by omega,Ch p2,ds,gs++[⟨gk,ga⟩],n+1,⟨⟨rfl,rfl⟩,⟨d1.symm,by rw[hq1]⟩,by rw[d2,hq2];simp[AW,lk]⟩,hinv,by omega⟩
    |none=>
     rw[hp]at h1 kp
     simp only[KZ]at h1 kp;have kd:=jmp hA ns hN hn (Ch p1) z1 ds.length (by omega)
     rw[Mw]at kd
     generalize derR ns ds.length p1=q at*;obtain⟨⟨⟨k,l,ng,ab,dn⟩,r,fr⟩,b⟩:=q;simp only[Der.ds,Fct.ds,List.map_cons,List.map_nil,List.cons_append,List.nil_append]at kd;simp only at h1;generalize Ch p1=C1 at*;cases b with
     |false=>
      rw[if_pos (.inl rfl)]at h1
      subst h1;unfold PA;generalize Ch p2=C2 at*;rcases hD with⟨d1,d2,d3⟩|⟨d1,d2,d3⟩<;>rcases hG with⟨g1,g2,g3⟩|⟨g1,g2,g3⟩
      all_goals
       simp only[d1,d2,g1,g2,List.nil_append,List.append_nil,List.singleton_append]
       try (rw[d3]at kd;change CallsF _ _ [_,.c (.int .i64 0),_] _ at kd)
       simp -implicitDefEqProofs[jJ,-qA,-qB,eb]
       (first|refine Ac kc ?_|refine Ae kc ?_)
       simp -implicitDefEqProofs[jJ,-qA,-qB]
       (first|refine Ac kp ?_|refine Ae kp ?_)
       simp -implicitDefEqProofs[jJ,-qA,-qB]
       (first|refine Ac kd ?_|refine Ae kd ?_)
       simp -implicitDefEqProofs[jJ,-qA,-qB];exact⟨rfl,rfl⟩
     |true=>
      rcases hG with⟨g1,g2,g3⟩|⟨g1,g2,g3⟩
      ·rw[if_neg (by simp[g3])]at h1
       obtain⟨x,hx⟩: ∃x:Der,x=⟨⟨k,l,ng,ab,dn⟩,r,fr⟩:=⟨_,rfl⟩
       rw[←hx]at h1
       have hinv:XL ns R (Ch p2,ds++[x],gs,n+1):=⟨h1,by simp only;omega,by simp only[List.length_append,List.length_singleton];omega⟩
       have hne:ds++[x]≠[]:=by simp
       have el:(ds++[x]).length=ds.length+1:=by simp
       have ef:(ds++[x]).flatMap Der.ds=ds.flatMap Der.ds++[.int .i64 k,AT l,.bool ng,Ad ab,Ad dn,.int .i64 r,AT fr]:=by simp[hx,Der.ds,Fct.ds]
       have hq1:=(US hne).1;have hq2:=(US hne).2;rw[el]at hq1;rw[ef]at hq2;rcases hD with⟨d1,d2,d3⟩|⟨d1,d2,d3⟩
       all_goals
        simp only[d1,d2,g1,g2,List.nil_append,List.append_nil,List.singleton_append]
        try (rw[d3]at kd;change CallsF _ _ [_,.c (.int .i64 0),_] _ at kd)
        simp -implicitDefEqProofs[jJ,-qA,-qB,eb]
        (first|refine Ac kc ?_|refine Ae kc ?_)
        simp -implicitDefEqProofs[jJ,-qA,-qB]
        (first|refine Ac kp ?_|refine Ae kp ?_)
        simp -implicitDefEqProofs[jJ,-qA,-qB]
        (first|refine Ac kd ?_|refine Ae kd ?_)
        simp -implicitDefEqProofs[jJ,-qA,-qB,tD]
        first
        |exact⟨by omega,Ch p2,ds++[x],gs,n+1,⟨⟨rfl,rfl⟩,⟨by rw[hq1,d3];rfl,g1.symm⟩,by rw[g2,hq2,d3];simp[AW,lk]⟩,hinv,by omega⟩
        |exact⟨⟨by omega,by omega⟩,by omega,Ch p2,ds++[x],gs,n+1,⟨⟨rfl,rfl⟩,⟨by rw[hq1],g1.symm⟩,by rw[g2,hq2];simp[AW,lk]⟩,hinv,by omega⟩
      ·rw[if_pos (.inr g3)]at h1
       subst h1;unfold PA;have g0:0<gs.length:=List.length_pos_iff.2 g3;generalize Ch p2=C2 at*;rcases hD with⟨d1,d2,d3⟩|⟨d1,d2,d3⟩
       all_goals
        simp only[d1,d2,g1,g2,List.nil_append,List.append_nil,List.singleton_append]
        try (rw[d3]at kd;change CallsF _ _ [_,.c (.int .i64 0),_] _ at kd)
        simp -implicitDefEqProofs[jJ,-qA,-qB,eb]
        (first|refine Ac kc ?_|refine Ae kc ?_)
        simp -implicitDefEqProofs[jJ,-qA,-qB]
        (first|refine Ac kp ?_|refine Ae kp ?_)
        simp -implicitDefEqProofs[jJ,-qA,-qB]
        (first|refine Ac kd ?_|refine Ae kd ?_)
        simp -implicitDefEqProofs[jJ,-qA,-qB,g0];exact⟨rfl,rfl⟩
end Go.Va
